/- The seat: its types, its functions' contracts, and that they answer so. -/
import Derived.Test.YtnbafdnocjajcaaGreatProg
import Derived.Test.YtnbafdnocjajcaaGreatXe
import Derived.Test.YtnbafdnocjajcaaGreatYb
set_option linter.all false
set_option linter.unusedVariables false
set_option linter.unusedSimpArgs false
set_option linter.unnecessarySimpa false
namespace Dx
open Go
def tab : List (Nat × TI) :=
  
[(3, ⟨.int .i64, 1, false, [.int .i64 (.n 0)], 8⟩),
  (4, ⟨.bool, 1, false, [.bool (.b false)], 1⟩),
  (5, ⟨.int .u8, 1, false, [.int .u8 (.n 0)], 1⟩),
  (22, ⟨.slice 5, 1, false, [.nil], 24⟩),
  (23, ⟨.slice 82, 1, false, [.nil], 24⟩),
  (25, ⟨.struct [(0, 1, false), (1, 1, false)], 2, true, [.nil, .int .i64 (.n 0)], 32⟩),
  (26, ⟨.slice 42, 1, false, [.nil], 24⟩),
  (28, ⟨.struct [(0, 1, false), (1, 2, true), (3, 1, false)], 4, true, [.bool (.b false), .nil, .int .i64 (.n 0), .nil], 64⟩),
  (29, ⟨.slice 3, 1, false, [.nil], 24⟩),
  (36, ⟨.slice 49, 1, false, [.nil], 24⟩),
  (42, ⟨.struct [(0, 1, false), (1, 1, false), (2, 1, false), (3, 1, false)], 4, true, [.int .i64 (.n 0), .int .i64 (.n 0), .int .i64 (.n 0), .int .i64 (.n 0)], 32⟩),
  (49, ⟨.struct [(0, 1, false), (1, 1, false)], 2, true, [.nil, .int .i64 (.n 0)], 32⟩),
  (57, ⟨.slice 75, 1, false, [.nil], 24⟩),
  (60, ⟨.slice 67, 1, false, [.nil], 24⟩),
  (62, ⟨.struct [(0, 4, true), (4, 1, false), (5, 1, false)], 6, true, [.bool (.b false), .nil, .int .i64 (.n 0), .nil, .nil, .nil], 112⟩),
  (67, ⟨.struct [(0, 1, false), (1, 1, false), (2, 1, false), (3, 2, true)], 5, true, [.int .i64 (.n 0), .bool (.b false), .int .i64 (.n 0), .nil, .int .i64 (.n 0)], 56⟩),
  (69, ⟨.struct [(0, 1, false), (1, 1, false)], 2, true, [.int .i64 (.n 0), .int .i64 (.n 0)], 16⟩),
  (70, ⟨.slice 69, 1, false, [.nil], 24⟩),
  (72, ⟨.struct [(0, 1, false), (1, 1, false)], 2, true, [.int .i64 (.n 0), .nil], 32⟩),
  (75, ⟨.struct [(0, 1, false), (1, 1, false), (2, 1, false), (3, 1, false)], 4, true, [.int .i64 (.n 0), .int .i64 (.n 0), .int .i64 (.n 0), .nil], 48⟩),
  (82, ⟨.struct [(0, 1, false), (1, 1, false), (2, 1, false)], 3, true, [.int .i64 (.n 0), .int .i64 (.n 0), .nil], 40⟩),
  (123, ⟨.arr 2 3, 2, true, [.int .i64 (.n 0), .int .i64 (.n 0)], 16⟩),
  (124, ⟨.map 3 123, 1, false, [.any], 8⟩),
  (109, ⟨.struct [(0, 1, false), (1, 1, false)], 2, true, [.nil, .int .i64 (.n 0)], 32⟩)]

def tab' : Tab := getT tab
theorem tab_ok : TabOk Proofs.Tryz.prog (getT tab) := tabB_ok (by kernel_rfl)
end Dx

namespace Dx
open Go Go.Proofs
def eqs : List (Nat × Nat) := [(42, 4), (69, 2)]
theorem eqs_ok : EqOk Tryz.prog (getQ eqs) := eqB_ok (by kernel_rfl)
theorem mixed_ok : Tryz.prog.follows .mixedOrders = true := by kernel_rfl
def rowsS : List (Nat × List Sh) := [(67, [.val, .val, .val, (.arr 82 [.val, .val, .val]), .val])]
def bodyOf (fn : Func) : Code := match fn.body with
  | some b => b
  | none => .skip
def gE (R : List (Nat × List Sh)) (tr : Bool) (E : List (Nat × Nat × Con)) : Env := ⟨getT tab, getQ eqs, getR R, getE E, tr⟩
abbrev hE : How := ⟨getH [], getH [], getH []⟩
abbrev sI (n : Nat) : SV := .int .i64 (.v n)
theorem fo {G : Env} {Φ : Phi} (hG : EnvOk Tryz.prog G Φ) {f : FuncId} (fn : Func) {c : Con} (H : How) {t : Tree} (h : (Tryz.prog.funcs[f]?, fn.body, fn.name == "runtime.NumGoroutine", fnT G H c fn (bodyOf fn)) = (some fn, some (bodyOf fn), false, t)) : Has Tryz.prog f c (fun cs => retOf (den Φ t cs)) := by
  simp only [Prod.mk.injEq] at h
  exact fn_ok hG h.1 h.2.1 h.2.2.1 h.2.2.2
theorem eo {E : Nat → List (Nat × Con)} {R : Rows} {tr : Bool} {Φ : Phi} (h : ∀ f c, c ∈ E f → Has Tryz.prog f c.2 (Φ c.1)) : EnvOk Tryz.prog ⟨getT tab, getQ eqs, R, E, tr⟩ Φ := ⟨tab_ok, eqs_ok, h, mixed_ok⟩
def c_spec_l6Open : Con := ⟨[.own false [.val] [.list] false], [⟨false, [.val, .val], [.list, kI], true⟩]⟩
def g_spec_l6Open : Env := gE rowsS false []
theorem has_spec_l6Open : Has Tryz.prog 40 c_spec_l6Open φ_spec_l6Open := fo (G := g_spec_l6Open) (Φ := ph []) (t := t_spec_l6Open) (eo (getE_ok (hasAll_get trivial))) Tryz.f40 hE (by kernel_rfl)

def c_spec_l6Rd_pick : Con := ⟨[.ptr [.val, .val] [.list, kI], .ro false [kI]], [⟨false, [.val], [kI], false⟩]⟩
def g_spec_l6Rd_pick : Env := gE rowsS false []
theorem has_spec_l6Rd_pick : Has Tryz.prog 59 c_spec_l6Rd_pick φ_spec_l6Rd_pick := fo (G := g_spec_l6Rd_pick) (Φ := ph []) (t := t_spec_l6Rd_pick) (eo (getE_ok (hasAll_get trivial))) Tryz.f59 hE (by kernel_rfl)

def c_spec_l72Rooms : Con := ⟨[.ptr [.val, .val] [.list, kI]], [⟨false, [(.arr 3 [.val])], [.list], false⟩]⟩
def g_spec_l72Rooms : Env := gE rowsS false [(59, 0, c_spec_l6Rd_pick)]
theorem has_spec_l72Rooms : Has Tryz.prog 102 c_spec_l72Rooms φ_spec_l72Rooms := fo (G := g_spec_l72Rooms) (Φ := Φ_spec_l72Rooms) (t := t_spec_l72Rooms) (eo (getE_ok (hasAll_get ⟨has_spec_l6Rd_pick, trivial⟩))) Tryz.f102 hE (by kernel_rfl)

def c_spec_DeskNew : Con := ⟨[], [⟨true, [.val, (.arr 82 [.val, .val, .val]), .val, (.arr 42 [.val, .val, .val, .val])], [.bool, .list, kI, .list], false⟩]⟩
def g_spec_DeskNew : Env := gE rowsS false []
theorem has_spec_DeskNew : Has Tryz.prog 116 c_spec_DeskNew φ_spec_DeskNew := fo (G := g_spec_DeskNew) (Φ := ph []) (t := t_spec_DeskNew) (eo (getE_ok (hasAll_get trivial))) Tryz.f116 hE (by kernel_rfl)

def c_spec_l6In : Con := ⟨[.ro false [kI], .ro false [kI], .ro false [kI]], [⟨false, [.val], [.bool], false⟩]⟩
def g_spec_l6In : Env := gE rowsS false []
theorem has_spec_l6In : Has Tryz.prog 81 c_spec_l6In φ_spec_l6In := fo (G := g_spec_l6In) (Φ := ph []) (t := t_spec_l6In) (eo (getE_ok (hasAll_get trivial))) Tryz.f81 hE (by kernel_rfl)

def c_spec_StockNew : Con := ⟨[.ro false [kI]], [⟨true, [.val, (.arr 69 [.val, .val])], [kI, .list], false⟩, ⟨false, [.val], [.bool], false⟩]⟩
def g_spec_StockNew : Env := gE rowsS false [(81, 0, c_spec_l6In)]
theorem has_spec_StockNew : Has Tryz.prog 138 c_spec_StockNew φ_spec_StockNew := fo (G := g_spec_StockNew) (Φ := Φ_spec_StockNew) (t := t_spec_StockNew) (eo (getE_ok (hasAll_get ⟨has_spec_l6In, trivial⟩))) Tryz.f138 hE (by kernel_rfl)

def c_spec_HouseNew : Con := ⟨[.ro false [kI], .ro false [kI]], [⟨true, [.val, .val, .val, (.arr 82 [.val, .val, .val]), .val], [kI, .bool, kI, .list, kI], false⟩, ⟨false, [.val], [.bool], false⟩]⟩
def g_spec_HouseNew : Env := gE rowsS false [(138, 0, c_spec_StockNew), (81, 1, c_spec_l6In)]
theorem has_spec_HouseNew : Has Tryz.prog 117 c_spec_HouseNew φ_spec_HouseNew := fo (G := g_spec_HouseNew) (Φ := Φ_spec_HouseNew) (t := t_spec_HouseNew) (eo (getE_ok (hasAll_get ⟨has_spec_StockNew, has_spec_l6In, trivial⟩))) Tryz.f117 hE (by kernel_rfl)

def c_spec_WorldNew : Con := ⟨[.ro false [.list]], [⟨true, [.val, (.arr 82 [.val, .val, .val]), .val, (.arr 42 [.val, .val, .val, .val]), (.arr 67 [.val, .val, .val, (.arr 82 [.val, .val, .val]), .val]), (.arr 42 [.val, .val, .val, .val])], [.bool, .list, kI, .list, .list, .list], false⟩, ⟨false, [.val], [.bool], false⟩]⟩
def h_spec_WorldNew : How := ⟨getH [(0, ⟨[kI, .list], [(3, (.bool (.b false))), (5, (sI 0))], [(4, .cells [(.bool (.v 1001)), (.sl 1), (sI 1003), (.sl 2), (.sl 1000), (.sl 3)]), (1000, .arr 67 [.val, .val, .val, (.arr 82 [.val, .val, .val]), .val] (.v 1))], [], 1⟩)],
  getH [],
  getH []⟩
def g_spec_WorldNew : Env := gE rowsS false [(116, 0, c_spec_DeskNew), (117, 1, c_spec_HouseNew)]
theorem has_spec_WorldNew : Has Tryz.prog 74 c_spec_WorldNew φ_spec_WorldNew := fo (G := g_spec_WorldNew) (Φ := Φ_spec_WorldNew) (t := t_spec_WorldNew) (eo (getE_ok (hasAll_get ⟨has_spec_DeskNew, has_spec_HouseNew, trivial⟩))) Tryz.f74 h_spec_WorldNew (by kernel_rfl)

def c_spec_l1Many : Con := ⟨[.ro false [.list]], [⟨false, [.val], [.bool], false⟩]⟩
def h_spec_l1Many : How := ⟨getH [(0, ⟨[kI, kI], [(2, (.bool (.b false))), (3, (sI 0)), (4, (sI 1))], [], [], 0⟩)],
  getH [],
  getH []⟩
def g_spec_l1Many : Env := gE rowsS false [(81, 0, c_spec_l6In)]
theorem has_spec_l1Many : Has Tryz.prog 82 c_spec_l1Many φ_spec_l1Many := fo (G := g_spec_l1Many) (Φ := Φ_spec_l1Many) (t := t_spec_l1Many) (eo (getE_ok (hasAll_get ⟨has_spec_l6In, trivial⟩))) Tryz.f82 h_spec_l1Many (by kernel_rfl)

def c_spec_RecOk : Con := ⟨[.ro true [kI, kI, .list]], [⟨false, [.val], [.bool], false⟩]⟩
def g_spec_RecOk : Env := gE rowsS false [(81, 0, c_spec_l6In), (82, 1, c_spec_l1Many)]
theorem has_spec_RecOk : Has Tryz.prog 44 c_spec_RecOk φ_spec_RecOk := fo (G := g_spec_RecOk) (Φ := Φ_spec_RecOk) (t := t_spec_RecOk) (eo (getE_ok (hasAll_get ⟨has_spec_l6In, has_spec_l1Many, trivial⟩))) Tryz.f44 hE (by kernel_rfl)

def c_spec_l12May : Con := ⟨[.ro false [.list], .ro true [kI, kI, .list]], [⟨false, [.val], [.bool], false⟩]⟩
def g_spec_l12May : Env := gE rowsS false []
theorem has_spec_l12May : Has Tryz.prog 83 c_spec_l12May φ_spec_l12May := fo (G := g_spec_l12May) (Φ := ph []) (t := t_spec_l12May) (eo (getE_ok (hasAll_get trivial))) Tryz.f83 hE (by kernel_rfl)

def c_spec_l12Do : Con := ⟨[.own false [(.arr 49 [.val, .val])] [.list] false, .ro true [kI, kI, .list]], [⟨false, [(.arr 49 [.val, .val])], [.list], false⟩]⟩
def g_spec_l12Do : Env := gE rowsS false []
theorem has_spec_l12Do : Has Tryz.prog 100 c_spec_l12Do φ_spec_l12Do := fo (G := g_spec_l12Do) (Φ := ph []) (t := t_spec_l12Do) (eo (getE_ok (hasAll_get trivial))) Tryz.f100 hE (by kernel_rfl)

def c_spec_l12Of : Con := ⟨[.ro false [.list]], [⟨false, [.val], [.list], false⟩, ⟨false, [.val], [.bool], false⟩]⟩
def h_spec_l12Of : How := ⟨getH [(0, ⟨[kI, .list], [(2, .nil), (3, (.bool (.b false))), (4, (.sl 1000)), (5, (sI 0))], [(1000, .arr 49 [.val, .val] (.v 1))], [0], 1⟩)],
  getH [],
  getH []⟩
def g_spec_l12Of : Env := gE rowsS false [(44, 0, c_spec_RecOk), (83, 1, c_spec_l12May), (100, 2, c_spec_l12Do)]
theorem has_spec_l12Of : Has Tryz.prog 62 c_spec_l12Of φ_spec_l12Of := fo (G := g_spec_l12Of) (Φ := Φ_spec_l12Of) (t := t_spec_l12Of) (eo (getE_ok (hasAll_get ⟨has_spec_RecOk, has_spec_l12May, has_spec_l12Do, trivial⟩))) Tryz.f62 h_spec_l12Of (by kernel_rfl)

def c_spec_l13Trips : Con := ⟨[.ro true [.bool, .list, kI, .list], .ro false [.bool]], [⟨false, [.val], [.list], false⟩]⟩
def g_spec_l13Trips : Env := gE rowsS false [(62, 0, c_spec_l12Of)]
theorem has_spec_l13Trips : Has Tryz.prog 80 c_spec_l13Trips φ_spec_l13Trips := fo (G := g_spec_l13Trips) (Φ := Φ_spec_l13Trips) (t := t_spec_l13Trips) (eo (getE_ok (hasAll_get ⟨has_spec_l12Of, trivial⟩))) Tryz.f80 hE (by kernel_rfl)

def c_spec_l1Add : Con := ⟨[.own true [(.arr 82 [.val, .val, .val]), .val] [.list, kI] false, .own true [.val, .val, .val] [kI, kI, .list] false], [⟨true, [(.arr 82 [.val, .val, .val]), .val], [.list, kI], false⟩, ⟨false, [.val], [.bool], false⟩]⟩
def g_spec_l1Add : Env := gE rowsS false []
theorem has_spec_l1Add : Has Tryz.prog 84 c_spec_l1Add φ_spec_l1Add := fo (G := g_spec_l1Add) (Φ := ph []) (t := t_spec_l1Add) (eo (getE_ok (hasAll_get trivial))) Tryz.f84 hE (by kernel_rfl)

def c_spec_l13Write : Con := ⟨[.own true [.val, (.arr 82 [.val, .val, .val]), .val, (.arr 42 [.val, .val, .val, .val])] [.bool, .list, kI, .list] false, .own true [.val, .val, .val] [kI, kI, .list] false], [⟨true, [.val, (.arr 82 [.val, .val, .val]), .val, (.arr 42 [.val, .val, .val, .val])], [.bool, .list, kI, .list], false⟩, ⟨false, [.val], [.bool], false⟩]⟩
def g_spec_l13Write : Env := gE rowsS false [(80, 0, c_spec_l13Trips), (83, 1, c_spec_l12May), (84, 2, c_spec_l1Add)]
theorem has_spec_l13Write : Has Tryz.prog 45 c_spec_l13Write φ_spec_l13Write := fo (G := g_spec_l13Write) (Φ := Φ_spec_l13Write) (t := t_spec_l13Write) (eo (getE_ok (hasAll_get ⟨has_spec_l13Trips, has_spec_l12May, has_spec_l1Add, trivial⟩))) Tryz.f45 hE (by kernel_rfl)

def c_spec_l13Told : Con := ⟨[.ro false [.list], .ro true [kI, kI, kI, kI]], [⟨false, [.val], [.bool], false⟩]⟩
def h_spec_l13Told : How := ⟨getH [(0, ⟨[kI], [(4, (.bool (.b false))), (5, (sI 0))], [], [], 0⟩)],
  getH [],
  getH []⟩
def g_spec_l13Told : Env := gE rowsS false []
theorem has_spec_l13Told : Has Tryz.prog 65 c_spec_l13Told φ_spec_l13Told := fo (G := g_spec_l13Told) (Φ := ph []) (t := t_spec_l13Told) (eo (getE_ok (hasAll_get trivial))) Tryz.f65 h_spec_l13Told (by kernel_rfl)

def c_spec_l13Words : Con := ⟨[.ro true [.bool, .list, kI, .list]], [⟨false, [.val], [.list], false⟩]⟩
def h_spec_l13Words : How := ⟨getH [(0, ⟨[kI, .list], [(3, (.sl 1000)), (5, (sI 0))], [(1000, .arr 42 [.val, .val, .val, .val] (.v 1))], [1], 1⟩), (2, ⟨[kI, .list], [(3, (.sl 1000)), (6, (sI 0))], [(1000, .arr 42 [.val, .val, .val, .val] (.v 1))], [2], 1⟩)],
  getH [],
  getH []⟩
def g_spec_l13Words : Env := gE rowsS false [(80, 0, c_spec_l13Trips), (65, 1, c_spec_l13Told)]
theorem has_spec_l13Words : Has Tryz.prog 97 c_spec_l13Words φ_spec_l13Words := fo (G := g_spec_l13Words) (Φ := Φ_spec_l13Words) (t := t_spec_l13Words) (eo (getE_ok (hasAll_get ⟨has_spec_l13Trips, has_spec_l13Told, trivial⟩))) Tryz.f97 h_spec_l13Words (by kernel_rfl)

def c_spec_l21Put : Con := ⟨[.own true [.val, (.arr 82 [.val, .val, .val]), .val, (.arr 42 [.val, .val, .val, .val]), (.arr 67 [.val, .val, .val, (.arr 82 [.val, .val, .val]), .val]), (.arr 42 [.val, .val, .val, .val])] [.bool, .list, kI, .list, .list, .list] false, .ro true [kI, kI, kI, kI]], [⟨true, [.val, (.arr 82 [.val, .val, .val]), .val, (.arr 42 [.val, .val, .val, .val]), (.arr 67 [.val, .val, .val, (.arr 82 [.val, .val, .val]), .val]), (.arr 42 [.val, .val, .val, .val])], [.bool, .list, kI, .list, .list, .list], false⟩]⟩
def g_spec_l21Put : Env := gE rowsS false []
theorem has_spec_l21Put : Has Tryz.prog 139 c_spec_l21Put φ_spec_l21Put := fo (G := g_spec_l21Put) (Φ := ph []) (t := t_spec_l21Put) (eo (getE_ok (hasAll_get trivial))) Tryz.f139 hE (by kernel_rfl)

def c_spec_l21Desk : Con := ⟨[.own true [.val, (.arr 82 [.val, .val, .val]), .val, (.arr 42 [.val, .val, .val, .val]), (.arr 67 [.val, .val, .val, (.arr 82 [.val, .val, .val]), .val]), (.arr 42 [.val, .val, .val, .val])] [.bool, .list, kI, .list, .list, .list] false, .ro true [kI, kI, kI, .list]], [⟨true, [.val, (.arr 82 [.val, .val, .val]), .val, (.arr 42 [.val, .val, .val, .val]), (.arr 67 [.val, .val, .val, (.arr 82 [.val, .val, .val]), .val]), (.arr 42 [.val, .val, .val, .val])], [.bool, .list, kI, .list, .list, .list], false⟩]⟩
def g_spec_l21Desk : Env := gE rowsS false [(80, 0, c_spec_l13Trips), (44, 1, c_spec_RecOk), (45, 2, c_spec_l13Write), (81, 3, c_spec_l6In), (97, 4, c_spec_l13Words), (139, 5, c_spec_l21Put)]
theorem has_spec_l21Desk : Has Tryz.prog 118 c_spec_l21Desk φ_spec_l21Desk := fo (G := g_spec_l21Desk) (Φ := Φ_spec_l21Desk) (t := t_spec_l21Desk) (eo (getE_ok (hasAll_get ⟨has_spec_l13Trips, has_spec_RecOk, has_spec_l13Write, has_spec_l6In, has_spec_l13Words, has_spec_l21Put, trivial⟩))) Tryz.f118 hE (by kernel_rfl)

def c_spec_l21Take : Con := ⟨[.own true [.val, (.arr 82 [.val, .val, .val]), .val, (.arr 42 [.val, .val, .val, .val]), (.arr 67 [.val, .val, .val, (.arr 82 [.val, .val, .val]), .val]), (.arr 42 [.val, .val, .val, .val])] [.bool, .list, kI, .list, .list, .list] false, .ro false [kI]], [⟨true, [.val, (.arr 82 [.val, .val, .val]), .val, (.arr 42 [.val, .val, .val, .val]), (.arr 67 [.val, .val, .val, (.arr 82 [.val, .val, .val]), .val]), (.arr 42 [.val, .val, .val, .val])], [.bool, .list, kI, .list, .list, .list], false⟩]⟩
def g_spec_l21Take : Env := gE rowsS false []
theorem has_spec_l21Take : Has Tryz.prog 140 c_spec_l21Take φ_spec_l21Take := fo (G := g_spec_l21Take) (Φ := ph []) (t := t_spec_l21Take) (eo (getE_ok (hasAll_get trivial))) Tryz.f140 hE (by kernel_rfl)

def c_spec_WordOk : Con := ⟨[.ro true [kI, kI, kI, kI]], [⟨false, [.val], [.bool], false⟩]⟩
def g_spec_WordOk : Env := gE rowsS false [(81, 0, c_spec_l6In)]
theorem has_spec_WordOk : Has Tryz.prog 64 c_spec_WordOk φ_spec_WordOk := fo (G := g_spec_WordOk) (Φ := Φ_spec_WordOk) (t := t_spec_WordOk) (eo (getE_ok (hasAll_get ⟨has_spec_l6In, trivial⟩))) Tryz.f64 hE (by kernel_rfl)

def c_spec_l13Any : Con := ⟨[.ro true [.bool, .list, kI, .list], .ro false [kI], .ro false [.list], .ro false [kI]], [⟨false, [.val], [.bool], false⟩]⟩
def h_spec_l13Any : How := ⟨getH [(0, ⟨[kI], [(8, (.bool (.b false))), (9, (sI 0))], [], [], 0⟩)],
  getH [],
  getH []⟩
def g_spec_l13Any : Env := gE rowsS false [(65, 0, c_spec_l13Told)]
theorem has_spec_l13Any : Has Tryz.prog 132 c_spec_l13Any φ_spec_l13Any := fo (G := g_spec_l13Any) (Φ := Φ_spec_l13Any) (t := t_spec_l13Any) (eo (getE_ok (hasAll_get ⟨has_spec_l13Told, trivial⟩))) Tryz.f132 h_spec_l13Any (by kernel_rfl)

def c_spec_l13All : Con := ⟨[.ro true [.bool, .list, kI, .list], .ro false [kI], .ro false [.list], .ro false [kI]], [⟨false, [.val], [.bool], false⟩]⟩
def h_spec_l13All : How := ⟨getH [(0, ⟨[kI], [(8, (.bool (.b false))), (9, (sI 0))], [], [], 0⟩)],
  getH [],
  getH []⟩
def g_spec_l13All : Env := gE rowsS false [(65, 0, c_spec_l13Told)]
theorem has_spec_l13All : Has Tryz.prog 133 c_spec_l13All φ_spec_l13All := fo (G := g_spec_l13All) (Φ := Φ_spec_l13All) (t := t_spec_l13All) (eo (getE_ok (hasAll_get ⟨has_spec_l13Told, trivial⟩))) Tryz.f133 h_spec_l13All (by kernel_rfl)

def c_spec_l13Decide : Con := ⟨[.own true [.val, (.arr 82 [.val, .val, .val]), .val, (.arr 42 [.val, .val, .val, .val])] [.bool, .list, kI, .list] false, .ro false [kI]], [⟨true, [.val, (.arr 82 [.val, .val, .val]), .val, (.arr 42 [.val, .val, .val, .val])], [.bool, .list, kI, .list], false⟩]⟩
def h_spec_l13Decide : How := ⟨getH [],
  getH [(9, ⟨[.bool], [(47, (.bool (.v 0)))], [], [], 0⟩), (7, ⟨[.bool], [(36, (.bool (.v 0)))], [], [], 0⟩), (5, ⟨[.bool], [(8, (.bool (.v 0)))], [], [], 0⟩)],
  getH []⟩
def g_spec_l13Decide : Env := gE rowsS false [(80, 0, c_spec_l13Trips), (132, 1, c_spec_l13Any), (133, 2, c_spec_l13All), (45, 3, c_spec_l13Write)]
theorem has_spec_l13Decide : Has Tryz.prog 99 c_spec_l13Decide φ_spec_l13Decide := fo (G := g_spec_l13Decide) (Φ := Φ_spec_l13Decide) (t := t_spec_l13Decide) (eo (getE_ok (hasAll_get ⟨has_spec_l13Trips, has_spec_l13Any, has_spec_l13All, has_spec_l13Write, trivial⟩))) Tryz.f99 h_spec_l13Decide (by kernel_rfl)

def c_spec_l13Hear : Con := ⟨[.own true [.val, (.arr 82 [.val, .val, .val]), .val, (.arr 42 [.val, .val, .val, .val])] [.bool, .list, kI, .list] false, .ro true [kI, kI, kI, kI]], [⟨true, [.val, (.arr 82 [.val, .val, .val]), .val, (.arr 42 [.val, .val, .val, .val])], [.bool, .list, kI, .list], false⟩]⟩
def g_spec_l13Hear : Env := gE rowsS false [(64, 0, c_spec_WordOk), (80, 1, c_spec_l13Trips), (65, 2, c_spec_l13Told), (99, 3, c_spec_l13Decide)]
theorem has_spec_l13Hear : Has Tryz.prog 61 c_spec_l13Hear φ_spec_l13Hear := fo (G := g_spec_l13Hear) (Φ := Φ_spec_l13Hear) (t := t_spec_l13Hear) (eo (getE_ok (hasAll_get ⟨has_spec_WordOk, has_spec_l13Trips, has_spec_l13Told, has_spec_l13Decide, trivial⟩))) Tryz.f61 hE (by kernel_rfl)

def c_spec_l2Free : Con := ⟨[.ro true [kI, .list]], [⟨false, [.val], [kI], false⟩]⟩
def h_spec_l2Free : How := ⟨getH [(0, ⟨[kI, kI], [(3, (sI 0)), (4, (sI 1))], [], [], 0⟩)],
  getH [],
  getH []⟩
def g_spec_l2Free : Env := gE rowsS false []
theorem has_spec_l2Free : Has Tryz.prog 163 c_spec_l2Free φ_spec_l2Free := fo (G := g_spec_l2Free) (Φ := ph []) (t := t_spec_l2Free) (eo (getE_ok (hasAll_get trivial))) Tryz.f163 h_spec_l2Free (by kernel_rfl)

def c_spec_l2May : Con := ⟨[.ro true [kI, .list], .ro true [kI, kI, .list]], [⟨false, [.val], [.bool], false⟩]⟩
def g_spec_l2May : Env := gE rowsS false [(163, 0, c_spec_l2Free)]
theorem has_spec_l2May : Has Tryz.prog 158 c_spec_l2May φ_spec_l2May := fo (G := g_spec_l2May) (Φ := Φ_spec_l2May) (t := t_spec_l2May) (eo (getE_ok (hasAll_get ⟨has_spec_l2Free, trivial⟩))) Tryz.f158 hE (by kernel_rfl)

def c_spec_l2Do : Con := ⟨[.own true [.val, (.arr 69 [.val, .val])] [kI, .list] false, .ro true [kI, kI, .list]], [⟨true, [.val, (.arr 69 [.val, .val])], [kI, .list], false⟩]⟩
def g_spec_l2Do : Env := gE rowsS false []
theorem has_spec_l2Do : Has Tryz.prog 167 c_spec_l2Do φ_spec_l2Do := fo (G := g_spec_l2Do) (Φ := ph []) (t := t_spec_l2Do) (eo (getE_ok (hasAll_get trivial))) Tryz.f167 hE (by kernel_rfl)

def c_spec_l2Of : Con := ⟨[.ro false [kI], .ro false [.list]], [⟨true, [.val, .val], [kI, .list], false⟩, ⟨false, [.val], [.bool], false⟩]⟩
def h_spec_l2Of : How := ⟨getH [(0, ⟨[kI, kI, .list], [(5, (.bool (.b false))), (8, (sI 0))], [(2, .cells [(sI 1), (.sl 1000)]), (1000, .arr 69 [.val, .val] (.v 2))], [1], 1⟩)],
  getH [],
  getH []⟩
def g_spec_l2Of : Env := gE rowsS false [(138, 0, c_spec_StockNew), (44, 1, c_spec_RecOk), (158, 2, c_spec_l2May), (167, 3, c_spec_l2Do)]
theorem has_spec_l2Of : Has Tryz.prog 162 c_spec_l2Of φ_spec_l2Of := fo (G := g_spec_l2Of) (Φ := Φ_spec_l2Of) (t := t_spec_l2Of) (eo (getE_ok (hasAll_get ⟨has_spec_StockNew, has_spec_RecOk, has_spec_l2May, has_spec_l2Do, trivial⟩))) Tryz.f162 h_spec_l2Of (by kernel_rfl)

def c_spec_l11Stock : Con := ⟨[.ro true [kI, .bool, kI, .list, kI], .ro false [.bool]], [⟨true, [.val, .val], [kI, .list], false⟩]⟩
def g_spec_l11Stock : Env := gE rowsS false [(162, 0, c_spec_l2Of)]
theorem has_spec_l11Stock : Has Tryz.prog 156 c_spec_l11Stock φ_spec_l11Stock := fo (G := g_spec_l11Stock) (Φ := Φ_spec_l11Stock) (t := t_spec_l11Stock) (eo (getE_ok (hasAll_get ⟨has_spec_l2Of, trivial⟩))) Tryz.f156 hE (by kernel_rfl)

def c_spec_l11Rec : Con := ⟨[.ro true [kI, kI, kI, kI]], [⟨true, [.val, .val, .val], [kI, kI, .list], false⟩]⟩
def g_spec_l11Rec : Env := gE rowsS false []
theorem has_spec_l11Rec : Has Tryz.prog 157 c_spec_l11Rec φ_spec_l11Rec := fo (G := g_spec_l11Rec) (Φ := ph []) (t := t_spec_l11Rec) (eo (getE_ok (hasAll_get trivial))) Tryz.f157 hE (by kernel_rfl)

def c_spec_l11Answer : Con := ⟨[.ro true [kI, .bool, kI, .list, kI], .ro true [kI, kI, kI, kI], .ro false [kI]], [⟨true, [.val, .val, .val, .val], [kI, kI, kI, kI], false⟩, ⟨false, [.val], [.bool], false⟩]⟩
def h_spec_l11Answer : How := ⟨getH [],
  getH [(6, ⟨[.bool], [(28, (.bool (.v 0)))], [], [], 0⟩), (4, ⟨[.bool], [(15, (.bool (.v 0)))], [], [], 0⟩)],
  getH []⟩
def g_spec_l11Answer : Env := gE rowsS false []
theorem has_spec_l11Answer : Has Tryz.prog 159 c_spec_l11Answer φ_spec_l11Answer := fo (G := g_spec_l11Answer) (Φ := ph []) (t := t_spec_l11Answer) (eo (getE_ok (hasAll_get trivial))) Tryz.f159 h_spec_l11Answer (by kernel_rfl)

def c_spec_l11Hear : Con := ⟨[.own true [.val, .val, .val, (.arr 82 [.val, .val, .val]), .val] [kI, .bool, kI, .list, kI] false, .ro true [kI, kI, kI, kI]], [⟨true, [.val, .val, .val, (.arr 82 [.val, .val, .val]), .val], [kI, .bool, kI, .list, kI], false⟩, ⟨true, [.val, .val, .val, .val], [kI, kI, kI, kI], false⟩, ⟨false, [.val], [.bool], false⟩]⟩
def g_spec_l11Hear : Env := gE rowsS false [(64, 0, c_spec_WordOk), (156, 1, c_spec_l11Stock), (157, 2, c_spec_l11Rec), (158, 3, c_spec_l2May), (84, 4, c_spec_l1Add), (159, 5, c_spec_l11Answer)]
theorem has_spec_l11Hear : Has Tryz.prog 151 c_spec_l11Hear φ_spec_l11Hear := fo (G := g_spec_l11Hear) (Φ := Φ_spec_l11Hear) (t := t_spec_l11Hear) (eo (getE_ok (hasAll_get ⟨has_spec_WordOk, has_spec_l11Stock, has_spec_l11Rec, has_spec_l2May, has_spec_l1Add, has_spec_l11Answer, trivial⟩))) Tryz.f151 hE (by kernel_rfl)

def c_spec_l21Hear : Con := ⟨[.own true [.val, (.arr 82 [.val, .val, .val]), .val, (.arr 42 [.val, .val, .val, .val]), (.arr 67 [.val, .val, .val, (.arr 82 [.val, .val, .val]), .val]), (.arr 42 [.val, .val, .val, .val])] [.bool, .list, kI, .list, .list, .list] false, .ro true [kI, kI, kI, kI]], [⟨true, [.val, (.arr 82 [.val, .val, .val]), .val, (.arr 42 [.val, .val, .val, .val]), (.arr 67 [.val, .val, .val, (.arr 82 [.val, .val, .val]), .val]), (.arr 42 [.val, .val, .val, .val])], [.bool, .list, kI, .list, .list, .list], false⟩, ⟨true, [.val, .val, .val, .val], [kI, kI, kI, kI], false⟩, ⟨false, [.val], [.bool], false⟩]⟩
def g_spec_l21Hear : Env := gE rowsS false [(61, 0, c_spec_l13Hear), (151, 1, c_spec_l11Hear)]
theorem has_spec_l21Hear : Has Tryz.prog 141 c_spec_l21Hear φ_spec_l21Hear := fo (G := g_spec_l21Hear) (Φ := Φ_spec_l21Hear) (t := t_spec_l21Hear) (eo (getE_ok (hasAll_get ⟨has_spec_l13Hear, has_spec_l11Hear, trivial⟩))) Tryz.f141 hE (by kernel_rfl)

def c_spec_l21Net : Con := ⟨[.own true [.val, (.arr 82 [.val, .val, .val]), .val, (.arr 42 [.val, .val, .val, .val]), (.arr 67 [.val, .val, .val, (.arr 82 [.val, .val, .val]), .val]), (.arr 42 [.val, .val, .val, .val])] [.bool, .list, kI, .list, .list, .list] false, .ro true [kI, kI, kI, .list]], [⟨true, [.val, (.arr 82 [.val, .val, .val]), .val, (.arr 42 [.val, .val, .val, .val]), (.arr 67 [.val, .val, .val, (.arr 82 [.val, .val, .val]), .val]), (.arr 42 [.val, .val, .val, .val])], [.bool, .list, kI, .list, .list, .list], false⟩]⟩
def g_spec_l21Net : Env := gE rowsS false [(81, 0, c_spec_l6In), (140, 1, c_spec_l21Take), (139, 2, c_spec_l21Put), (141, 3, c_spec_l21Hear)]
theorem has_spec_l21Net : Has Tryz.prog 119 c_spec_l21Net φ_spec_l21Net := fo (G := g_spec_l21Net) (Φ := Φ_spec_l21Net) (t := t_spec_l21Net) (eo (getE_ok (hasAll_get ⟨has_spec_l6In, has_spec_l21Take, has_spec_l21Put, has_spec_l21Hear, trivial⟩))) Tryz.f119 hE (by kernel_rfl)

def c_spec_l21Force : Con := ⟨[.own true [.val, (.arr 82 [.val, .val, .val]), .val, (.arr 42 [.val, .val, .val, .val]), (.arr 67 [.val, .val, .val, (.arr 82 [.val, .val, .val]), .val]), (.arr 42 [.val, .val, .val, .val])] [.bool, .list, kI, .list, .list, .list] false, .ro false [kI]], [⟨true, [.val, (.arr 82 [.val, .val, .val]), .val, (.arr 42 [.val, .val, .val, .val]), (.arr 67 [.val, .val, .val, (.arr 82 [.val, .val, .val]), .val]), (.arr 42 [.val, .val, .val, .val])], [.bool, .list, kI, .list, .list, .list], false⟩]⟩
def h_spec_l21Force : How := ⟨getH [],
  getH [(3, ⟨[kI], [], [(4, .cells [(.bool (.v 1000)), (.sl 0), (sI 0), (.sl 1), (.sl 2), (.sl 3)])], [], 0⟩)],
  getH []⟩
def g_spec_l21Force : Env := gE rowsS false [(81, 0, c_spec_l6In)]
theorem has_spec_l21Force : Has Tryz.prog 142 c_spec_l21Force φ_spec_l21Force := fo (G := g_spec_l21Force) (Φ := Φ_spec_l21Force) (t := t_spec_l21Force) (eo (getE_ok (hasAll_get ⟨has_spec_l6In, trivial⟩))) Tryz.f142 h_spec_l21Force (by kernel_rfl)

def c_spec_l1Fall : Con := ⟨[.own true [(.arr 82 [.val, .val, .val]), .val] [.list, kI] false, .ro false [kI]], [⟨true, [(.arr 82 [.val, .val, .val]), .val], [.list, kI], false⟩]⟩
def g_spec_l1Fall : Env := gE rowsS true []
theorem has_spec_l1Fall : Has Tryz.prog 144 c_spec_l1Fall φ_spec_l1Fall := fo (G := g_spec_l1Fall) (Φ := ph []) (t := t_spec_l1Fall) (eo (getE_ok (hasAll_get trivial))) Tryz.f144 hE (by kernel_rfl)

def c_spec_l13Fall : Con := ⟨[.own true [.val, (.arr 82 [.val, .val, .val]), .val, (.arr 42 [.val, .val, .val, .val])] [.bool, .list, kI, .list] false, .ro false [kI]], [⟨true, [.val, (.arr 82 [.val, .val, .val]), .val, (.arr 42 [.val, .val, .val, .val])], [.bool, .list, kI, .list], false⟩]⟩
def g_spec_l13Fall : Env := gE rowsS false [(144, 0, c_spec_l1Fall)]
theorem has_spec_l13Fall : Has Tryz.prog 143 c_spec_l13Fall φ_spec_l13Fall := fo (G := g_spec_l13Fall) (Φ := Φ_spec_l13Fall) (t := t_spec_l13Fall) (eo (getE_ok (hasAll_get ⟨has_spec_l1Fall, trivial⟩))) Tryz.f143 hE (by kernel_rfl)

def c_spec_l21Node : Con := ⟨[.own true [.val, (.arr 82 [.val, .val, .val]), .val, (.arr 42 [.val, .val, .val, .val]), (.arr 67 [.val, .val, .val, (.arr 82 [.val, .val, .val]), .val]), (.arr 42 [.val, .val, .val, .val])] [.bool, .list, kI, .list, .list, .list] false, .ro true [kI, kI, kI, .list]], [⟨true, [.val, (.arr 82 [.val, .val, .val]), .val, (.arr 42 [.val, .val, .val, .val]), (.arr 67 [.val, .val, .val, (.arr 82 [.val, .val, .val]), .val]), (.arr 42 [.val, .val, .val, .val])], [.bool, .list, kI, .list, .list, .list], false⟩]⟩
def g_spec_l21Node : Env := gE rowsS false [(81, 0, c_spec_l6In), (142, 1, c_spec_l21Force), (143, 2, c_spec_l13Fall), (144, 3, c_spec_l1Fall)]
theorem has_spec_l21Node : Has Tryz.prog 120 c_spec_l21Node φ_spec_l21Node := fo (G := g_spec_l21Node) (Φ := Φ_spec_l21Node) (t := t_spec_l21Node) (eo (getE_ok (hasAll_get ⟨has_spec_l6In, has_spec_l21Force, has_spec_l13Fall, has_spec_l1Fall, trivial⟩))) Tryz.f120 hE (by kernel_rfl)

def c_spec_l21Do : Con := ⟨[.own true [.val, (.arr 82 [.val, .val, .val]), .val, (.arr 42 [.val, .val, .val, .val]), (.arr 67 [.val, .val, .val, (.arr 82 [.val, .val, .val]), .val]), (.arr 42 [.val, .val, .val, .val])] [.bool, .list, kI, .list, .list, .list] false, .ro true [kI, kI, kI, .list]], [⟨true, [.val, (.arr 82 [.val, .val, .val]), .val, (.arr 42 [.val, .val, .val, .val]), (.arr 67 [.val, .val, .val, (.arr 82 [.val, .val, .val]), .val]), (.arr 42 [.val, .val, .val, .val])], [.bool, .list, kI, .list, .list, .list], false⟩]⟩
def h_spec_l21Do : How := ⟨getH [],
  getH [(5, ⟨[.bool], [(7, (.bool (.v 0)))], [], [], 0⟩)],
  getH []⟩
def g_spec_l21Do : Env := gE rowsS false [(118, 0, c_spec_l21Desk), (119, 1, c_spec_l21Net), (120, 2, c_spec_l21Node)]
theorem has_spec_l21Do : Has Tryz.prog 75 c_spec_l21Do φ_spec_l21Do := fo (G := g_spec_l21Do) (Φ := Φ_spec_l21Do) (t := t_spec_l21Do) (eo (getE_ok (hasAll_get ⟨has_spec_l21Desk, has_spec_l21Net, has_spec_l21Node, trivial⟩))) Tryz.f75 h_spec_l21Do (by kernel_rfl)

def c_spec_l72Event : Con := ⟨[.ptr [.val, .val] [.list, kI], .ro true [.bool, .list, kI, .list, .list, .list]], [⟨true, [.val, .val, .val, .val], [kI, kI, kI, .list], false⟩]⟩
def h_spec_l72Event : How := ⟨getH [],
  getH [(25, ⟨[.bool], [(77, (.bool (.v 0)))], [], [], 0⟩), (17, ⟨[.bool], [(52, (.bool (.v 0)))], [], [], 0⟩), (9, ⟨[.bool], [(32, (.bool (.v 0)))], [], [], 0⟩), (6, ⟨[.list, kI], [], [(0, .cells [(.view true (.v 0)), (sI 1)])], [], 0⟩)],
  getH []⟩
def g_spec_l72Event : Env := gE rowsS false [(80, 0, c_spec_l13Trips), (97, 1, c_spec_l13Words), (59, 2, c_spec_l6Rd_pick)]
theorem has_spec_l72Event : Has Tryz.prog 103 c_spec_l72Event φ_spec_l72Event := fo (G := g_spec_l72Event) (Φ := Φ_spec_l72Event) (t := t_spec_l72Event) (eo (getE_ok (hasAll_get ⟨has_spec_l13Trips, has_spec_l13Words, has_spec_l6Rd_pick, trivial⟩))) Tryz.f103 h_spec_l72Event (by kernel_rfl)

def c_spec_l72Play : Con := ⟨[.ptr [.val, .val] [.list, kI]], [⟨false, [(.arr 3 [.val])], [.list], false⟩, ⟨false, [(.arr 75 [.val, .val, .val, .val])], [.list], false⟩, ⟨true, [.val, (.arr 82 [.val, .val, .val]), .val, (.arr 42 [.val, .val, .val, .val]), (.arr 67 [.val, .val, .val, (.arr 82 [.val, .val, .val]), .val]), (.arr 42 [.val, .val, .val, .val])], [.bool, .list, kI, .list, .list, .list], false⟩]⟩
def h_spec_l72Play : How := ⟨getH [(2, ⟨[kI, .list, kI, .bool, kI, .list, .list, .list, .list, .list], [(8, (.sl 1000)), (11, (sI 0))], [(0, .cells [(.view true (.v 1)), (sI 2)]), (7, .cells [(.bool (.v 3)), (.sl 1001), (sI 4), (.sl 1002), (.sl 1003), (.sl 1004)]), (1000, .arr 75 [.val, .val, .val, .val] (.v 5)), (1001, .arr 82 [.val, .val, .val] (.v 6)), (1002, .arr 42 [.val, .val, .val, .val] (.v 7)), (1003, .arr 67 [.val, .val, .val, (.arr 82 [.val, .val, .val]), .val] (.v 8)), (1004, .arr 42 [.val, .val, .val, .val] (.v 9))], [9, 10, 11, 12, 13], 5⟩), (0, ⟨[kI, .bool, kI, .list, .list, .list, .list, .list], [(8, (.sl 1000)), (29, (sI 0))], [(7, .cells [(.bool (.v 1)), (.sl 1001), (sI 2), (.sl 1002), (.sl 1003), (.sl 1004)]), (1000, .arr 75 [.val, .val, .val, .val] (.v 3)), (1001, .arr 82 [.val, .val, .val] (.v 4)), (1002, .arr 42 [.val, .val, .val, .val] (.v 5)), (1003, .arr 67 [.val, .val, .val, (.arr 82 [.val, .val, .val]), .val] (.v 6)), (1004, .arr 42 [.val, .val, .val, .val] (.v 7))], [8, 3, 4, 5, 6], 5⟩)],
  getH [(11, ⟨[.bool, kI, .list, kI, .list, .list, .list, .list, .list], [(8, (.sl 1000))], [(7, .cells [(.bool (.v 0)), (.sl 1001), (sI 1), (.sl 1002), (.sl 1003), (.sl 1004)]), (0, .cells [(.view true (.v 2)), (sI 3)]), (1000, .arr 75 [.val, .val, .val, .val] (.v 4)), (1001, .arr 82 [.val, .val, .val] (.v 5)), (1002, .arr 42 [.val, .val, .val, .val] (.v 6)), (1003, .arr 67 [.val, .val, .val, (.arr 82 [.val, .val, .val]), .val] (.v 7)), (1004, .arr 42 [.val, .val, .val, .val] (.v 8))], [8, 3, 4, 5, 6], 5⟩)],
  getH []⟩
def g_spec_l72Play : Env := gE rowsS false [(102, 0, c_spec_l72Rooms), (74, 1, c_spec_WorldNew), (59, 2, c_spec_l6Rd_pick), (75, 3, c_spec_l21Do), (103, 4, c_spec_l72Event)]
theorem has_spec_l72Play : Has Tryz.prog 71 c_spec_l72Play φ_spec_l72Play := fo (G := g_spec_l72Play) (Φ := Φ_spec_l72Play) (t := t_spec_l72Play) (eo (getE_ok (hasAll_get ⟨has_spec_l72Rooms, has_spec_WorldNew, has_spec_l6Rd_pick, has_spec_l21Do, has_spec_l72Event, trivial⟩))) Tryz.f71 h_spec_l72Play (by kernel_rfl)

def c_spec_DrawWorldPlay : Con := ⟨[.own false [.val] [.list] false], [⟨false, [.val], [.list], false⟩, ⟨false, [.val], [.list], false⟩]⟩
def h_spec_DrawWorldPlay : How := ⟨getH [(1, ⟨[.list], [(6, (.sl 1000))], [(1000, .arr 75 [.val, .val, .val, .val] (.v 0))], [2], 1⟩)],
  getH [],
  getH []⟩
def g_spec_DrawWorldPlay : Env := gE rowsS false [(40, 0, c_spec_l6Open), (71, 1, c_spec_l72Play), (59, 2, c_spec_l6Rd_pick)]
theorem has_spec_DrawWorldPlay : Has Tryz.prog 35 c_spec_DrawWorldPlay φ_spec_DrawWorldPlay := fo (G := g_spec_DrawWorldPlay) (Φ := Φ_spec_DrawWorldPlay) (t := t_spec_DrawWorldPlay) (eo (getE_ok (hasAll_get ⟨has_spec_l6Open, has_spec_l72Play, has_spec_l6Rd_pick, trivial⟩))) Tryz.f35 h_spec_DrawWorldPlay (by kernel_rfl)

def c_impl_DeskNew : Con := ⟨[], [⟨true, [.val, .val, .val, (.arr 42 [.val, .val, .val, .val])], [.bool, .list, kI, .list], false⟩]⟩
def g_impl_DeskNew : Env := gE [] false []
theorem has_impl_DeskNew : Has Tryz.prog 19 c_impl_DeskNew φ_impl_DeskNew := fo (G := g_impl_DeskNew) (Φ := ph []) (t := t_impl_DeskNew) (eo (getE_ok (hasAll_get trivial))) Tryz.f19 hE (by kernel_rfl)

def c_impl_in : Con := ⟨[.ro false [kI], .ro false [kI], .ro false [kI]], [⟨false, [.val], [.bool], false⟩]⟩
def g_impl_in : Env := gE [] false []
theorem has_impl_in : Has Tryz.prog 67 c_impl_in φ_impl_in := fo (G := g_impl_in) (Φ := ph []) (t := t_impl_in) (eo (getE_ok (hasAll_get trivial))) Tryz.f67 hE (by kernel_rfl)

def c_impl_isHouse : Con := ⟨[.ro false [kI]], [⟨false, [.val], [.bool], false⟩]⟩
def g_impl_isHouse : Env := gE [] false [(67, 0, c_impl_in)]
theorem has_impl_isHouse : Has Tryz.prog 68 c_impl_isHouse φ_impl_isHouse := fo (G := g_impl_isHouse) (Φ := Φ_impl_isHouse) (t := t_impl_isHouse) (eo (getE_ok (hasAll_get ⟨has_impl_in, trivial⟩))) Tryz.f68 hE (by kernel_rfl)

def c_impl_HouseNew : Con := ⟨[.ro false [kI], .ro false [kI]], [⟨true, [.val, .val, .val, .val, .val], [kI, .bool, kI, .list, kI], false⟩, ⟨false, [.val], [.bool], false⟩]⟩
def g_impl_HouseNew : Env := gE [] false [(68, 0, c_impl_isHouse), (67, 1, c_impl_in)]
theorem has_impl_HouseNew : Has Tryz.prog 104 c_impl_HouseNew φ_impl_HouseNew := fo (G := g_impl_HouseNew) (Φ := Φ_impl_HouseNew) (t := t_impl_HouseNew) (eo (getE_ok (hasAll_get ⟨has_impl_isHouse, has_impl_in, trivial⟩))) Tryz.f104 hE (by kernel_rfl)

def c_impl_WorldNew : Con := ⟨[.ro false [.list]], [⟨true, [.val, .val, .val, (.arr 42 [.val, .val, .val, .val]), (.arr 67 [.val, .val, .val, .val, .val]), (.arr 42 [.val, .val, .val, .val])], [.bool, .list, kI, .list, .list, .list], false⟩, ⟨false, [.val], [.bool], false⟩]⟩
def h_impl_WorldNew : How := ⟨getH [(0, ⟨[kI, .list], [(3, (.bool (.b false))), (17, (sI 0))], [(2, .cells [(.bool (.v 1003)), (.view true (.v 1004)), (sI 1005), (.sl 1), (.sl 1000), .nil]), (1000, .arr 67 [.val, .val, .val, .val, .val] (.v 1))], [], 1⟩)],
  getH [],
  getH []⟩
def g_impl_WorldNew : Env := gE [] false [(19, 0, c_impl_DeskNew), (104, 1, c_impl_HouseNew)]
theorem has_impl_WorldNew : Has Tryz.prog 72 c_impl_WorldNew φ_impl_WorldNew := fo (G := g_impl_WorldNew) (Φ := Φ_impl_WorldNew) (t := t_impl_WorldNew) (eo (getE_ok (hasAll_get ⟨has_impl_DeskNew, has_impl_HouseNew, trivial⟩))) Tryz.f72 h_impl_WorldNew (by kernel_rfl)

def c_impl_wantedOk_1 : Con := ⟨[.ro false [kI]], [⟨false, [.val], [.bool], false⟩]⟩
def g_impl_wantedOk_1 : Env := gE [] false [(67, 0, c_impl_in)]
theorem has_impl_wantedOk_1 : Has Tryz.prog 123 c_impl_wantedOk_1 φ_impl_wantedOk_1 := fo (G := g_impl_wantedOk_1) (Φ := Φ_impl_wantedOk_1) (t := t_impl_wantedOk_1) (eo (getE_ok (hasAll_get ⟨has_impl_in, trivial⟩))) Tryz.f123 hE (by kernel_rfl)

def c_slices_IndexFunc_int_impl_wantedOk_1 : Con := ⟨[.ro false [.list], .fn 123 []], [⟨false, [.val], [kI], false⟩]⟩
def h_slices_IndexFunc_int_impl_wantedOk_1 : How := ⟨getH [(0, ⟨[kI], [(4, (.int .i64 (.n 0))), (8, (sI 0))], [], [], 0⟩)],
  getH [],
  getH []⟩
def g_slices_IndexFunc_int_impl_wantedOk_1 : Env := gE [] false [(123, 0, c_impl_wantedOk_1)]
theorem has_slices_IndexFunc_int_impl_wantedOk_1 : Has Tryz.prog 147 c_slices_IndexFunc_int_impl_wantedOk_1 φ_slices_IndexFunc_int_impl_wantedOk_1 := fo (G := g_slices_IndexFunc_int_impl_wantedOk_1) (Φ := Φ_slices_IndexFunc_int_impl_wantedOk_1) (t := t_slices_IndexFunc_int_impl_wantedOk_1) (eo (getE_ok (hasAll_get ⟨has_impl_wantedOk_1, trivial⟩))) Tryz.f147 h_slices_IndexFunc_int_impl_wantedOk_1 (by kernel_rfl)

def c_slices_ContainsFunc_int_impl_wantedOk_1 : Con := ⟨[.ro false [.list], .fn 123 []], [⟨false, [.val], [.bool], false⟩]⟩
def g_slices_ContainsFunc_int_impl_wantedOk_1 : Env := gE [] false [(147, 0, c_slices_IndexFunc_int_impl_wantedOk_1)]
theorem has_slices_ContainsFunc_int_impl_wantedOk_1 : Has Tryz.prog 125 c_slices_ContainsFunc_int_impl_wantedOk_1 φ_slices_ContainsFunc_int_impl_wantedOk_1 := fo (G := g_slices_ContainsFunc_int_impl_wantedOk_1) (Φ := Φ_slices_ContainsFunc_int_impl_wantedOk_1) (t := t_slices_ContainsFunc_int_impl_wantedOk_1) (eo (getE_ok (hasAll_get ⟨has_slices_IndexFunc_int_impl_wantedOk_1, trivial⟩))) Tryz.f125 hE (by kernel_rfl)

def c_impl_wantedOk_2 : Con := ⟨[.ro false [kI]], [⟨false, [.val], [.bool], false⟩]⟩
def g_impl_wantedOk_2 : Env := gE [] false []
theorem has_impl_wantedOk_2 : Has Tryz.prog 124 c_impl_wantedOk_2 φ_impl_wantedOk_2 := fo (G := g_impl_wantedOk_2) (Φ := ph []) (t := t_impl_wantedOk_2) (eo (getE_ok (hasAll_get trivial))) Tryz.f124 hE (by kernel_rfl)

def c_slices_IndexFunc_int_impl_wantedOk_2 : Con := ⟨[.ro false [.list], .fn 124 []], [⟨false, [.val], [kI], false⟩]⟩
def h_slices_IndexFunc_int_impl_wantedOk_2 : How := ⟨getH [(0, ⟨[kI], [(4, (.int .i64 (.n 0))), (8, (sI 0))], [], [], 0⟩)],
  getH [],
  getH []⟩
def g_slices_IndexFunc_int_impl_wantedOk_2 : Env := gE [] false [(124, 0, c_impl_wantedOk_2)]
theorem has_slices_IndexFunc_int_impl_wantedOk_2 : Has Tryz.prog 147 c_slices_IndexFunc_int_impl_wantedOk_2 φ_slices_IndexFunc_int_impl_wantedOk_2 := fo (G := g_slices_IndexFunc_int_impl_wantedOk_2) (Φ := Φ_slices_IndexFunc_int_impl_wantedOk_2) (t := t_slices_IndexFunc_int_impl_wantedOk_2) (eo (getE_ok (hasAll_get ⟨has_impl_wantedOk_2, trivial⟩))) Tryz.f147 h_slices_IndexFunc_int_impl_wantedOk_2 (by kernel_rfl)

def c_slices_ContainsFunc_int_impl_wantedOk_2 : Con := ⟨[.ro false [.list], .fn 124 []], [⟨false, [.val], [.bool], false⟩]⟩
def g_slices_ContainsFunc_int_impl_wantedOk_2 : Env := gE [] false [(147, 0, c_slices_IndexFunc_int_impl_wantedOk_2)]
theorem has_slices_ContainsFunc_int_impl_wantedOk_2 : Has Tryz.prog 125 c_slices_ContainsFunc_int_impl_wantedOk_2 φ_slices_ContainsFunc_int_impl_wantedOk_2 := fo (G := g_slices_ContainsFunc_int_impl_wantedOk_2) (Φ := Φ_slices_ContainsFunc_int_impl_wantedOk_2) (t := t_slices_ContainsFunc_int_impl_wantedOk_2) (eo (getE_ok (hasAll_get ⟨has_slices_IndexFunc_int_impl_wantedOk_2, trivial⟩))) Tryz.f125 hE (by kernel_rfl)

def c_impl_wantedOk : Con := ⟨[.ro false [.list]], [⟨false, [.val], [.bool], false⟩]⟩
def g_impl_wantedOk : Env := gE [] false [(125, 0, c_slices_ContainsFunc_int_impl_wantedOk_1), (125, 1, c_slices_ContainsFunc_int_impl_wantedOk_2)]
theorem has_impl_wantedOk : Has Tryz.prog 89 c_impl_wantedOk φ_impl_wantedOk := fo (G := g_impl_wantedOk) (Φ := Φ_impl_wantedOk) (t := t_impl_wantedOk) (eo (getE_ok (hasAll_get ⟨has_slices_ContainsFunc_int_impl_wantedOk_1, has_slices_ContainsFunc_int_impl_wantedOk_2, trivial⟩))) Tryz.f89 hE (by kernel_rfl)

def c_impl_isTrip : Con := ⟨[.ro false [kI]], [⟨false, [.val], [.bool], false⟩]⟩
def g_impl_isTrip : Env := gE [] false [(67, 0, c_impl_in)]
theorem has_impl_isTrip : Has Tryz.prog 69 c_impl_isTrip φ_impl_isTrip := fo (G := g_impl_isTrip) (Φ := Φ_impl_isTrip) (t := t_impl_isTrip) (eo (getE_ok (hasAll_get ⟨has_impl_in, trivial⟩))) Tryz.f69 hE (by kernel_rfl)

def c_impl_RecOk : Con := ⟨[.ro true [kI, kI, .list]], [⟨false, [.val], [.bool], false⟩]⟩
def g_impl_RecOk : Env := gE [] false [(67, 0, c_impl_in), (89, 1, c_impl_wantedOk), (69, 2, c_impl_isTrip)]
theorem has_impl_RecOk : Has Tryz.prog 49 c_impl_RecOk φ_impl_RecOk := fo (G := g_impl_RecOk) (Φ := Φ_impl_RecOk) (t := t_impl_RecOk) (eo (getE_ok (hasAll_get ⟨has_impl_in, has_impl_wantedOk, has_impl_isTrip, trivial⟩))) Tryz.f49 hE (by kernel_rfl)

def c_impl_LogOk_1 : Con := ⟨[.ro true [kI, kI, .list]], [⟨false, [.val], [.bool], false⟩]⟩
def g_impl_LogOk_1 : Env := gE [] false [(49, 0, c_impl_RecOk)]
theorem has_impl_LogOk_1 : Has Tryz.prog 92 c_impl_LogOk_1 φ_impl_LogOk_1 := fo (G := g_impl_LogOk_1) (Φ := Φ_impl_LogOk_1) (t := t_impl_LogOk_1) (eo (getE_ok (hasAll_get ⟨has_impl_RecOk, trivial⟩))) Tryz.f92 hE (by kernel_rfl)

def c_slices_IndexFunc_impl_Rec_impl_LogOk_1 : Con := ⟨[.ro false [.list], .fn 92 []], [⟨false, [.val], [kI], false⟩]⟩
def h_slices_IndexFunc_impl_Rec_impl_LogOk_1 : How := ⟨getH [(0, ⟨[kI], [(4, (.int .i64 (.n 0))), (8, (sI 0))], [], [], 0⟩)],
  getH [],
  getH []⟩
def g_slices_IndexFunc_impl_Rec_impl_LogOk_1 : Env := gE [] false [(92, 0, c_impl_LogOk_1)]
theorem has_slices_IndexFunc_impl_Rec_impl_LogOk_1 : Has Tryz.prog 129 c_slices_IndexFunc_impl_Rec_impl_LogOk_1 φ_slices_IndexFunc_impl_Rec_impl_LogOk_1 := fo (G := g_slices_IndexFunc_impl_Rec_impl_LogOk_1) (Φ := Φ_slices_IndexFunc_impl_Rec_impl_LogOk_1) (t := t_slices_IndexFunc_impl_Rec_impl_LogOk_1) (eo (getE_ok (hasAll_get ⟨has_impl_LogOk_1, trivial⟩))) Tryz.f129 h_slices_IndexFunc_impl_Rec_impl_LogOk_1 (by kernel_rfl)

def c_slices_ContainsFunc_impl_Rec_impl_LogOk_1 : Con := ⟨[.ro false [.list], .fn 92 []], [⟨false, [.val], [.bool], false⟩]⟩
def g_slices_ContainsFunc_impl_Rec_impl_LogOk_1 : Env := gE [] false [(129, 0, c_slices_IndexFunc_impl_Rec_impl_LogOk_1)]
theorem has_slices_ContainsFunc_impl_Rec_impl_LogOk_1 : Has Tryz.prog 93 c_slices_ContainsFunc_impl_Rec_impl_LogOk_1 φ_slices_ContainsFunc_impl_Rec_impl_LogOk_1 := fo (G := g_slices_ContainsFunc_impl_Rec_impl_LogOk_1) (Φ := Φ_slices_ContainsFunc_impl_Rec_impl_LogOk_1) (t := t_slices_ContainsFunc_impl_Rec_impl_LogOk_1) (eo (getE_ok (hasAll_get ⟨has_slices_IndexFunc_impl_Rec_impl_LogOk_1, trivial⟩))) Tryz.f93 hE (by kernel_rfl)

def c_impl_LogOk : Con := ⟨[.ro true [.list, kI]], [⟨false, [.val], [.bool], false⟩]⟩
def g_impl_LogOk : Env := gE [] false [(67, 0, c_impl_in), (93, 1, c_slices_ContainsFunc_impl_Rec_impl_LogOk_1)]
theorem has_impl_LogOk : Has Tryz.prog 52 c_impl_LogOk φ_impl_LogOk := fo (G := g_impl_LogOk) (Φ := Φ_impl_LogOk) (t := t_impl_LogOk) (eo (getE_ok (hasAll_get ⟨has_impl_in, has_slices_ContainsFunc_impl_Rec_impl_LogOk_1, trivial⟩))) Tryz.f52 hE (by kernel_rfl)

def c_impl_TripsOk_1 : Con := ⟨[.ro true [.list, kI]], [⟨false, [.val], [.bool], false⟩]⟩
def g_impl_TripsOk_1 : Env := gE [] false [(89, 0, c_impl_wantedOk), (67, 1, c_impl_in)]
theorem has_impl_TripsOk_1 : Has Tryz.prog 148 c_impl_TripsOk_1 φ_impl_TripsOk_1 := fo (G := g_impl_TripsOk_1) (Φ := Φ_impl_TripsOk_1) (t := t_impl_TripsOk_1) (eo (getE_ok (hasAll_get ⟨has_impl_wantedOk, has_impl_in, trivial⟩))) Tryz.f148 hE (by kernel_rfl)

def c_slices_IndexFunc_impl_Trip_impl_TripsOk_1 : Con := ⟨[.ro false [.list], .fn 148 []], [⟨false, [.val], [kI], false⟩]⟩
def h_slices_IndexFunc_impl_Trip_impl_TripsOk_1 : How := ⟨getH [(0, ⟨[kI], [(4, (.int .i64 (.n 0))), (8, (sI 0))], [], [], 0⟩)],
  getH [],
  getH []⟩
def g_slices_IndexFunc_impl_Trip_impl_TripsOk_1 : Env := gE [] false [(148, 0, c_impl_TripsOk_1)]
theorem has_slices_IndexFunc_impl_Trip_impl_TripsOk_1 : Has Tryz.prog 154 c_slices_IndexFunc_impl_Trip_impl_TripsOk_1 φ_slices_IndexFunc_impl_Trip_impl_TripsOk_1 := fo (G := g_slices_IndexFunc_impl_Trip_impl_TripsOk_1) (Φ := Φ_slices_IndexFunc_impl_Trip_impl_TripsOk_1) (t := t_slices_IndexFunc_impl_Trip_impl_TripsOk_1) (eo (getE_ok (hasAll_get ⟨has_impl_TripsOk_1, trivial⟩))) Tryz.f154 h_slices_IndexFunc_impl_Trip_impl_TripsOk_1 (by kernel_rfl)

def c_slices_ContainsFunc_impl_Trip_impl_TripsOk_1 : Con := ⟨[.ro false [.list], .fn 148 []], [⟨false, [.val], [.bool], false⟩]⟩
def g_slices_ContainsFunc_impl_Trip_impl_TripsOk_1 : Env := gE [] false [(154, 0, c_slices_IndexFunc_impl_Trip_impl_TripsOk_1)]
theorem has_slices_ContainsFunc_impl_Trip_impl_TripsOk_1 : Has Tryz.prog 149 c_slices_ContainsFunc_impl_Trip_impl_TripsOk_1 φ_slices_ContainsFunc_impl_Trip_impl_TripsOk_1 := fo (G := g_slices_ContainsFunc_impl_Trip_impl_TripsOk_1) (Φ := Φ_slices_ContainsFunc_impl_Trip_impl_TripsOk_1) (t := t_slices_ContainsFunc_impl_Trip_impl_TripsOk_1) (eo (getE_ok (hasAll_get ⟨has_slices_IndexFunc_impl_Trip_impl_TripsOk_1, trivial⟩))) Tryz.f149 hE (by kernel_rfl)

def c_impl_TripsOk : Con := ⟨[.ro false [.list]], [⟨false, [.val], [.bool], false⟩]⟩
def g_impl_TripsOk : Env := gE [] false [(149, 0, c_slices_ContainsFunc_impl_Trip_impl_TripsOk_1)]
theorem has_impl_TripsOk : Has Tryz.prog 126 c_impl_TripsOk φ_impl_TripsOk := fo (G := g_impl_TripsOk) (Φ := Φ_impl_TripsOk) (t := t_impl_TripsOk) (eo (getE_ok (hasAll_get ⟨has_slices_ContainsFunc_impl_Trip_impl_TripsOk_1, trivial⟩))) Tryz.f126 hE (by kernel_rfl)

def c_impl_stateOf : Con := ⟨[.ro false [.list], .ro false [kI]], [⟨false, [.val], [kI], false⟩]⟩
def g_impl_stateOf : Env := gE [] false [(67, 0, c_impl_in)]
theorem has_impl_stateOf : Has Tryz.prog 127 c_impl_stateOf φ_impl_stateOf := fo (G := g_impl_stateOf) (Φ := Φ_impl_stateOf) (t := t_impl_stateOf) (eo (getE_ok (hasAll_get ⟨has_impl_in, trivial⟩))) Tryz.f127 hE (by kernel_rfl)

def c_impl_TripsMay : Con := ⟨[.ro false [.list], .ro true [kI, kI, .list]], [⟨false, [.val], [.bool], false⟩]⟩
def g_impl_TripsMay : Env := gE [] false [(126, 0, c_impl_TripsOk), (49, 1, c_impl_RecOk), (127, 2, c_impl_stateOf)]
theorem has_impl_TripsMay : Has Tryz.prog 90 c_impl_TripsMay φ_impl_TripsMay := fo (G := g_impl_TripsMay) (Φ := Φ_impl_TripsMay) (t := t_impl_TripsMay) (eo (getE_ok (hasAll_get ⟨has_impl_TripsOk, has_impl_RecOk, has_impl_stateOf, trivial⟩))) Tryz.f90 hE (by kernel_rfl)

def c_slices_Clone_int : Con := ⟨[.ro false [.list]], [⟨false, [.val], [.list], false⟩]⟩
def g_slices_Clone_int : Env := gE [] false []
theorem has_slices_Clone_int : Has Tryz.prog 130 c_slices_Clone_int φ_slices_Clone_int := fo (G := g_slices_Clone_int) (Φ := ph []) (t := t_slices_Clone_int) (eo (getE_ok (hasAll_get trivial))) Tryz.f130 hE (by kernel_rfl)

def c_impl_TripsDo : Con := ⟨[.ro false [.list], .ro true [kI, kI, .list]], [⟨false, [.val], [.list], false⟩, ⟨false, [.val], [.bool], false⟩]⟩
def h_impl_TripsDo : How := ⟨getH [(0, ⟨[kI, .list], [(6, (.sl 1000)), (16, (sI 0))], [(1000, .arr 49 [.val, .val] (.v 1))], [], 1⟩)],
  getH [],
  getH []⟩
def g_impl_TripsDo : Env := gE [] false [(90, 0, c_impl_TripsMay), (130, 1, c_slices_Clone_int)]
theorem has_impl_TripsDo : Has Tryz.prog 94 c_impl_TripsDo φ_impl_TripsDo := fo (G := g_impl_TripsDo) (Φ := Φ_impl_TripsDo) (t := t_impl_TripsDo) (eo (getE_ok (hasAll_get ⟨has_impl_TripsMay, has_slices_Clone_int, trivial⟩))) Tryz.f94 h_impl_TripsDo (by kernel_rfl)

def c_impl_TripsOf : Con := ⟨[.ro false [.list]], [⟨false, [.val], [.list], false⟩, ⟨false, [.val], [.bool], false⟩]⟩
def h_impl_TripsOf : How := ⟨getH [(0, ⟨[.list, .bool, kI], [(4, (.view true (.v 0))), (5, (.bool (.v 1))), (6, (sI 2))], [], [], 0⟩)],
  getH [],
  getH []⟩
def g_impl_TripsOf : Env := gE [] false [(94, 0, c_impl_TripsDo)]
theorem has_impl_TripsOf : Has Tryz.prog 53 c_impl_TripsOf φ_impl_TripsOf := fo (G := g_impl_TripsOf) (Φ := Φ_impl_TripsOf) (t := t_impl_TripsOf) (eo (getE_ok (hasAll_get ⟨has_impl_TripsDo, trivial⟩))) Tryz.f53 h_impl_TripsOf (by kernel_rfl)

def c_impl_WordOk : Con := ⟨[.ro true [kI, kI, kI, kI]], [⟨false, [.val], [.bool], false⟩]⟩
def g_impl_WordOk : Env := gE [] false [(67, 0, c_impl_in), (68, 1, c_impl_isHouse), (69, 2, c_impl_isTrip)]
theorem has_impl_WordOk : Has Tryz.prog 31 c_impl_WordOk φ_impl_WordOk := fo (G := g_impl_WordOk) (Φ := Φ_impl_WordOk) (t := t_impl_WordOk) (eo (getE_ok (hasAll_get ⟨has_impl_in, has_impl_isHouse, has_impl_isTrip, trivial⟩))) Tryz.f31 hE (by kernel_rfl)

def c_impl_Word_answer : Con := ⟨[.ro true [kI, kI, kI, kI]], [⟨false, [.val], [.bool], false⟩]⟩
def g_impl_Word_answer : Env := gE [] false []
theorem has_impl_Word_answer : Has Tryz.prog 54 c_impl_Word_answer φ_impl_Word_answer := fo (G := g_impl_Word_answer) (Φ := ph []) (t := t_impl_Word_answer) (eo (getE_ok (hasAll_get trivial))) Tryz.f54 hE (by kernel_rfl)

def c_slices_Index_impl_Word : Con := ⟨[.ro false [.list], .ro true [kI, kI, kI, kI]], [⟨false, [.val], [kI], false⟩]⟩
def h_slices_Index_impl_Word : How := ⟨getH [(0, ⟨[kI], [(4, (.int .i64 (.n 0))), (8, (sI 0))], [], [], 0⟩)],
  getH [],
  getH []⟩
def g_slices_Index_impl_Word : Env := gE [] false []
theorem has_slices_Index_impl_Word : Has Tryz.prog 95 c_slices_Index_impl_Word φ_slices_Index_impl_Word := fo (G := g_slices_Index_impl_Word) (Φ := ph []) (t := t_slices_Index_impl_Word) (eo (getE_ok (hasAll_get trivial))) Tryz.f95 h_slices_Index_impl_Word (by kernel_rfl)

def c_slices_Contains_impl_Word : Con := ⟨[.ro false [.list], .ro true [kI, kI, kI, kI]], [⟨false, [.val], [.bool], false⟩]⟩
def g_slices_Contains_impl_Word : Env := gE [] false [(95, 0, c_slices_Index_impl_Word)]
theorem has_slices_Contains_impl_Word : Has Tryz.prog 55 c_slices_Contains_impl_Word φ_slices_Contains_impl_Word := fo (G := g_slices_Contains_impl_Word) (Φ := Φ_slices_Contains_impl_Word) (t := t_slices_Contains_impl_Word) (eo (getE_ok (hasAll_get ⟨has_slices_Index_impl_Word, trivial⟩))) Tryz.f55 hE (by kernel_rfl)

def c_impl_DeskOk : Con := ⟨[.ro true [.bool, .list, kI, .list]], [⟨false, [.val], [.bool], false⟩]⟩
def h_impl_DeskOk : How := ⟨getH [(0, ⟨[kI], [(2, (.bool (.b false))), (32, (sI 0))], [], [], 0⟩)],
  getH [(3, ⟨[], [(2, (.bool (.b false)))], [], [], 0⟩)],
  getH []⟩
def g_impl_DeskOk : Env := gE [] false [(52, 0, c_impl_LogOk), (53, 1, c_impl_TripsOf), (31, 2, c_impl_WordOk), (54, 3, c_impl_Word_answer), (55, 4, c_slices_Contains_impl_Word)]
theorem has_impl_DeskOk : Has Tryz.prog 21 c_impl_DeskOk φ_impl_DeskOk := fo (G := g_impl_DeskOk) (Φ := Φ_impl_DeskOk) (t := t_impl_DeskOk) (eo (getE_ok (hasAll_get ⟨has_impl_LogOk, has_impl_TripsOf, has_impl_WordOk, has_impl_Word_answer, has_slices_Contains_impl_Word, trivial⟩))) Tryz.f21 h_impl_DeskOk (by kernel_rfl)

def c_impl_Rec_copied : Con := ⟨[.ro true [kI, kI, .list]], [⟨true, [.val, .val, .val], [kI, kI, .list], false⟩]⟩
def g_impl_Rec_copied : Env := gE [] false [(130, 0, c_slices_Clone_int)]
theorem has_impl_Rec_copied : Has Tryz.prog 128 c_impl_Rec_copied φ_impl_Rec_copied := fo (G := g_impl_Rec_copied) (Φ := Φ_impl_Rec_copied) (t := t_impl_Rec_copied) (eo (getE_ok (hasAll_get ⟨has_slices_Clone_int, trivial⟩))) Tryz.f128 hE (by kernel_rfl)

def c_impl_Log_first : Con := ⟨[.ro true [.list, kI], .ro false [kI], .ro false [kI]], [⟨true, [(.arr 82 [.val, .val, .val]), .val], [.list, kI], false⟩]⟩
def h_impl_Log_first : How := ⟨getH [(0, ⟨[kI, .list], [(17, (sI 0))], [(2, .cells [(.sl 1000), (sI 1003)]), (1000, .arr 82 [.val, .val, .val] (.v 1))], [], 1⟩)],
  getH [],
  getH []⟩
def g_impl_Log_first : Env := gE [] false [(128, 0, c_impl_Rec_copied)]
theorem has_impl_Log_first : Has Tryz.prog 101 c_impl_Log_first φ_impl_Log_first := fo (G := g_impl_Log_first) (Φ := Φ_impl_Log_first) (t := t_impl_Log_first) (eo (getE_ok (hasAll_get ⟨has_impl_Rec_copied, trivial⟩))) Tryz.f101 h_impl_Log_first (by kernel_rfl)

def c_impl_Log_copied : Con := ⟨[.ro true [.list, kI]], [⟨true, [(.arr 82 [.val, .val, .val]), .val], [.list, kI], false⟩]⟩
def g_impl_Log_copied : Env := gE [] false [(101, 0, c_impl_Log_first)]
theorem has_impl_Log_copied : Has Tryz.prog 86 c_impl_Log_copied φ_impl_Log_copied := fo (G := g_impl_Log_copied) (Φ := Φ_impl_Log_copied) (t := t_impl_Log_copied) (eo (getE_ok (hasAll_get ⟨has_impl_Log_first, trivial⟩))) Tryz.f86 hE (by kernel_rfl)

def c_slices_Clone_impl_Word : Con := ⟨[.ro false [.list]], [⟨false, [(.arr 42 [.val, .val, .val, .val])], [.list], false⟩]⟩
def g_slices_Clone_impl_Word : Env := gE [] false []
theorem has_slices_Clone_impl_Word : Has Tryz.prog 87 c_slices_Clone_impl_Word φ_slices_Clone_impl_Word := fo (G := g_slices_Clone_impl_Word) (Φ := ph []) (t := t_slices_Clone_impl_Word) (eo (getE_ok (hasAll_get trivial))) Tryz.f87 hE (by kernel_rfl)

def c_impl_Desk_copied : Con := ⟨[.ro true [.bool, .list, kI, .list]], [⟨true, [.val, .val, .val, (.arr 42 [.val, .val, .val, .val])], [.bool, .list, kI, .list], false⟩]⟩
def g_impl_Desk_copied : Env := gE [] false [(86, 0, c_impl_Log_copied), (87, 1, c_slices_Clone_impl_Word)]
theorem has_impl_Desk_copied : Has Tryz.prog 47 c_impl_Desk_copied φ_impl_Desk_copied := fo (G := g_impl_Desk_copied) (Φ := Φ_impl_Desk_copied) (t := t_impl_Desk_copied) (eo (getE_ok (hasAll_get ⟨has_impl_Log_copied, has_slices_Clone_impl_Word, trivial⟩))) Tryz.f47 hE (by kernel_rfl)

def c_impl_Log_known : Con := ⟨[.own true [.val, .val] [.list, kI] false, .ro false [.bool]], [⟨false, [.val], [.list], false⟩]⟩
def g_impl_Log_known : Env := gE [] false []
theorem has_impl_Log_known : Has Tryz.prog 88 c_impl_Log_known φ_impl_Log_known := fo (G := g_impl_Log_known) (Φ := ph []) (t := t_impl_Log_known) (eo (getE_ok (hasAll_get trivial))) Tryz.f88 hE (by kernel_rfl)

def c_impl_Desk_trips : Con := ⟨[.ro true [.bool, .list, kI, .list], .ro false [.bool]], [⟨false, [.val], [.list], false⟩]⟩
def g_impl_Desk_trips : Env := gE [] false [(88, 0, c_impl_Log_known), (53, 1, c_impl_TripsOf)]
theorem has_impl_Desk_trips : Has Tryz.prog 48 c_impl_Desk_trips φ_impl_Desk_trips := fo (G := g_impl_Desk_trips) (Φ := Φ_impl_Desk_trips) (t := t_impl_Desk_trips) (eo (getE_ok (hasAll_get ⟨has_impl_Log_known, has_impl_TripsOf, trivial⟩))) Tryz.f48 hE (by kernel_rfl)

def c_impl_LogAdd : Con := ⟨[.ro true [.list, kI], .ro true [kI, kI, .list]], [⟨true, [.val, .val], [.list, kI], false⟩, ⟨false, [.val], [.bool], false⟩]⟩
def g_impl_LogAdd : Env := gE [] false [(52, 0, c_impl_LogOk), (49, 1, c_impl_RecOk), (86, 2, c_impl_Log_copied), (128, 3, c_impl_Rec_copied)]
theorem has_impl_LogAdd : Has Tryz.prog 91 c_impl_LogAdd φ_impl_LogAdd := fo (G := g_impl_LogAdd) (Φ := Φ_impl_LogAdd) (t := t_impl_LogAdd) (eo (getE_ok (hasAll_get ⟨has_impl_LogOk, has_impl_RecOk, has_impl_Log_copied, has_impl_Rec_copied, trivial⟩))) Tryz.f91 hE (by kernel_rfl)

def c_impl_Desk_write : Con := ⟨[.ptr [.val, .val, .val, (.arr 42 [.val, .val, .val, .val])] [.bool, .list, kI, .list], .ro true [kI, kI, .list]], [⟨false, [.val], [.bool], false⟩]⟩
def g_impl_Desk_write : Env := gE [] false [(48, 0, c_impl_Desk_trips), (90, 1, c_impl_TripsMay), (91, 2, c_impl_LogAdd)]
theorem has_impl_Desk_write : Has Tryz.prog 50 c_impl_Desk_write φ_impl_Desk_write := fo (G := g_impl_Desk_write) (Φ := Φ_impl_Desk_write) (t := t_impl_Desk_write) (eo (getE_ok (hasAll_get ⟨has_impl_Desk_trips, has_impl_TripsMay, has_impl_LogAdd, trivial⟩))) Tryz.f50 hE (by kernel_rfl)

def c_impl_DeskBegin : Con := ⟨[.ro true [.bool, .list, kI, .list], .ro false [.list]], [⟨true, [.val, .val, .val, (.arr 42 [.val, .val, .val, .val])], [.bool, .list, kI, .list], false⟩, ⟨false, [.val], [.bool], false⟩]⟩
def g_impl_DeskBegin : Env := gE [] false [(21, 0, c_impl_DeskOk), (47, 1, c_impl_Desk_copied), (48, 2, c_impl_Desk_trips), (49, 3, c_impl_RecOk), (50, 4, c_impl_Desk_write)]
theorem has_impl_DeskBegin : Has Tryz.prog 17 c_impl_DeskBegin φ_impl_DeskBegin := fo (G := g_impl_DeskBegin) (Φ := Φ_impl_DeskBegin) (t := t_impl_DeskBegin) (eo (getE_ok (hasAll_get ⟨has_impl_DeskOk, has_impl_Desk_copied, has_impl_Desk_trips, has_impl_RecOk, has_impl_Desk_write, trivial⟩))) Tryz.f17 hE (by kernel_rfl)

def c_impl_DeskGive : Con := ⟨[.ro true [.bool, .list, kI, .list], .ro false [kI]], [⟨true, [.val, .val, .val, (.arr 42 [.val, .val, .val, .val])], [.bool, .list, kI, .list], false⟩, ⟨false, [.val], [.bool], false⟩]⟩
def g_impl_DeskGive : Env := gE [] false [(21, 0, c_impl_DeskOk), (69, 1, c_impl_isTrip), (47, 2, c_impl_Desk_copied), (50, 3, c_impl_Desk_write)]
theorem has_impl_DeskGive : Has Tryz.prog 105 c_impl_DeskGive φ_impl_DeskGive := fo (G := g_impl_DeskGive) (Φ := Φ_impl_DeskGive) (t := t_impl_DeskGive) (eo (getE_ok (hasAll_get ⟨has_impl_DeskOk, has_impl_isTrip, has_impl_Desk_copied, has_impl_Desk_write, trivial⟩))) Tryz.f105 hE (by kernel_rfl)

def c_impl_Desk_told : Con := ⟨[.ro true [.bool, .list, kI, .list], .ro false [kI], .ro false [kI], .ro false [kI]], [⟨false, [.val], [.bool], false⟩]⟩
def g_impl_Desk_told : Env := gE [] false [(55, 0, c_slices_Contains_impl_Word)]
theorem has_impl_Desk_told : Has Tryz.prog 96 c_impl_Desk_told φ_impl_Desk_told := fo (G := g_impl_Desk_told) (Φ := Φ_impl_Desk_told) (t := t_impl_Desk_told) (eo (getE_ok (hasAll_get ⟨has_slices_Contains_impl_Word, trivial⟩))) Tryz.f96 hE (by kernel_rfl)

def c_impl_Desk_words : Con := ⟨[.ro true [.bool, .list, kI, .list]], [⟨false, [.val], [.list], false⟩]⟩
def h_impl_Desk_words : How := ⟨getH [(0, ⟨[kI, .list], [(4, (.sl 1000)), (23, (sI 0))], [(1000, .arr 42 [.val, .val, .val, .val] (.v 1))], [], 1⟩), (2, ⟨[kI, .list], [(4, (.sl 1000)), (38, (sI 0))], [(1000, .arr 42 [.val, .val, .val, .val] (.v 1))], [2], 1⟩)],
  getH [],
  getH []⟩
def g_impl_Desk_words : Env := gE [] false [(48, 0, c_impl_Desk_trips), (96, 1, c_impl_Desk_told)]
theorem has_impl_Desk_words : Has Tryz.prog 56 c_impl_Desk_words φ_impl_Desk_words := fo (G := g_impl_Desk_words) (Φ := Φ_impl_Desk_words) (t := t_impl_Desk_words) (eo (getE_ok (hasAll_get ⟨has_impl_Desk_trips, has_impl_Desk_told, trivial⟩))) Tryz.f56 h_impl_Desk_words (by kernel_rfl)

def c_impl_World_send : Con := ⟨[.ptr [.val, .val, .val, (.arr 42 [.val, .val, .val, .val]), (.arr 67 [.val, .val, .val, .val, .val]), (.arr 42 [.val, .val, .val, .val])] [.bool, .list, kI, .list, .list, .list], .ro true [kI, kI, kI, kI]], []⟩
def g_impl_World_send : Env := gE [] false []
theorem has_impl_World_send : Has Tryz.prog 106 c_impl_World_send φ_impl_World_send := fo (G := g_impl_World_send) (Φ := ph []) (t := t_impl_World_send) (eo (getE_ok (hasAll_get trivial))) Tryz.f106 hE (by kernel_rfl)

theorem has_slices_Delete_impl_Word : Has Tryz.prog 134 (delCon 42) φ_slices_Delete_impl_Word := delete_has (ρ := ⟨fun _ => 134, fun t => match t with | 22 => 26 | 23 => 42 | 3 => 3 | 4 => 4 | _ => 0, fun x => x⟩) ⟨mixed_ok, ⟨Tryz.f134.name, by kernel_rfl, by kernel_rfl⟩, by kernel_rfl, by kernel_rfl, by kernel_rfl, by kernel_rfl⟩
def c_slices_Delete_impl_Word : Con := delCon 42

def c_impl_Desk_tally : Con := ⟨[.ro true [.bool, .list, kI, .list], .ro false [kI], .ro false [kI], .ro false [.list]], [⟨false, [.val], [.bool], false⟩, ⟨false, [.val], [.bool], false⟩]⟩
def h_impl_Desk_tally : How := ⟨getH [(0, ⟨[.bool, .bool, kI], [(8, (.bool (.v 0))), (9, (.bool (.v 1))), (15, (sI 2))], [], [], 0⟩)],
  getH [],
  getH []⟩
def g_impl_Desk_tally : Env := gE [] false [(96, 0, c_impl_Desk_told)]
theorem has_impl_Desk_tally : Has Tryz.prog 131 c_impl_Desk_tally φ_impl_Desk_tally := fo (G := g_impl_Desk_tally) (Φ := Φ_impl_Desk_tally) (t := t_impl_Desk_tally) (eo (getE_ok (hasAll_get ⟨has_impl_Desk_told, trivial⟩))) Tryz.f131 h_impl_Desk_tally (by kernel_rfl)

def c_impl_Desk_decide : Con := ⟨[.ptr [.val, .val, .val, (.arr 42 [.val, .val, .val, .val])] [.bool, .list, kI, .list], .ro false [kI]], []⟩
def h_impl_Desk_decide : How := ⟨getH [],
  getH [(9, ⟨[.bool], [(82, (.bool (.v 0)))], [], [], 0⟩), (7, ⟨[.bool], [(71, (.bool (.v 0)))], [], [], 0⟩)],
  getH []⟩
def g_impl_Desk_decide : Env := gE [] false [(48, 0, c_impl_Desk_trips), (131, 1, c_impl_Desk_tally), (127, 2, c_impl_stateOf), (50, 3, c_impl_Desk_write)]
theorem has_impl_Desk_decide : Has Tryz.prog 98 c_impl_Desk_decide φ_impl_Desk_decide := fo (G := g_impl_Desk_decide) (Φ := Φ_impl_Desk_decide) (t := t_impl_Desk_decide) (eo (getE_ok (hasAll_get ⟨has_impl_Desk_trips, has_impl_Desk_tally, has_impl_stateOf, has_impl_Desk_write, trivial⟩))) Tryz.f98 h_impl_Desk_decide (by kernel_rfl)

def c_impl_Desk_hear : Con := ⟨[.ptr [.val, .val, .val, (.arr 42 [.val, .val, .val, .val])] [.bool, .list, kI, .list], .ro true [kI, kI, kI, kI]], []⟩
def g_impl_Desk_hear : Env := gE [] false [(31, 0, c_impl_WordOk), (54, 1, c_impl_Word_answer), (48, 2, c_impl_Desk_trips), (55, 3, c_slices_Contains_impl_Word), (98, 4, c_impl_Desk_decide)]
theorem has_impl_Desk_hear : Has Tryz.prog 60 c_impl_Desk_hear φ_impl_Desk_hear := fo (G := g_impl_Desk_hear) (Φ := Φ_impl_Desk_hear) (t := t_impl_Desk_hear) (eo (getE_ok (hasAll_get ⟨has_impl_WordOk, has_impl_Word_answer, has_impl_Desk_trips, has_slices_Contains_impl_Word, has_impl_Desk_decide, trivial⟩))) Tryz.f60 hE (by kernel_rfl)

def c_impl_StockNew : Con := ⟨[.ro false [kI]], [⟨true, [.val, (.arr 69 [.val, .val])], [kI, .list], false⟩, ⟨false, [.val], [.bool], false⟩]⟩
def g_impl_StockNew : Env := gE [] false [(67, 0, c_impl_in)]
theorem has_impl_StockNew : Has Tryz.prog 145 c_impl_StockNew φ_impl_StockNew := fo (G := g_impl_StockNew) (Φ := Φ_impl_StockNew) (t := t_impl_StockNew) (eo (getE_ok (hasAll_get ⟨has_impl_in, trivial⟩))) Tryz.f145 hE (by kernel_rfl)

def c_impl_Hold_ok : Con := ⟨[.ro true [kI, kI]], [⟨false, [.val], [.bool], false⟩]⟩
def g_impl_Hold_ok : Env := gE [] false [(67, 0, c_impl_in)]
theorem has_impl_Hold_ok : Has Tryz.prog 165 c_impl_Hold_ok φ_impl_Hold_ok := fo (G := g_impl_Hold_ok) (Φ := Φ_impl_Hold_ok) (t := t_impl_Hold_ok) (eo (getE_ok (hasAll_get ⟨has_impl_in, trivial⟩))) Tryz.f165 hE (by kernel_rfl)

def c_impl_StockOk_1 : Con := ⟨[.ro true [kI, kI]], [⟨false, [.val], [.bool], false⟩]⟩
def g_impl_StockOk_1 : Env := gE [] false [(165, 0, c_impl_Hold_ok)]
theorem has_impl_StockOk_1 : Has Tryz.prog 164 c_impl_StockOk_1 φ_impl_StockOk_1 := fo (G := g_impl_StockOk_1) (Φ := Φ_impl_StockOk_1) (t := t_impl_StockOk_1) (eo (getE_ok (hasAll_get ⟨has_impl_Hold_ok, trivial⟩))) Tryz.f164 hE (by kernel_rfl)

def c_slices_IndexFunc_impl_Hold_impl_StockOk_1 : Con := ⟨[.ro false [.list], .fn 164 []], [⟨false, [.val], [kI], false⟩]⟩
def h_slices_IndexFunc_impl_Hold_impl_StockOk_1 : How := ⟨getH [(0, ⟨[kI], [(4, (.int .i64 (.n 0))), (8, (sI 0))], [], [], 0⟩)],
  getH [],
  getH []⟩
def g_slices_IndexFunc_impl_Hold_impl_StockOk_1 : Env := gE [] false [(164, 0, c_impl_StockOk_1)]
theorem has_slices_IndexFunc_impl_Hold_impl_StockOk_1 : Has Tryz.prog 168 c_slices_IndexFunc_impl_Hold_impl_StockOk_1 φ_slices_IndexFunc_impl_Hold_impl_StockOk_1 := fo (G := g_slices_IndexFunc_impl_Hold_impl_StockOk_1) (Φ := Φ_slices_IndexFunc_impl_Hold_impl_StockOk_1) (t := t_slices_IndexFunc_impl_Hold_impl_StockOk_1) (eo (getE_ok (hasAll_get ⟨has_impl_StockOk_1, trivial⟩))) Tryz.f168 h_slices_IndexFunc_impl_Hold_impl_StockOk_1 (by kernel_rfl)

def c_slices_ContainsFunc_impl_Hold_impl_StockOk_1 : Con := ⟨[.ro false [.list], .fn 164 []], [⟨false, [.val], [.bool], false⟩]⟩
def g_slices_ContainsFunc_impl_Hold_impl_StockOk_1 : Env := gE [] false [(168, 0, c_slices_IndexFunc_impl_Hold_impl_StockOk_1)]
theorem has_slices_ContainsFunc_impl_Hold_impl_StockOk_1 : Has Tryz.prog 166 c_slices_ContainsFunc_impl_Hold_impl_StockOk_1 φ_slices_ContainsFunc_impl_Hold_impl_StockOk_1 := fo (G := g_slices_ContainsFunc_impl_Hold_impl_StockOk_1) (Φ := Φ_slices_ContainsFunc_impl_Hold_impl_StockOk_1) (t := t_slices_ContainsFunc_impl_Hold_impl_StockOk_1) (eo (getE_ok (hasAll_get ⟨has_slices_IndexFunc_impl_Hold_impl_StockOk_1, trivial⟩))) Tryz.f166 hE (by kernel_rfl)

def c_impl_Stock_free : Con := ⟨[.ro true [kI, .list]], [⟨false, [.val], [kI], false⟩]⟩
def h_impl_Stock_free : How := ⟨getH [(0, ⟨[kI, kI], [(3, (sI 0)), (11, (sI 1))], [], [], 0⟩)],
  getH [],
  getH []⟩
def g_impl_Stock_free : Env := gE [] false []
theorem has_impl_Stock_free : Has Tryz.prog 161 c_impl_Stock_free φ_impl_Stock_free := fo (G := g_impl_Stock_free) (Φ := ph []) (t := t_impl_Stock_free) (eo (getE_ok (hasAll_get trivial))) Tryz.f161 h_impl_Stock_free (by kernel_rfl)

def c_impl_StockOk : Con := ⟨[.ro true [kI, .list]], [⟨false, [.val], [.bool], false⟩]⟩
def g_impl_StockOk : Env := gE [] false [(67, 0, c_impl_in), (166, 1, c_slices_ContainsFunc_impl_Hold_impl_StockOk_1), (161, 2, c_impl_Stock_free)]
theorem has_impl_StockOk : Has Tryz.prog 160 c_impl_StockOk φ_impl_StockOk := fo (G := g_impl_StockOk) (Φ := Φ_impl_StockOk) (t := t_impl_StockOk) (eo (getE_ok (hasAll_get ⟨has_impl_in, has_slices_ContainsFunc_impl_Hold_impl_StockOk_1, has_impl_Stock_free, trivial⟩))) Tryz.f160 hE (by kernel_rfl)

def c_impl_StockMay : Con := ⟨[.ro true [kI, .list], .ro true [kI, kI, .list]], [⟨false, [.val], [.bool], false⟩]⟩
def g_impl_StockMay : Env := gE [] false [(160, 0, c_impl_StockOk), (49, 1, c_impl_RecOk), (161, 2, c_impl_Stock_free)]
theorem has_impl_StockMay : Has Tryz.prog 152 c_impl_StockMay φ_impl_StockMay := fo (G := g_impl_StockMay) (Φ := Φ_impl_StockMay) (t := t_impl_StockMay) (eo (getE_ok (hasAll_get ⟨has_impl_StockOk, has_impl_RecOk, has_impl_Stock_free, trivial⟩))) Tryz.f152 hE (by kernel_rfl)

def c_slices_Clone_impl_Hold : Con := ⟨[.ro false [.list]], [⟨false, [(.arr 69 [.val, .val])], [.list], false⟩]⟩
def g_slices_Clone_impl_Hold : Env := gE [] false []
theorem has_slices_Clone_impl_Hold : Has Tryz.prog 153 c_slices_Clone_impl_Hold φ_slices_Clone_impl_Hold := fo (G := g_slices_Clone_impl_Hold) (Φ := ph []) (t := t_slices_Clone_impl_Hold) (eo (getE_ok (hasAll_get trivial))) Tryz.f153 hE (by kernel_rfl)

def c_impl_StockDo : Con := ⟨[.ro true [kI, .list], .ro true [kI, kI, .list]], [⟨true, [.val, .val], [kI, .list], false⟩, ⟨false, [.val], [.bool], false⟩]⟩
def h_impl_StockDo : How := ⟨getH [],
  getH [(4, ⟨[.list], [(6, (.ptr 1000 0))], [(1000, .cells [(sI 1000), (.sl 1001)]), (1001, .arr 69 [.val, .val] (.v 0))], [], 2⟩)],
  getH []⟩
def g_impl_StockDo : Env := gE [] false [(152, 0, c_impl_StockMay), (153, 1, c_slices_Clone_impl_Hold)]
theorem has_impl_StockDo : Has Tryz.prog 146 c_impl_StockDo φ_impl_StockDo := fo (G := g_impl_StockDo) (Φ := Φ_impl_StockDo) (t := t_impl_StockDo) (eo (getE_ok (hasAll_get ⟨has_impl_StockMay, has_slices_Clone_impl_Hold, trivial⟩))) Tryz.f146 h_impl_StockDo (by kernel_rfl)

def c_impl_StockOf : Con := ⟨[.ro false [kI], .ro false [.list]], [⟨true, [.val, .val], [kI, .list], false⟩, ⟨false, [.val], [.bool], false⟩]⟩
def h_impl_StockOf : How := ⟨getH [(0, ⟨[.bool, kI, kI, .list], [(7, (.bool (.v 0))), (8, (sI 1))], [(2, .cells [(sI 2), (.view true (.v 3))])], [], 0⟩)],
  getH [],
  getH []⟩
def g_impl_StockOf : Env := gE [] false [(145, 0, c_impl_StockNew), (146, 1, c_impl_StockDo)]
theorem has_impl_StockOf : Has Tryz.prog 121 c_impl_StockOf φ_impl_StockOf := fo (G := g_impl_StockOf) (Φ := Φ_impl_StockOf) (t := t_impl_StockOf) (eo (getE_ok (hasAll_get ⟨has_impl_StockNew, has_impl_StockDo, trivial⟩))) Tryz.f121 h_impl_StockOf (by kernel_rfl)

def c_impl_HouseOk : Con := ⟨[.ro true [kI, .bool, kI, .list, kI]], [⟨false, [.val], [.bool], false⟩]⟩
def g_impl_HouseOk : Env := gE [] false [(68, 0, c_impl_isHouse), (52, 1, c_impl_LogOk), (121, 2, c_impl_StockOf)]
theorem has_impl_HouseOk : Has Tryz.prog 77 c_impl_HouseOk φ_impl_HouseOk := fo (G := g_impl_HouseOk) (Φ := Φ_impl_HouseOk) (t := t_impl_HouseOk) (eo (getE_ok (hasAll_get ⟨has_impl_isHouse, has_impl_LogOk, has_impl_StockOf, trivial⟩))) Tryz.f77 hE (by kernel_rfl)

def c_impl_House_copied : Con := ⟨[.ro true [kI, .bool, kI, .list, kI]], [⟨true, [.val, .val, .val, .val, .val], [kI, .bool, kI, .list, kI], false⟩]⟩
def g_impl_House_copied : Env := gE [] false [(86, 0, c_impl_Log_copied)]
theorem has_impl_House_copied : Has Tryz.prog 137 c_impl_House_copied φ_impl_House_copied := fo (G := g_impl_House_copied) (Φ := Φ_impl_House_copied) (t := t_impl_House_copied) (eo (getE_ok (hasAll_get ⟨has_impl_Log_copied, trivial⟩))) Tryz.f137 hE (by kernel_rfl)

def c_impl_House_stock : Con := ⟨[.ro true [kI, .bool, kI, .list, kI], .ro false [.bool]], [⟨true, [.val, .val], [kI, .list], false⟩]⟩
def g_impl_House_stock : Env := gE [] false [(88, 0, c_impl_Log_known), (121, 1, c_impl_StockOf)]
theorem has_impl_House_stock : Has Tryz.prog 78 c_impl_House_stock φ_impl_House_stock := fo (G := g_impl_House_stock) (Φ := Φ_impl_House_stock) (t := t_impl_House_stock) (eo (getE_ok (hasAll_get ⟨has_impl_Log_known, has_impl_StockOf, trivial⟩))) Tryz.f78 hE (by kernel_rfl)

def c_impl_House_answerTo : Con := ⟨[.ro true [kI, .bool, kI, .list, kI], .ro true [kI, kI, kI, kI]], [⟨false, [.val], [kI], false⟩]⟩
def h_impl_House_answerTo : How := ⟨getH [],
  getH [(5, ⟨[.bool], [(33, (.bool (.v 0)))], [], [], 0⟩), (3, ⟨[.bool], [(25, (.bool (.v 0)))], [], [], 0⟩)],
  getH []⟩
def g_impl_House_answerTo : Env := gE [] false [(78, 0, c_impl_House_stock)]
theorem has_impl_House_answerTo : Has Tryz.prog 155 c_impl_House_answerTo φ_impl_House_answerTo := fo (G := g_impl_House_answerTo) (Φ := Φ_impl_House_answerTo) (t := t_impl_House_answerTo) (eo (getE_ok (hasAll_get ⟨has_impl_House_stock, trivial⟩))) Tryz.f155 h_impl_House_answerTo (by kernel_rfl)

def c_impl_HouseHear : Con := ⟨[.ro true [kI, .bool, kI, .list, kI], .ro true [kI, kI, kI, kI]], [⟨true, [.val, .val, .val, .val, .val], [kI, .bool, kI, .list, kI], false⟩, ⟨true, [.val, .val, .val, .val], [kI, kI, kI, kI], false⟩, ⟨false, [.val], [.bool], false⟩]⟩
def h_impl_HouseHear : How := ⟨getH [],
  getH [(9, ⟨[.list], [], [(5, .cells [(sI 1005), (sI 1007), (.sl 1000)]), (1000, .arr 3 [.val] (.v 0))], [], 1⟩)],
  getH []⟩
def g_impl_HouseHear : Env := gE [] false [(77, 0, c_impl_HouseOk), (137, 1, c_impl_House_copied), (31, 2, c_impl_WordOk), (54, 3, c_impl_Word_answer), (78, 4, c_impl_House_stock), (152, 5, c_impl_StockMay), (91, 6, c_impl_LogAdd), (155, 7, c_impl_House_answerTo)]
theorem has_impl_HouseHear : Has Tryz.prog 150 c_impl_HouseHear φ_impl_HouseHear := fo (G := g_impl_HouseHear) (Φ := Φ_impl_HouseHear) (t := t_impl_HouseHear) (eo (getE_ok (hasAll_get ⟨has_impl_HouseOk, has_impl_House_copied, has_impl_WordOk, has_impl_Word_answer, has_impl_House_stock, has_impl_StockMay, has_impl_LogAdd, has_impl_House_answerTo, trivial⟩))) Tryz.f150 h_impl_HouseHear (by kernel_rfl)

def c_impl_World_heard : Con := ⟨[.ptr [.val, .val, .val, (.arr 42 [.val, .val, .val, .val]), (.arr 67 [.val, .val, .val, .val, .val]), (.arr 42 [.val, .val, .val, .val])] [.bool, .list, kI, .list, .list, .list], .ro true [kI, kI, kI, kI]], [⟨true, [.val, .val, .val, .val], [kI, kI, kI, kI], false⟩, ⟨false, [.val], [.bool], false⟩]⟩
def g_impl_World_heard : Env := gE [] false [(54, 0, c_impl_Word_answer), (60, 1, c_impl_Desk_hear), (150, 2, c_impl_HouseHear)]
theorem has_impl_World_heard : Has Tryz.prog 135 c_impl_World_heard φ_impl_World_heard := fo (G := g_impl_World_heard) (Φ := Φ_impl_World_heard) (t := t_impl_World_heard) (eo (getE_ok (hasAll_get ⟨has_impl_Word_answer, has_impl_Desk_hear, has_impl_HouseHear, trivial⟩))) Tryz.f135 hE (by kernel_rfl)

def c_impl_World_net : Con := ⟨[.ptr [.val, .val, .val, (.arr 42 [.val, .val, .val, .val]), (.arr 67 [.val, .val, .val, .val, .val]), (.arr 42 [.val, .val, .val, .val])] [.bool, .list, kI, .list, .list, .list], .ro true [kI, kI, kI, .list]], []⟩
def h_impl_World_net : How := ⟨getH [],
  getH [(3, ⟨[kI, kI, kI, kI], [(4, (.ptr 1000 0))], [(1000, .cells [(sI 0), (sI 1), (sI 2), (sI 3)])], [], 1⟩)],
  getH []⟩
def g_impl_World_net : Env := gE [] false [(67, 0, c_impl_in), (106, 1, c_impl_World_send), (134, 2, c_slices_Delete_impl_Word), (135, 3, c_impl_World_heard)]
theorem has_impl_World_net : Has Tryz.prog 107 c_impl_World_net φ_impl_World_net := fo (G := g_impl_World_net) (Φ := Φ_impl_World_net) (t := t_impl_World_net) (eo (getE_ok (hasAll_get ⟨has_impl_in, has_impl_World_send, has_slices_Delete_impl_Word, has_impl_World_heard, trivial⟩))) Tryz.f107 h_impl_World_net (by kernel_rfl)

def c_impl_LogForce : Con := ⟨[.ro true [.list, kI]], [⟨true, [.val, .val], [.list, kI], false⟩]⟩
def g_impl_LogForce : Env := gE [] false [(52, 0, c_impl_LogOk), (101, 1, c_impl_Log_first)]
theorem has_impl_LogForce : Has Tryz.prog 136 c_impl_LogForce φ_impl_LogForce := fo (G := g_impl_LogForce) (Φ := Φ_impl_LogForce) (t := t_impl_LogForce) (eo (getE_ok (hasAll_get ⟨has_impl_LogOk, has_impl_Log_first, trivial⟩))) Tryz.f136 hE (by kernel_rfl)

def c_impl_DeskForce : Con := ⟨[.ro true [.bool, .list, kI, .list]], [⟨true, [.val, .val, .val, (.arr 42 [.val, .val, .val, .val])], [.bool, .list, kI, .list], false⟩]⟩
def g_impl_DeskForce : Env := gE [] false [(21, 0, c_impl_DeskOk), (47, 1, c_impl_Desk_copied), (136, 2, c_impl_LogForce)]
theorem has_impl_DeskForce : Has Tryz.prog 109 c_impl_DeskForce φ_impl_DeskForce := fo (G := g_impl_DeskForce) (Φ := Φ_impl_DeskForce) (t := t_impl_DeskForce) (eo (getE_ok (hasAll_get ⟨has_impl_DeskOk, has_impl_Desk_copied, has_impl_LogForce, trivial⟩))) Tryz.f109 hE (by kernel_rfl)

def c_impl_HouseForce : Con := ⟨[.ro true [kI, .bool, kI, .list, kI]], [⟨true, [.val, .val, .val, .val, .val], [kI, .bool, kI, .list, kI], false⟩]⟩
def g_impl_HouseForce : Env := gE [] false [(77, 0, c_impl_HouseOk), (137, 1, c_impl_House_copied), (136, 2, c_impl_LogForce)]
theorem has_impl_HouseForce : Has Tryz.prog 110 c_impl_HouseForce φ_impl_HouseForce := fo (G := g_impl_HouseForce) (Φ := Φ_impl_HouseForce) (t := t_impl_HouseForce) (eo (getE_ok (hasAll_get ⟨has_impl_HouseOk, has_impl_House_copied, has_impl_LogForce, trivial⟩))) Tryz.f110 hE (by kernel_rfl)

def c_impl_World_each_impl_DeskForce_impl_HouseForce : Con := ⟨[.ptr [.val, .val, .val, (.arr 42 [.val, .val, .val, .val]), (.arr 67 [.val, .val, .val, .val, .val]), (.arr 42 [.val, .val, .val, .val])] [.bool, .list, kI, .list, .list, .list], .ro false [kI], .fn 109 [], .fn 110 []], []⟩
def g_impl_World_each_impl_DeskForce_impl_HouseForce : Env := gE [] false [(68, 0, c_impl_isHouse), (109, 1, c_impl_DeskForce), (110, 2, c_impl_HouseForce)]
theorem has_impl_World_each_impl_DeskForce_impl_HouseForce : Has Tryz.prog 108 c_impl_World_each_impl_DeskForce_impl_HouseForce φ_impl_World_each_impl_DeskForce_impl_HouseForce := fo (G := g_impl_World_each_impl_DeskForce_impl_HouseForce) (Φ := Φ_impl_World_each_impl_DeskForce_impl_HouseForce) (t := t_impl_World_each_impl_DeskForce_impl_HouseForce) (eo (getE_ok (hasAll_get ⟨has_impl_isHouse, has_impl_DeskForce, has_impl_HouseForce, trivial⟩))) Tryz.f108 hE (by kernel_rfl)

def c_impl_LogFall : Con := ⟨[.ro true [.list, kI], .ro false [kI]], [⟨true, [.val, .val], [.list, kI], false⟩]⟩
def g_impl_LogFall : Env := gE [] false [(52, 0, c_impl_LogOk), (101, 1, c_impl_Log_first)]
theorem has_impl_LogFall : Has Tryz.prog 70 c_impl_LogFall φ_impl_LogFall := fo (G := g_impl_LogFall) (Φ := Φ_impl_LogFall) (t := t_impl_LogFall) (eo (getE_ok (hasAll_get ⟨has_impl_LogOk, has_impl_Log_first, trivial⟩))) Tryz.f70 hE (by kernel_rfl)

def c_impl_DeskFall : Con := ⟨[.ro true [.bool, .list, kI, .list], .ro false [kI]], [⟨true, [.val, .val, .val, (.arr 42 [.val, .val, .val, .val])], [.bool, .list, kI, .list], false⟩]⟩
def g_impl_DeskFall : Env := gE [] false [(21, 0, c_impl_DeskOk), (70, 1, c_impl_LogFall)]
theorem has_impl_DeskFall : Has Tryz.prog 33 c_impl_DeskFall φ_impl_DeskFall := fo (G := g_impl_DeskFall) (Φ := Φ_impl_DeskFall) (t := t_impl_DeskFall) (eo (getE_ok (hasAll_get ⟨has_impl_DeskOk, has_impl_LogFall, trivial⟩))) Tryz.f33 hE (by kernel_rfl)

def c_impl_World_do_1 : Con := ⟨[.ro true [.bool, .list, kI, .list], .rptr [kI, kI, kI, .list]], [⟨true, [.val, .val, .val, (.arr 42 [.val, .val, .val, .val])], [.bool, .list, kI, .list], false⟩]⟩
def g_impl_World_do_1 : Env := gE [] false [(33, 0, c_impl_DeskFall)]
theorem has_impl_World_do_1 : Has Tryz.prog 111 c_impl_World_do_1 φ_impl_World_do_1 := fo (G := g_impl_World_do_1) (Φ := Φ_impl_World_do_1) (t := t_impl_World_do_1) (eo (getE_ok (hasAll_get ⟨has_impl_DeskFall, trivial⟩))) Tryz.f111 hE (by kernel_rfl)

def c_impl_HouseFall : Con := ⟨[.ro true [kI, .bool, kI, .list, kI], .ro false [kI]], [⟨true, [.val, .val, .val, .val, .val], [kI, .bool, kI, .list, kI], false⟩]⟩
def g_impl_HouseFall : Env := gE [] false [(77, 0, c_impl_HouseOk), (70, 1, c_impl_LogFall)]
theorem has_impl_HouseFall : Has Tryz.prog 113 c_impl_HouseFall φ_impl_HouseFall := fo (G := g_impl_HouseFall) (Φ := Φ_impl_HouseFall) (t := t_impl_HouseFall) (eo (getE_ok (hasAll_get ⟨has_impl_HouseOk, has_impl_LogFall, trivial⟩))) Tryz.f113 hE (by kernel_rfl)

def c_impl_World_do_2 : Con := ⟨[.ro true [kI, .bool, kI, .list, kI], .rptr [kI, kI, kI, .list]], [⟨true, [.val, .val, .val, .val, .val], [kI, .bool, kI, .list, kI], false⟩]⟩
def g_impl_World_do_2 : Env := gE [] false [(113, 0, c_impl_HouseFall)]
theorem has_impl_World_do_2 : Has Tryz.prog 112 c_impl_World_do_2 φ_impl_World_do_2 := fo (G := g_impl_World_do_2) (Φ := Φ_impl_World_do_2) (t := t_impl_World_do_2) (eo (getE_ok (hasAll_get ⟨has_impl_HouseFall, trivial⟩))) Tryz.f112 hE (by kernel_rfl)

def c_impl_World_each_impl_World_do_1_impl_World_do_2 : Con := ⟨[.ptr [.val, .val, .val, (.arr 42 [.val, .val, .val, .val]), (.arr 67 [.val, .val, .val, .val, .val]), (.arr 42 [.val, .val, .val, .val])] [.bool, .list, kI, .list, .list, .list], .ro false [kI], .fn 111 [[kI, kI, kI, .list]], .fn 112 [[kI, kI, kI, .list]]], []⟩
def g_impl_World_each_impl_World_do_1_impl_World_do_2 : Env := gE [] false [(68, 0, c_impl_isHouse), (111, 1, c_impl_World_do_1), (112, 2, c_impl_World_do_2)]
theorem has_impl_World_each_impl_World_do_1_impl_World_do_2 : Has Tryz.prog 108 c_impl_World_each_impl_World_do_1_impl_World_do_2 φ_impl_World_each_impl_World_do_1_impl_World_do_2 := fo (G := g_impl_World_each_impl_World_do_1_impl_World_do_2) (Φ := Φ_impl_World_each_impl_World_do_1_impl_World_do_2) (t := t_impl_World_each_impl_World_do_1_impl_World_do_2) (eo (getE_ok (hasAll_get ⟨has_impl_isHouse, has_impl_World_do_1, has_impl_World_do_2, trivial⟩))) Tryz.f108 hE (by kernel_rfl)

def c_impl_DeskRise : Con := ⟨[.ro true [.bool, .list, kI, .list]], [⟨true, [.val, .val, .val, (.arr 42 [.val, .val, .val, .val])], [.bool, .list, kI, .list], false⟩]⟩
def g_impl_DeskRise : Env := gE [] false [(21, 0, c_impl_DeskOk), (47, 1, c_impl_Desk_copied)]
theorem has_impl_DeskRise : Has Tryz.prog 114 c_impl_DeskRise φ_impl_DeskRise := fo (G := g_impl_DeskRise) (Φ := Φ_impl_DeskRise) (t := t_impl_DeskRise) (eo (getE_ok (hasAll_get ⟨has_impl_DeskOk, has_impl_Desk_copied, trivial⟩))) Tryz.f114 hE (by kernel_rfl)

def c_impl_HouseRise : Con := ⟨[.ro true [kI, .bool, kI, .list, kI]], [⟨true, [.val, .val, .val, .val, .val], [kI, .bool, kI, .list, kI], false⟩]⟩
def g_impl_HouseRise : Env := gE [] false [(77, 0, c_impl_HouseOk), (137, 1, c_impl_House_copied)]
theorem has_impl_HouseRise : Has Tryz.prog 115 c_impl_HouseRise φ_impl_HouseRise := fo (G := g_impl_HouseRise) (Φ := Φ_impl_HouseRise) (t := t_impl_HouseRise) (eo (getE_ok (hasAll_get ⟨has_impl_HouseOk, has_impl_House_copied, trivial⟩))) Tryz.f115 hE (by kernel_rfl)

def c_impl_World_each_impl_DeskRise_impl_HouseRise : Con := ⟨[.ptr [.val, .val, .val, (.arr 42 [.val, .val, .val, .val]), (.arr 67 [.val, .val, .val, .val, .val]), (.arr 42 [.val, .val, .val, .val])] [.bool, .list, kI, .list, .list, .list], .ro false [kI], .fn 114 [], .fn 115 []], []⟩
def g_impl_World_each_impl_DeskRise_impl_HouseRise : Env := gE [] false [(68, 0, c_impl_isHouse), (114, 1, c_impl_DeskRise), (115, 2, c_impl_HouseRise)]
theorem has_impl_World_each_impl_DeskRise_impl_HouseRise : Has Tryz.prog 108 c_impl_World_each_impl_DeskRise_impl_HouseRise φ_impl_World_each_impl_DeskRise_impl_HouseRise := fo (G := g_impl_World_each_impl_DeskRise_impl_HouseRise) (Φ := Φ_impl_World_each_impl_DeskRise_impl_HouseRise) (t := t_impl_World_each_impl_DeskRise_impl_HouseRise) (eo (getE_ok (hasAll_get ⟨has_impl_isHouse, has_impl_DeskRise, has_impl_HouseRise, trivial⟩))) Tryz.f108 hE (by kernel_rfl)

def c_impl_World_do : Con := ⟨[.ptr [.val, .val, .val, (.arr 42 [.val, .val, .val, .val]), (.arr 67 [.val, .val, .val, .val, .val]), (.arr 42 [.val, .val, .val, .val])] [.bool, .list, kI, .list, .list, .list], .ro true [kI, kI, kI, .list]], []⟩
def h_impl_World_do : How := ⟨getH [],
  getH [(17, ⟨[.bool], [(65, (.bool (.v 0)))], [], [], 0⟩)],
  getH []⟩
def g_impl_World_do : Env := gE [] false [(17, 0, c_impl_DeskBegin), (105, 1, c_impl_DeskGive), (56, 2, c_impl_Desk_words), (67, 3, c_impl_in), (106, 4, c_impl_World_send), (107, 5, c_impl_World_net), (108, 6, c_impl_World_each_impl_DeskForce_impl_HouseForce), (108, 7, c_impl_World_each_impl_World_do_1_impl_World_do_2), (108, 8, c_impl_World_each_impl_DeskRise_impl_HouseRise)]
theorem has_impl_World_do : Has Tryz.prog 73 c_impl_World_do φ_impl_World_do := fo (G := g_impl_World_do) (Φ := Φ_impl_World_do) (t := t_impl_World_do) (eo (getE_ok (hasAll_get ⟨has_impl_DeskBegin, has_impl_DeskGive, has_impl_Desk_words, has_impl_in, has_impl_World_send, has_impl_World_net, has_impl_World_each_impl_DeskForce_impl_HouseForce, has_impl_World_each_impl_World_do_1_impl_World_do_2, has_impl_World_each_impl_DeskRise_impl_HouseRise, trivial⟩))) Tryz.f73 h_impl_World_do (by kernel_rfl)

def c_impl_WorldPlay : Con := ⟨[.ro false [.list], .ro false [.list]], [⟨true, [.val, .val, .val, .val, .val, .val], [.bool, .list, kI, .list, .list, .list], false⟩, ⟨false, [.val], [.bool], false⟩]⟩
def h_impl_WorldPlay : How := ⟨getH [(0, ⟨[kI, .bool, .list, kI, .list, .list, .list], [(25, (sI 0))], [(4, .cells [(.bool (.v 1)), (.view true (.v 2)), (sI 3), (.sl 1000), (.sl 1001), (.sl 1002)]), (1000, .arr 42 [.val, .val, .val, .val] (.v 4)), (1001, .arr 67 [.val, .val, .val, .val, .val] (.v 5)), (1002, .arr 42 [.val, .val, .val, .val] (.v 6))], [1, 2, 3], 3⟩)],
  getH [],
  getH []⟩
def g_impl_WorldPlay : Env := gE [] false [(72, 0, c_impl_WorldNew), (73, 1, c_impl_World_do)]
theorem has_impl_WorldPlay : Has Tryz.prog 36 c_impl_WorldPlay φ_impl_WorldPlay := fo (G := g_impl_WorldPlay) (Φ := Φ_impl_WorldPlay) (t := t_impl_WorldPlay) (eo (getE_ok (hasAll_get ⟨has_impl_WorldNew, has_impl_World_do, trivial⟩))) Tryz.f36 h_impl_WorldPlay (by kernel_rfl)

def c_spec_WorldPlay : Con := ⟨[.ro false [.list], .ro false [.list]], [⟨true, [.val, .val, .val, .val, .val, .val], [.bool, .list, kI, .list, .list, .list], false⟩, ⟨false, [.val], [.bool], false⟩]⟩
def h_spec_WorldPlay : How := ⟨getH [(0, ⟨[kI, .bool, kI, .list, .list, .list, .list], [(8, (sI 0))], [(5, .cells [(.bool (.v 1)), (.sl 1000), (sI 2), (.sl 1001), (.sl 1002), (.sl 1003)]), (1000, .arr 82 [.val, .val, .val] (.v 3)), (1001, .arr 42 [.val, .val, .val, .val] (.v 4)), (1002, .arr 67 [.val, .val, .val, (.arr 82 [.val, .val, .val]), .val] (.v 5)), (1003, .arr 42 [.val, .val, .val, .val] (.v 6))], [1, 2, 3, 4], 4⟩)],
  getH [],
  getH []⟩
def g_spec_WorldPlay : Env := gE rowsS false [(74, 0, c_spec_WorldNew), (75, 1, c_spec_l21Do)]
theorem has_spec_WorldPlay : Has Tryz.prog 37 c_spec_WorldPlay φ_spec_WorldPlay := fo (G := g_spec_WorldPlay) (Φ := Φ_spec_WorldPlay) (t := t_spec_WorldPlay) (eo (getE_ok (hasAll_get ⟨has_spec_WorldNew, has_spec_l21Do, trivial⟩))) Tryz.f37 h_spec_WorldPlay (by kernel_rfl)

def c_laws_lnInts : Con := ⟨[.ro false [.list], .ro false [.list]], [⟨false, [.val], [.bool], false⟩]⟩
def h_laws_lnInts : How := ⟨getH [(0, ⟨[kI], [(4, (.bool (.b false))), (5, (sI 0))], [], [], 0⟩)],
  getH [],
  getH []⟩
def g_laws_lnInts : Env := gE [] false []
theorem has_laws_lnInts : Has Tryz.prog 28 c_laws_lnInts φ_laws_lnInts := fo (G := g_laws_lnInts) (Φ := ph []) (t := t_laws_lnInts) (eo (getE_ok (hasAll_get trivial))) Tryz.f28 h_laws_lnInts (by kernel_rfl)

def c_laws_lnRec : Con := ⟨[.ro true [kI, kI, .list], .ro true [kI, kI, .list]], [⟨false, [.val], [.bool], false⟩]⟩
def g_laws_lnRec : Env := gE [] false [(28, 0, c_laws_lnInts)]
theorem has_laws_lnRec : Has Tryz.prog 66 c_laws_lnRec φ_laws_lnRec := fo (G := g_laws_lnRec) (Φ := Φ_laws_lnRec) (t := t_laws_lnRec) (eo (getE_ok (hasAll_get ⟨has_laws_lnInts, trivial⟩))) Tryz.f66 hE (by kernel_rfl)

def c_laws_lnRecs : Con := ⟨[.ro false [.list], .ro false [.list]], [⟨false, [.val], [.bool], false⟩]⟩
def h_laws_lnRecs : How := ⟨getH [(0, ⟨[kI], [(4, (.bool (.b false))), (5, (sI 0))], [], [], 0⟩)],
  getH [],
  getH []⟩
def g_laws_lnRecs : Env := gE [] false [(66, 0, c_laws_lnRec)]
theorem has_laws_lnRecs : Has Tryz.prog 30 c_laws_lnRecs φ_laws_lnRecs := fo (G := g_laws_lnRecs) (Φ := Φ_laws_lnRecs) (t := t_laws_lnRecs) (eo (getE_ok (hasAll_get ⟨has_laws_lnRec, trivial⟩))) Tryz.f30 h_laws_lnRecs (by kernel_rfl)

def c_laws_lnLog : Con := ⟨[.ro true [.list, kI], .ro true [.list, kI]], [⟨false, [.val], [.bool], false⟩]⟩
def g_laws_lnLog : Env := gE [] false [(30, 0, c_laws_lnRecs)]
theorem has_laws_lnLog : Has Tryz.prog 51 c_laws_lnLog φ_laws_lnLog := fo (G := g_laws_lnLog) (Φ := Φ_laws_lnLog) (t := t_laws_lnLog) (eo (getE_ok (hasAll_get ⟨has_laws_lnRecs, trivial⟩))) Tryz.f51 hE (by kernel_rfl)

def c_laws_lnWords : Con := ⟨[.ro false [.list], .ro false [.list]], [⟨false, [.val], [.bool], false⟩]⟩
def h_laws_lnWords : How := ⟨getH [(0, ⟨[kI], [(4, (.bool (.b false))), (5, (sI 0))], [], [], 0⟩)],
  getH [],
  getH []⟩
def g_laws_lnWords : Env := gE [] false []
theorem has_laws_lnWords : Has Tryz.prog 29 c_laws_lnWords φ_laws_lnWords := fo (G := g_laws_lnWords) (Φ := ph []) (t := t_laws_lnWords) (eo (getE_ok (hasAll_get trivial))) Tryz.f29 h_laws_lnWords (by kernel_rfl)

def c_laws_lnDesk : Con := ⟨[.ro true [.bool, .list, kI, .list], .ro true [.bool, .list, kI, .list]], [⟨false, [.val], [.bool], false⟩]⟩
def g_laws_lnDesk : Env := gE [] false [(51, 0, c_laws_lnLog), (29, 1, c_laws_lnWords)]
theorem has_laws_lnDesk : Has Tryz.prog 18 c_laws_lnDesk φ_laws_lnDesk := fo (G := g_laws_lnDesk) (Φ := Φ_laws_lnDesk) (t := t_laws_lnDesk) (eo (getE_ok (hasAll_get ⟨has_laws_lnLog, has_laws_lnWords, trivial⟩))) Tryz.f18 hE (by kernel_rfl)

def c_laws_lnHouse : Con := ⟨[.ro true [kI, .bool, kI, .list, kI], .ro true [kI, .bool, kI, .list, kI]], [⟨false, [.val], [.bool], false⟩]⟩
def g_laws_lnHouse : Env := gE [] false [(51, 0, c_laws_lnLog)]
theorem has_laws_lnHouse : Has Tryz.prog 76 c_laws_lnHouse φ_laws_lnHouse := fo (G := g_laws_lnHouse) (Φ := Φ_laws_lnHouse) (t := t_laws_lnHouse) (eo (getE_ok (hasAll_get ⟨has_laws_lnLog, trivial⟩))) Tryz.f76 hE (by kernel_rfl)

def c_laws_lnWorld : Con := ⟨[.ro true [.bool, .list, kI, .list, .list, .list], .ro true [.bool, .list, kI, .list, .list, .list]], [⟨false, [.val], [.bool], false⟩]⟩
def h_laws_lnWorld : How := ⟨getH [(0, ⟨[kI], [(4, (.bool (.b false))), (5, (sI 0))], [], [], 0⟩)],
  getH [],
  getH []⟩
def g_laws_lnWorld : Env := gE [] false [(18, 0, c_laws_lnDesk), (29, 1, c_laws_lnWords), (76, 2, c_laws_lnHouse)]
theorem has_laws_lnWorld : Has Tryz.prog 38 c_laws_lnWorld φ_laws_lnWorld := fo (G := g_laws_lnWorld) (Φ := Φ_laws_lnWorld) (t := t_laws_lnWorld) (eo (getE_ok (hasAll_get ⟨has_laws_lnDesk, has_laws_lnWords, has_laws_lnHouse, trivial⟩))) Tryz.f38 h_laws_lnWorld (by kernel_rfl)

def c_impl_DeskTrips : Con := ⟨[.ro true [.bool, .list, kI, .list], .ro false [.bool]], [⟨false, [.val], [.list], false⟩]⟩
def g_impl_DeskTrips : Env := gE [] false [(21, 0, c_impl_DeskOk), (48, 1, c_impl_Desk_trips)]
theorem has_impl_DeskTrips : Has Tryz.prog 20 c_impl_DeskTrips φ_impl_DeskTrips := fo (G := g_impl_DeskTrips) (Φ := Φ_impl_DeskTrips) (t := t_impl_DeskTrips) (eo (getE_ok (hasAll_get ⟨has_impl_DeskOk, has_impl_Desk_trips, trivial⟩))) Tryz.f20 hE (by kernel_rfl)

def c_laws_FnWorldLogs : Con := ⟨[.own false [.val] [.list] false], [⟨false, [.val], [.bool], false⟩]⟩
def h_laws_FnWorldLogs : How := ⟨getH [(0, ⟨[kI], [(2, (.bool (.b false))), (9, (sI 0))], [], [], 0⟩)],
  getH [],
  getH []⟩
def g_laws_FnWorldLogs : Env := gE [] false [(35, 0, c_spec_DrawWorldPlay), (36, 1, c_impl_WorldPlay), (37, 2, c_spec_WorldPlay), (38, 3, c_laws_lnWorld), (20, 4, c_impl_DeskTrips)]
theorem has_laws_FnWorldLogs : Has Tryz.prog 11 c_laws_FnWorldLogs φ_laws_FnWorldLogs := fo (G := g_laws_FnWorldLogs) (Φ := Φ_laws_FnWorldLogs) (t := t_laws_FnWorldLogs) (eo (getE_ok (hasAll_get ⟨has_spec_DrawWorldPlay, has_impl_WorldPlay, has_spec_WorldPlay, has_laws_lnWorld, has_impl_DeskTrips, trivial⟩))) Tryz.f11 h_laws_FnWorldLogs (by kernel_rfl)

end Dx
