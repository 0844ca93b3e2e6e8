/- The seat: its types, its functions' contracts, and that they answer so. -/
import Derived.Test.YtnbafdnocjajcabGreatProg
import Derived.Test.YtnbafdnocjajcabGreatXe
import Derived.Test.YtnbafdnocjajcabGreatYb
set_option linter.all false
set_option linter.unusedVariables false
set_option linter.unusedSimpArgs false
set_option linter.unnecessarySimpa false
namespace Dx
open Go
def tab : List (Nat × TI) :=
[(3, ⟨.int .i64, 1, false, [.int .i64 (.n 0)], 8⟩),
  (4, ⟨.bool, 1, false, [.bool (.b false)], 1⟩),
  (5, ⟨.int .u8, 1, false, [.int .u8 (.n 0)], 1⟩),
  (22, ⟨.slice 5, 1, false, [.nil], 24⟩),
  (23, ⟨.slice 3, 1, false, [.nil], 24⟩),
  (24, ⟨.slice 54, 1, false, [.nil], 24⟩),
  (27, ⟨.slice 91, 1, false, [.nil], 24⟩),
  (29, ⟨.struct [(0, 1, false), (1, 1, false)], 2, true, [.nil, .int .i64 (.n 0)], 32⟩),
  (30, ⟨.slice 86, 1, false, [.nil], 24⟩),
  (32, ⟨.struct [(0, 1, false), (1, 2, true), (3, 1, false)], 4, true, [.bool (.b false), .nil, .int .i64 (.n 0), .nil], 64⟩),
  (33, ⟨.slice 49, 1, false, [.nil], 24⟩),
  (35, ⟨.struct [(0, 4, true), (4, 1, false), (5, 1, false)], 6, true, [.bool (.b false), .nil, .int .i64 (.n 0), .nil, .nil, .nil], 112⟩),
  (39, ⟨.slice 43, 1, false, [.nil], 24⟩),
  (43, ⟨.struct [(0, 1, false), (1, 1, false)], 2, true, [.nil, .int .i64 (.n 0)], 32⟩),
  (44, ⟨.slice 51, 1, false, [.nil], 24⟩),
  (46, ⟨.struct [(0, 1, false), (1, 1, false)], 2, true, [.int .i64 (.n 0), .nil], 32⟩),
  (49, ⟨.struct [(0, 1, false), (1, 1, false), (2, 1, false), (3, 2, true)], 5, true, [.int .i64 (.n 0), .bool (.b false), .int .i64 (.n 0), .nil, .int .i64 (.n 0)], 56⟩),
  (51, ⟨.struct [(0, 1, false), (1, 1, false)], 2, true, [.int .i64 (.n 0), .int .i64 (.n 0)], 16⟩),
  (54, ⟨.struct [(0, 1, false), (1, 1, false), (2, 1, false), (3, 1, false)], 4, true, [.int .i64 (.n 0), .int .i64 (.n 0), .int .i64 (.n 0), .nil], 48⟩),
  (86, ⟨.struct [(0, 1, false), (1, 1, false), (2, 1, false), (3, 1, false)], 4, true, [.int .i64 (.n 0), .int .i64 (.n 0), .int .i64 (.n 0), .int .i64 (.n 0)], 32⟩),
  (91, ⟨.struct [(0, 1, false), (1, 1, false), (2, 1, false)], 3, true, [.int .i64 (.n 0), .int .i64 (.n 0), .nil], 40⟩),
  (100, ⟨.struct [(0, 1, false), (1, 1, false)], 2, true, [.nil, .int .i64 (.n 0)], 32⟩),
  (122, ⟨.arr 2 3, 2, true, [.int .i64 (.n 0), .int .i64 (.n 0)], 16⟩),
  (123, ⟨.map 3 122, 1, false, [.any], 8⟩)]

def tab' : Tab := getT tab
theorem tab_ok : TabOk Proofs.Tryz.prog (getT tab) := tabB_ok (by kernel_rfl)
end Dx

namespace Dx
open Go Go.Proofs
def eqs : List (Nat × Nat) := [(86, 4), (51, 2)]
theorem eqs_ok : EqOk Tryz.prog (getQ eqs) := eqB_ok (by kernel_rfl)
theorem mixed_ok : Tryz.prog.follows .mixedOrders = true := by kernel_rfl
def rowsS : List (Nat × List Sh) := [(49, [.val, .val, .val, (.arr 91 [.val, .val, .val]), .val])]
def bodyOf (fn : Func) : Code := match fn.body with
  | some b => b
  | none => .skip
def gE (R : List (Nat × List Sh)) (tr : Bool) (E : List (Nat × Nat × Con)) : Env := ⟨getT tab, getQ eqs, getR R, getE E, tr⟩
abbrev hE : How := ⟨getH [], getH [], getH []⟩
abbrev sI (n : Nat) : SV := .int .i64 (.v n)
theorem fo {G : Env} {Φ : Phi} (hG : EnvOk Tryz.prog G Φ) {f : FuncId} (fn : Func) {c : Con} (H : How) {t : Tree} (h : (Tryz.prog.funcs[f]?, fn.body, fn.name == "runtime.NumGoroutine", fnT G H c fn (bodyOf fn)) = (some fn, some (bodyOf fn), false, t)) : Has Tryz.prog f c (fun cs => retOf (den Φ t cs)) := by
  simp only [Prod.mk.injEq] at h
  exact fn_ok hG h.1 h.2.1 h.2.2.1 h.2.2.2
theorem eo {E : Nat → List (Nat × Con)} {R : Rows} {tr : Bool} {Φ : Phi} (h : ∀ f c, c ∈ E f → Has Tryz.prog f c.2 (Φ c.1)) : EnvOk Tryz.prog ⟨getT tab, getQ eqs, R, E, tr⟩ Φ := ⟨tab_ok, eqs_ok, h, mixed_ok⟩
def c_el : Con := ⟨[.own false [.val] [.list] false], [⟨false, [.val, .val], [.list, kI], true⟩]⟩
def g_el : Env := gE rowsS false []
theorem has_el : Has Tryz.prog 34 c_el φ_el := fo (G := g_el) (Φ := ph []) (t := t_el) (eo (getE_ok (hasAll_get trivial))) Tryz.f34 hE (by kernel_rfl)

def c_bx : Con := ⟨[.ptr [.val, .val] [.list, kI], .ro false [kI]], [⟨false, [.val], [kI], false⟩]⟩
def g_bx : Env := gE rowsS false []
theorem has_bx : Has Tryz.prog 36 c_bx φ_bx := fo (G := g_bx) (Φ := ph []) (t := t_bx) (eo (getE_ok (hasAll_get trivial))) Tryz.f36 hE (by kernel_rfl)

def c_cs : Con := ⟨[.ptr [.val, .val] [.list, kI]], [⟨false, [(.arr 3 [.val])], [.list], false⟩]⟩
def g_cs : Env := gE rowsS false [(36, 0, c_bx)]
theorem has_cs : Has Tryz.prog 67 c_cs φ_cs := fo (G := g_cs) (Φ := Φ_cs) (t := t_cs) (eo (getE_ok (hasAll_get ⟨has_bx, trivial⟩))) Tryz.f67 hE (by kernel_rfl)

def c_di : Con := ⟨[], [⟨true, [.val, (.arr 91 [.val, .val, .val]), .val, (.arr 86 [.val, .val, .val, .val])], [.bool, .list, kI, .list], false⟩]⟩
def g_di : Env := gE rowsS false []
theorem has_di : Has Tryz.prog 82 c_di φ_di := fo (G := g_di) (Φ := ph []) (t := t_di) (eo (getE_ok (hasAll_get trivial))) Tryz.f82 hE (by kernel_rfl)

def c_fm : Con := ⟨[.ro false [kI], .ro false [kI], .ro false [kI]], [⟨false, [.val], [.bool], false⟩]⟩
def g_fm : Env := gE rowsS false []
theorem has_fm : Has Tryz.prog 59 c_fm φ_fm := fo (G := g_fm) (Φ := ph []) (t := t_fm) (eo (getE_ok (hasAll_get trivial))) Tryz.f59 hE (by kernel_rfl)

def c_dg : Con := ⟨[.ro false [kI]], [⟨true, [.val, (.arr 51 [.val, .val])], [kI, .list], false⟩, ⟨false, [.val], [.bool], false⟩]⟩
def g_dg : Env := gE rowsS false [(59, 0, c_fm)]
theorem has_dg : Has Tryz.prog 122 c_dg φ_dg := fo (G := g_dg) (Φ := Φ_dg) (t := t_dg) (eo (getE_ok (hasAll_get ⟨has_fm, trivial⟩))) Tryz.f122 hE (by kernel_rfl)

def c_cz : Con := ⟨[.ro false [kI], .ro false [kI]], [⟨true, [.val, .val, .val, (.arr 91 [.val, .val, .val]), .val], [kI, .bool, kI, .list, kI], false⟩, ⟨false, [.val], [.bool], false⟩]⟩
def g_cz : Env := gE rowsS false [(122, 0, c_dg), (59, 1, c_fm)]
theorem has_cz : Has Tryz.prog 83 c_cz φ_cz := fo (G := g_cz) (Φ := Φ_cz) (t := t_cz) (eo (getE_ok (hasAll_get ⟨has_dg, has_fm, trivial⟩))) Tryz.f83 hE (by kernel_rfl)

def c_cx : Con := ⟨[.ro false [.list]], [⟨true, [.val, (.arr 91 [.val, .val, .val]), .val, (.arr 86 [.val, .val, .val, .val]), (.arr 49 [.val, .val, .val, (.arr 91 [.val, .val, .val]), .val]), (.arr 86 [.val, .val, .val, .val])], [.bool, .list, kI, .list, .list, .list], false⟩, ⟨false, [.val], [.bool], false⟩]⟩
def h_cx : How := ⟨getH [(0, ⟨[kI, .list], [(3, (.bool (.b false))), (5, (sI 0))], [(4, .cells [(.bool (.v 1001)), (.sl 1), (sI 1003), (.sl 2), (.sl 1000), (.sl 3)]), (1000, .arr 49 [.val, .val, .val, (.arr 91 [.val, .val, .val]), .val] (.v 1))], [], 1⟩)],
  getH [],
  getH []⟩
def g_cx : Env := gE rowsS false [(82, 0, c_di), (83, 1, c_cz)]
theorem has_cx : Has Tryz.prog 38 c_cx φ_cx := fo (G := g_cx) (Φ := Φ_cx) (t := t_cx) (eo (getE_ok (hasAll_get ⟨has_di, has_cz, trivial⟩))) Tryz.f38 h_cx (by kernel_rfl)

def c_ep : Con := ⟨[.ro false [.list]], [⟨false, [.val], [.bool], false⟩]⟩
def h_ep : How := ⟨getH [(0, ⟨[kI, kI], [(2, (.bool (.b false))), (3, (sI 0)), (4, (sI 1))], [], [], 0⟩)],
  getH [],
  getH []⟩
def g_ep : Env := gE rowsS false [(59, 0, c_fm)]
theorem has_ep : Has Tryz.prog 151 c_ep φ_ep := fo (G := g_ep) (Φ := Φ_ep) (t := t_ep) (eo (getE_ok (hasAll_get ⟨has_fm, trivial⟩))) Tryz.f151 h_ep (by kernel_rfl)

def c_fe : Con := ⟨[.ro true [kI, kI, .list]], [⟨false, [.val], [.bool], false⟩]⟩
def g_fe : Env := gE rowsS false [(59, 0, c_fm), (151, 1, c_ep)]
theorem has_fe : Has Tryz.prog 123 c_fe φ_fe := fo (G := g_fe) (Φ := Φ_fe) (t := t_fe) (eo (getE_ok (hasAll_get ⟨has_fm, has_ep, trivial⟩))) Tryz.f123 hE (by kernel_rfl)

def c_eu : Con := ⟨[.ro false [.list], .ro true [kI, kI, .list]], [⟨false, [.val], [.bool], false⟩]⟩
def g_eu : Env := gE rowsS false []
theorem has_eu : Has Tryz.prog 143 c_eu φ_eu := fo (G := g_eu) (Φ := ph []) (t := t_eu) (eo (getE_ok (hasAll_get trivial))) Tryz.f143 hE (by kernel_rfl)

def c_ff : Con := ⟨[.own false [(.arr 43 [.val, .val])] [.list] false, .ro true [kI, kI, .list]], [⟨false, [(.arr 43 [.val, .val])], [.list], false⟩]⟩
def g_ff : Env := gE rowsS false []
theorem has_ff : Has Tryz.prog 144 c_ff φ_ff := fo (G := g_ff) (Φ := ph []) (t := t_ff) (eo (getE_ok (hasAll_get trivial))) Tryz.f144 hE (by kernel_rfl)

def c_fc : Con := ⟨[.ro false [.list]], [⟨false, [.val], [.list], false⟩, ⟨false, [.val], [.bool], false⟩]⟩
def h_fc : How := ⟨getH [(0, ⟨[kI, .list], [(2, .nil), (3, (.bool (.b false))), (4, (.sl 1000)), (5, (sI 0))], [(1000, .arr 43 [.val, .val] (.v 1))], [0], 1⟩)],
  getH [],
  getH []⟩
def g_fc : Env := gE rowsS false [(123, 0, c_fe), (143, 1, c_eu), (144, 2, c_ff)]
theorem has_fc : Has Tryz.prog 112 c_fc φ_fc := fo (G := g_fc) (Φ := Φ_fc) (t := t_fc) (eo (getE_ok (hasAll_get ⟨has_fe, has_eu, has_ff, trivial⟩))) Tryz.f112 h_fc (by kernel_rfl)

def c_cu : Con := ⟨[.ro true [.bool, .list, kI, .list], .ro false [.bool]], [⟨false, [.val], [.list], false⟩]⟩
def g_cu : Env := gE rowsS false [(112, 0, c_fc)]
theorem has_cu : Has Tryz.prog 116 c_cu φ_cu := fo (G := g_cu) (Φ := Φ_cu) (t := t_cu) (eo (getE_ok (hasAll_get ⟨has_fc, trivial⟩))) Tryz.f116 hE (by kernel_rfl)

def c_fb : Con := ⟨[.own true [(.arr 91 [.val, .val, .val]), .val] [.list, kI] false, .own true [.val, .val, .val] [kI, kI, .list] false], [⟨true, [(.arr 91 [.val, .val, .val]), .val], [.list, kI], false⟩, ⟨false, [.val], [.bool], false⟩]⟩
def g_fb : Env := gE rowsS false []
theorem has_fb : Has Tryz.prog 152 c_fb φ_fb := fo (G := g_fb) (Φ := ph []) (t := t_fb) (eo (getE_ok (hasAll_get trivial))) Tryz.f152 hE (by kernel_rfl)

def c_cw : Con := ⟨[.own true [.val, (.arr 91 [.val, .val, .val]), .val, (.arr 86 [.val, .val, .val, .val])] [.bool, .list, kI, .list] false, .own true [.val, .val, .val] [kI, kI, .list] false], [⟨true, [.val, (.arr 91 [.val, .val, .val]), .val, (.arr 86 [.val, .val, .val, .val])], [.bool, .list, kI, .list], false⟩, ⟨false, [.val], [.bool], false⟩]⟩
def g_cw : Env := gE rowsS false [(116, 0, c_cu), (143, 1, c_eu), (152, 2, c_fb)]
theorem has_cw : Has Tryz.prog 124 c_cw φ_cw := fo (G := g_cw) (Φ := Φ_cw) (t := t_cw) (eo (getE_ok (hasAll_get ⟨has_cu, has_eu, has_fb, trivial⟩))) Tryz.f124 hE (by kernel_rfl)

def c_eg : Con := ⟨[.ro false [.list], .ro true [kI, kI, kI, kI]], [⟨false, [.val], [.bool], false⟩]⟩
def h_eg : How := ⟨getH [(0, ⟨[kI], [(4, (.bool (.b false))), (5, (sI 0))], [], [], 0⟩)],
  getH [],
  getH []⟩
def g_eg : Env := gE rowsS false []
theorem has_eg : Has Tryz.prog 114 c_eg φ_eg := fo (G := g_eg) (Φ := ph []) (t := t_eg) (eo (getE_ok (hasAll_get trivial))) Tryz.f114 h_eg (by kernel_rfl)

def c_cm : Con := ⟨[.ro true [.bool, .list, kI, .list]], [⟨false, [.val], [.list], false⟩]⟩
def h_cm : How := ⟨getH [(0, ⟨[kI, .list], [(3, (.sl 1000)), (5, (sI 0))], [(1000, .arr 86 [.val, .val, .val, .val] (.v 1))], [1], 1⟩), (2, ⟨[kI, .list], [(3, (.sl 1000)), (6, (sI 0))], [(1000, .arr 86 [.val, .val, .val, .val] (.v 1))], [2], 1⟩)],
  getH [],
  getH []⟩
def g_cm : Env := gE rowsS false [(116, 0, c_cu), (114, 1, c_eg)]
theorem has_cm : Has Tryz.prog 109 c_cm φ_cm := fo (G := g_cm) (Φ := Φ_cm) (t := t_cm) (eo (getE_ok (hasAll_get ⟨has_cu, has_eg, trivial⟩))) Tryz.f109 h_cm (by kernel_rfl)

def c_eo : Con := ⟨[.own true [.val, (.arr 91 [.val, .val, .val]), .val, (.arr 86 [.val, .val, .val, .val]), (.arr 49 [.val, .val, .val, (.arr 91 [.val, .val, .val]), .val]), (.arr 86 [.val, .val, .val, .val])] [.bool, .list, kI, .list, .list, .list] false, .ro true [kI, kI, kI, kI]], [⟨true, [.val, (.arr 91 [.val, .val, .val]), .val, (.arr 86 [.val, .val, .val, .val]), (.arr 49 [.val, .val, .val, (.arr 91 [.val, .val, .val]), .val]), (.arr 86 [.val, .val, .val, .val])], [.bool, .list, kI, .list, .list, .list], false⟩]⟩
def g_eo : Env := gE rowsS false []
theorem has_eo : Has Tryz.prog 125 c_eo φ_eo := fo (G := g_eo) (Φ := ph []) (t := t_eo) (eo (getE_ok (hasAll_get trivial))) Tryz.f125 hE (by kernel_rfl)

def c_dx : Con := ⟨[.own true [.val, (.arr 91 [.val, .val, .val]), .val, (.arr 86 [.val, .val, .val, .val]), (.arr 49 [.val, .val, .val, (.arr 91 [.val, .val, .val]), .val]), (.arr 86 [.val, .val, .val, .val])] [.bool, .list, kI, .list, .list, .list] false, .ro true [kI, kI, kI, .list]], [⟨true, [.val, (.arr 91 [.val, .val, .val]), .val, (.arr 86 [.val, .val, .val, .val]), (.arr 49 [.val, .val, .val, (.arr 91 [.val, .val, .val]), .val]), (.arr 86 [.val, .val, .val, .val])], [.bool, .list, kI, .list, .list, .list], false⟩]⟩
def g_dx : Env := gE rowsS false [(116, 0, c_cu), (123, 1, c_fe), (124, 2, c_cw), (59, 3, c_fm), (109, 4, c_cm), (125, 5, c_eo)]
theorem has_dx : Has Tryz.prog 84 c_dx φ_dx := fo (G := g_dx) (Φ := Φ_dx) (t := t_dx) (eo (getE_ok (hasAll_get ⟨has_cu, has_fe, has_cw, has_fm, has_cm, has_eo, trivial⟩))) Tryz.f84 hE (by kernel_rfl)

def c_ea : Con := ⟨[.own true [.val, (.arr 91 [.val, .val, .val]), .val, (.arr 86 [.val, .val, .val, .val]), (.arr 49 [.val, .val, .val, (.arr 91 [.val, .val, .val]), .val]), (.arr 86 [.val, .val, .val, .val])] [.bool, .list, kI, .list, .list, .list] false, .ro false [kI]], [⟨true, [.val, (.arr 91 [.val, .val, .val]), .val, (.arr 86 [.val, .val, .val, .val]), (.arr 49 [.val, .val, .val, (.arr 91 [.val, .val, .val]), .val]), (.arr 86 [.val, .val, .val, .val])], [.bool, .list, kI, .list, .list, .list], false⟩]⟩
def g_ea : Env := gE rowsS false []
theorem has_ea : Has Tryz.prog 126 c_ea φ_ea := fo (G := g_ea) (Φ := ph []) (t := t_ea) (eo (getE_ok (hasAll_get trivial))) Tryz.f126 hE (by kernel_rfl)

def c_ek : Con := ⟨[.ro true [kI, kI, kI, kI]], [⟨false, [.val], [.bool], false⟩]⟩
def g_ek : Env := gE rowsS false [(59, 0, c_fm)]
theorem has_ek : Has Tryz.prog 64 c_ek φ_ek := fo (G := g_ek) (Φ := Φ_ek) (t := t_ek) (eo (getE_ok (hasAll_get ⟨has_fm, trivial⟩))) Tryz.f64 hE (by kernel_rfl)

def c_en : Con := ⟨[.ro true [.bool, .list, kI, .list], .ro false [kI], .ro false [.list], .ro false [kI]], [⟨false, [.val], [.bool], false⟩]⟩
def h_en : How := ⟨getH [(0, ⟨[kI], [(8, (.bool (.b false))), (9, (sI 0))], [], [], 0⟩)],
  getH [],
  getH []⟩
def g_en : Env := gE rowsS false [(114, 0, c_eg)]
theorem has_en : Has Tryz.prog 171 c_en φ_en := fo (G := g_en) (Φ := Φ_en) (t := t_en) (eo (getE_ok (hasAll_get ⟨has_eg, trivial⟩))) Tryz.f171 h_en (by kernel_rfl)

def c_et : Con := ⟨[.ro true [.bool, .list, kI, .list], .ro false [kI], .ro false [.list], .ro false [kI]], [⟨false, [.val], [.bool], false⟩]⟩
def h_et : How := ⟨getH [(0, ⟨[kI], [(8, (.bool (.b false))), (9, (sI 0))], [], [], 0⟩)],
  getH [],
  getH []⟩
def g_et : Env := gE rowsS false [(114, 0, c_eg)]
theorem has_et : Has Tryz.prog 172 c_et φ_et := fo (G := g_et) (Φ := Φ_et) (t := t_et) (eo (getE_ok (hasAll_get ⟨has_eg, trivial⟩))) Tryz.f172 h_et (by kernel_rfl)

def c_cd : Con := ⟨[.own true [.val, (.arr 91 [.val, .val, .val]), .val, (.arr 86 [.val, .val, .val, .val])] [.bool, .list, kI, .list] false, .ro false [kI]], [⟨true, [.val, (.arr 91 [.val, .val, .val]), .val, (.arr 86 [.val, .val, .val, .val])], [.bool, .list, kI, .list], false⟩]⟩
def h_cd : How := ⟨getH [],
  getH [(9, ⟨[.bool], [(47, (.bool (.v 0)))], [], [], 0⟩), (7, ⟨[.bool], [(36, (.bool (.v 0)))], [], [], 0⟩), (5, ⟨[.bool], [(8, (.bool (.v 0)))], [], [], 0⟩)],
  getH []⟩
def g_cd : Env := gE rowsS false [(116, 0, c_cu), (171, 1, c_en), (172, 2, c_et), (124, 3, c_cw)]
theorem has_cd : Has Tryz.prog 161 c_cd φ_cd := fo (G := g_cd) (Φ := Φ_cd) (t := t_cd) (eo (getE_ok (hasAll_get ⟨has_cu, has_en, has_et, has_cw, trivial⟩))) Tryz.f161 h_cd (by kernel_rfl)

def c_du : Con := ⟨[.own true [.val, (.arr 91 [.val, .val, .val]), .val, (.arr 86 [.val, .val, .val, .val])] [.bool, .list, kI, .list] false, .ro true [kI, kI, kI, kI]], [⟨true, [.val, (.arr 91 [.val, .val, .val]), .val, (.arr 86 [.val, .val, .val, .val])], [.bool, .list, kI, .list], false⟩]⟩
def g_du : Env := gE rowsS false [(64, 0, c_ek), (116, 1, c_cu), (114, 2, c_eg), (161, 3, c_cd)]
theorem has_du : Has Tryz.prog 141 c_du φ_du := fo (G := g_du) (Φ := Φ_du) (t := t_du) (eo (getE_ok (hasAll_get ⟨has_ek, has_cu, has_eg, has_cd, trivial⟩))) Tryz.f141 hE (by kernel_rfl)

def c_em : Con := ⟨[.ro true [kI, .list]], [⟨false, [.val], [kI], false⟩]⟩
def h_em : How := ⟨getH [(0, ⟨[kI, kI], [(3, (sI 0)), (4, (sI 1))], [], [], 0⟩)],
  getH [],
  getH []⟩
def g_em : Env := gE rowsS false []
theorem has_em : Has Tryz.prog 165 c_em φ_em := fo (G := g_em) (Φ := ph []) (t := t_em) (eo (getE_ok (hasAll_get trivial))) Tryz.f165 h_em (by kernel_rfl)

def c_fd : Con := ⟨[.ro true [kI, .list], .ro true [kI, kI, .list]], [⟨false, [.val], [.bool], false⟩]⟩
def g_fd : Env := gE rowsS false [(165, 0, c_em)]
theorem has_fd : Has Tryz.prog 145 c_fd φ_fd := fo (G := g_fd) (Φ := Φ_fd) (t := t_fd) (eo (getE_ok (hasAll_get ⟨has_em, trivial⟩))) Tryz.f145 hE (by kernel_rfl)

def c_spec_l2Do : Con := ⟨[.own true [.val, (.arr 51 [.val, .val])] [kI, .list] false, .ro true [kI, kI, .list]], [⟨true, [.val, (.arr 51 [.val, .val])], [kI, .list], false⟩]⟩
def g_spec_l2Do : Env := gE rowsS false []
theorem has_spec_l2Do : Has Tryz.prog 146 c_spec_l2Do φ_spec_l2Do := fo (G := g_spec_l2Do) (Φ := ph []) (t := t_spec_l2Do) (eo (getE_ok (hasAll_get trivial))) Tryz.f146 hE (by kernel_rfl)

def c_fl : Con := ⟨[.ro false [kI], .ro false [.list]], [⟨true, [.val, .val], [kI, .list], false⟩, ⟨false, [.val], [.bool], false⟩]⟩
def h_fl : How := ⟨getH [(0, ⟨[kI, kI, .list], [(5, (.bool (.b false))), (8, (sI 0))], [(2, .cells [(sI 1), (.sl 1000)]), (1000, .arr 51 [.val, .val] (.v 2))], [1], 1⟩)],
  getH [],
  getH []⟩
def g_fl : Env := gE rowsS false [(122, 0, c_dg), (123, 1, c_fe), (145, 2, c_fd), (146, 3, c_spec_l2Do)]
theorem has_fl : Has Tryz.prog 115 c_fl φ_fl := fo (G := g_fl) (Φ := Φ_fl) (t := t_fl) (eo (getE_ok (hasAll_get ⟨has_dg, has_fe, has_fd, has_spec_l2Do, trivial⟩))) Tryz.f115 h_fl (by kernel_rfl)

def c_cp : Con := ⟨[.ro true [kI, .bool, kI, .list, kI], .ro false [.bool]], [⟨true, [.val, .val], [kI, .list], false⟩]⟩
def g_cp : Env := gE rowsS false [(115, 0, c_fl)]
theorem has_cp : Has Tryz.prog 162 c_cp φ_cp := fo (G := g_cp) (Φ := Φ_cp) (t := t_cp) (eo (getE_ok (hasAll_get ⟨has_fl, trivial⟩))) Tryz.f162 hE (by kernel_rfl)

def c_ej : Con := ⟨[.ro true [kI, kI, kI, kI]], [⟨true, [.val, .val, .val], [kI, kI, .list], false⟩]⟩
def g_ej : Env := gE rowsS false []
theorem has_ej : Has Tryz.prog 163 c_ej φ_ej := fo (G := g_ej) (Φ := ph []) (t := t_ej) (eo (getE_ok (hasAll_get trivial))) Tryz.f163 hE (by kernel_rfl)

def c_ce : Con := ⟨[.ro true [kI, .bool, kI, .list, kI], .ro true [kI, kI, kI, kI], .ro false [kI]], [⟨true, [.val, .val, .val, .val], [kI, kI, kI, kI], false⟩, ⟨false, [.val], [.bool], false⟩]⟩
def h_ce : How := ⟨getH [],
  getH [(6, ⟨[.bool], [(28, (.bool (.v 0)))], [], [], 0⟩), (4, ⟨[.bool], [(15, (.bool (.v 0)))], [], [], 0⟩)],
  getH []⟩
def g_ce : Env := gE rowsS false []
theorem has_ce : Has Tryz.prog 164 c_ce φ_ce := fo (G := g_ce) (Φ := ph []) (t := t_ce) (eo (getE_ok (hasAll_get trivial))) Tryz.f164 h_ce (by kernel_rfl)

def c_eh : Con := ⟨[.own true [.val, .val, .val, (.arr 91 [.val, .val, .val]), .val] [kI, .bool, kI, .list, kI] false, .ro true [kI, kI, kI, kI]], [⟨true, [.val, .val, .val, (.arr 91 [.val, .val, .val]), .val], [kI, .bool, kI, .list, kI], false⟩, ⟨true, [.val, .val, .val, .val], [kI, kI, kI, kI], false⟩, ⟨false, [.val], [.bool], false⟩]⟩
def g_eh : Env := gE rowsS false [(64, 0, c_ek), (162, 1, c_cp), (163, 2, c_ej), (145, 3, c_fd), (152, 4, c_fb), (164, 5, c_ce)]
theorem has_eh : Has Tryz.prog 142 c_eh φ_eh := fo (G := g_eh) (Φ := Φ_eh) (t := t_eh) (eo (getE_ok (hasAll_get ⟨has_ek, has_cp, has_ej, has_fd, has_fb, has_ce, trivial⟩))) Tryz.f142 hE (by kernel_rfl)

def c_ee : Con := ⟨[.own true [.val, (.arr 91 [.val, .val, .val]), .val, (.arr 86 [.val, .val, .val, .val]), (.arr 49 [.val, .val, .val, (.arr 91 [.val, .val, .val]), .val]), (.arr 86 [.val, .val, .val, .val])] [.bool, .list, kI, .list, .list, .list] false, .ro true [kI, kI, kI, kI]], [⟨true, [.val, (.arr 91 [.val, .val, .val]), .val, (.arr 86 [.val, .val, .val, .val]), (.arr 49 [.val, .val, .val, (.arr 91 [.val, .val, .val]), .val]), (.arr 86 [.val, .val, .val, .val])], [.bool, .list, kI, .list, .list, .list], false⟩, ⟨true, [.val, .val, .val, .val], [kI, kI, kI, kI], false⟩, ⟨false, [.val], [.bool], false⟩]⟩
def g_ee : Env := gE rowsS false [(141, 0, c_du), (142, 1, c_eh)]
theorem has_ee : Has Tryz.prog 110 c_ee φ_ee := fo (G := g_ee) (Φ := Φ_ee) (t := t_ee) (eo (getE_ok (hasAll_get ⟨has_du, has_eh, trivial⟩))) Tryz.f110 hE (by kernel_rfl)

def c_ey : Con := ⟨[.own true [.val, (.arr 91 [.val, .val, .val]), .val, (.arr 86 [.val, .val, .val, .val]), (.arr 49 [.val, .val, .val, (.arr 91 [.val, .val, .val]), .val]), (.arr 86 [.val, .val, .val, .val])] [.bool, .list, kI, .list, .list, .list] false, .ro true [kI, kI, kI, .list]], [⟨true, [.val, (.arr 91 [.val, .val, .val]), .val, (.arr 86 [.val, .val, .val, .val]), (.arr 49 [.val, .val, .val, (.arr 91 [.val, .val, .val]), .val]), (.arr 86 [.val, .val, .val, .val])], [.bool, .list, kI, .list, .list, .list], false⟩]⟩
def g_ey : Env := gE rowsS false [(59, 0, c_fm), (126, 1, c_ea), (125, 2, c_eo), (110, 3, c_ee)]
theorem has_ey : Has Tryz.prog 85 c_ey φ_ey := fo (G := g_ey) (Φ := Φ_ey) (t := t_ey) (eo (getE_ok (hasAll_get ⟨has_fm, has_ea, has_eo, has_ee, trivial⟩))) Tryz.f85 hE (by kernel_rfl)

def c_da : Con := ⟨[.own true [.val, (.arr 91 [.val, .val, .val]), .val, (.arr 86 [.val, .val, .val, .val]), (.arr 49 [.val, .val, .val, (.arr 91 [.val, .val, .val]), .val]), (.arr 86 [.val, .val, .val, .val])] [.bool, .list, kI, .list, .list, .list] false, .ro false [kI]], [⟨true, [.val, (.arr 91 [.val, .val, .val]), .val, (.arr 86 [.val, .val, .val, .val]), (.arr 49 [.val, .val, .val, (.arr 91 [.val, .val, .val]), .val]), (.arr 86 [.val, .val, .val, .val])], [.bool, .list, kI, .list, .list, .list], false⟩]⟩
def h_da : How := ⟨getH [],
  getH [(3, ⟨[kI], [], [(4, .cells [(.bool (.v 1000)), (.sl 0), (sI 0), (.sl 1), (.sl 2), (.sl 3)])], [], 0⟩)],
  getH []⟩
def g_da : Env := gE rowsS false [(59, 0, c_fm)]
theorem has_da : Has Tryz.prog 111 c_da φ_da := fo (G := g_da) (Φ := Φ_da) (t := t_da) (eo (getE_ok (hasAll_get ⟨has_fm, trivial⟩))) Tryz.f111 h_da (by kernel_rfl)

def c_ex : Con := ⟨[.own true [(.arr 91 [.val, .val, .val]), .val] [.list, kI] false, .ro false [kI]], [⟨true, [(.arr 91 [.val, .val, .val]), .val], [.list, kI], false⟩]⟩
def g_ex : Env := gE rowsS true []
theorem has_ex : Has Tryz.prog 128 c_ex φ_ex := fo (G := g_ex) (Φ := ph []) (t := t_ex) (eo (getE_ok (hasAll_get trivial))) Tryz.f128 hE (by kernel_rfl)

def c_dq : Con := ⟨[.own true [.val, (.arr 91 [.val, .val, .val]), .val, (.arr 86 [.val, .val, .val, .val])] [.bool, .list, kI, .list] false, .ro false [kI]], [⟨true, [.val, (.arr 91 [.val, .val, .val]), .val, (.arr 86 [.val, .val, .val, .val])], [.bool, .list, kI, .list], false⟩]⟩
def g_dq : Env := gE rowsS false [(128, 0, c_ex)]
theorem has_dq : Has Tryz.prog 127 c_dq φ_dq := fo (G := g_dq) (Φ := Φ_dq) (t := t_dq) (eo (getE_ok (hasAll_get ⟨has_ex, trivial⟩))) Tryz.f127 hE (by kernel_rfl)

def c_dm : Con := ⟨[.own true [.val, (.arr 91 [.val, .val, .val]), .val, (.arr 86 [.val, .val, .val, .val]), (.arr 49 [.val, .val, .val, (.arr 91 [.val, .val, .val]), .val]), (.arr 86 [.val, .val, .val, .val])] [.bool, .list, kI, .list, .list, .list] false, .ro true [kI, kI, kI, .list]], [⟨true, [.val, (.arr 91 [.val, .val, .val]), .val, (.arr 86 [.val, .val, .val, .val]), (.arr 49 [.val, .val, .val, (.arr 91 [.val, .val, .val]), .val]), (.arr 86 [.val, .val, .val, .val])], [.bool, .list, kI, .list, .list, .list], false⟩]⟩
def g_dm : Env := gE rowsS false [(59, 0, c_fm), (111, 1, c_da), (127, 2, c_dq), (128, 3, c_ex)]
theorem has_dm : Has Tryz.prog 86 c_dm φ_dm := fo (G := g_dm) (Φ := Φ_dm) (t := t_dm) (eo (getE_ok (hasAll_get ⟨has_fm, has_da, has_dq, has_ex, trivial⟩))) Tryz.f86 hE (by kernel_rfl)

def c_fa : Con := ⟨[.own true [.val, (.arr 91 [.val, .val, .val]), .val, (.arr 86 [.val, .val, .val, .val]), (.arr 49 [.val, .val, .val, (.arr 91 [.val, .val, .val]), .val]), (.arr 86 [.val, .val, .val, .val])] [.bool, .list, kI, .list, .list, .list] false, .ro true [kI, kI, kI, .list]], [⟨true, [.val, (.arr 91 [.val, .val, .val]), .val, (.arr 86 [.val, .val, .val, .val]), (.arr 49 [.val, .val, .val, (.arr 91 [.val, .val, .val]), .val]), (.arr 86 [.val, .val, .val, .val])], [.bool, .list, kI, .list, .list, .list], false⟩]⟩
def h_fa : How := ⟨getH [],
  getH [(5, ⟨[.bool], [(7, (.bool (.v 0)))], [], [], 0⟩)],
  getH []⟩
def g_fa : Env := gE rowsS false [(84, 0, c_dx), (85, 1, c_ey), (86, 2, c_dm)]
theorem has_fa : Has Tryz.prog 39 c_fa φ_fa := fo (G := g_fa) (Φ := Φ_fa) (t := t_fa) (eo (getE_ok (hasAll_get ⟨has_dx, has_ey, has_dm, trivial⟩))) Tryz.f39 h_fa (by kernel_rfl)

def c_df : Con := ⟨[.ptr [.val, .val] [.list, kI], .ro true [.bool, .list, kI, .list, .list, .list]], [⟨true, [.val, .val, .val, .val], [kI, kI, kI, .list], false⟩]⟩
def h_df : How := ⟨getH [],
  getH [(25, ⟨[.bool], [(77, (.bool (.v 0)))], [], [], 0⟩), (17, ⟨[.bool], [(52, (.bool (.v 0)))], [], [], 0⟩), (9, ⟨[.bool], [(32, (.bool (.v 0)))], [], [], 0⟩), (6, ⟨[.list, kI], [], [(0, .cells [(.view true (.v 0)), (sI 1)])], [], 0⟩)],
  getH []⟩
def g_df : Env := gE rowsS false [(116, 0, c_cu), (109, 1, c_cm), (36, 2, c_bx)]
theorem has_df : Has Tryz.prog 68 c_df φ_df := fo (G := g_df) (Φ := Φ_df) (t := t_df) (eo (getE_ok (hasAll_get ⟨has_cu, has_cm, has_bx, trivial⟩))) Tryz.f68 h_df (by kernel_rfl)

def c_dz : Con := ⟨[.ptr [.val, .val] [.list, kI]], [⟨false, [(.arr 3 [.val])], [.list], false⟩, ⟨false, [(.arr 54 [.val, .val, .val, .val])], [.list], false⟩, ⟨true, [.val, (.arr 91 [.val, .val, .val]), .val, (.arr 86 [.val, .val, .val, .val]), (.arr 49 [.val, .val, .val, (.arr 91 [.val, .val, .val]), .val]), (.arr 86 [.val, .val, .val, .val])], [.bool, .list, kI, .list, .list, .list], false⟩]⟩
def h_dz : How := ⟨getH [(2, ⟨[kI, .list, kI, .bool, kI, .list, .list, .list, .list, .list], [(8, (.sl 1000)), (11, (sI 0))], [(0, .cells [(.view true (.v 1)), (sI 2)]), (7, .cells [(.bool (.v 3)), (.sl 1001), (sI 4), (.sl 1002), (.sl 1003), (.sl 1004)]), (1000, .arr 54 [.val, .val, .val, .val] (.v 5)), (1001, .arr 91 [.val, .val, .val] (.v 6)), (1002, .arr 86 [.val, .val, .val, .val] (.v 7)), (1003, .arr 49 [.val, .val, .val, (.arr 91 [.val, .val, .val]), .val] (.v 8)), (1004, .arr 86 [.val, .val, .val, .val] (.v 9))], [9, 10, 11, 12, 13], 5⟩), (0, ⟨[kI, .bool, kI, .list, .list, .list, .list, .list], [(8, (.sl 1000)), (29, (sI 0))], [(7, .cells [(.bool (.v 1)), (.sl 1001), (sI 2), (.sl 1002), (.sl 1003), (.sl 1004)]), (1000, .arr 54 [.val, .val, .val, .val] (.v 3)), (1001, .arr 91 [.val, .val, .val] (.v 4)), (1002, .arr 86 [.val, .val, .val, .val] (.v 5)), (1003, .arr 49 [.val, .val, .val, (.arr 91 [.val, .val, .val]), .val] (.v 6)), (1004, .arr 86 [.val, .val, .val, .val] (.v 7))], [8, 3, 4, 5, 6], 5⟩)],
  getH [(11, ⟨[.bool, kI, .list, kI, .list, .list, .list, .list, .list], [(8, (.sl 1000))], [(7, .cells [(.bool (.v 0)), (.sl 1001), (sI 1), (.sl 1002), (.sl 1003), (.sl 1004)]), (0, .cells [(.view true (.v 2)), (sI 3)]), (1000, .arr 54 [.val, .val, .val, .val] (.v 4)), (1001, .arr 91 [.val, .val, .val] (.v 5)), (1002, .arr 86 [.val, .val, .val, .val] (.v 6)), (1003, .arr 49 [.val, .val, .val, (.arr 91 [.val, .val, .val]), .val] (.v 7)), (1004, .arr 86 [.val, .val, .val, .val] (.v 8))], [8, 3, 4, 5, 6], 5⟩)],
  getH []⟩
def g_dz : Env := gE rowsS false [(67, 0, c_cs), (38, 1, c_cx), (36, 2, c_bx), (39, 3, c_fa), (68, 4, c_df)]
theorem has_dz : Has Tryz.prog 35 c_dz φ_dz := fo (G := g_dz) (Φ := Φ_dz) (t := t_dz) (eo (getE_ok (hasAll_get ⟨has_cs, has_cx, has_bx, has_fa, has_df, trivial⟩))) Tryz.f35 h_dz (by kernel_rfl)

def c_av : Con := ⟨[.own false [.val] [.list] false], [⟨false, [.val], [.list], false⟩, ⟨false, [.val], [.list], false⟩]⟩
def h_av : How := ⟨getH [(1, ⟨[.list], [(6, (.sl 1000))], [(1000, .arr 54 [.val, .val, .val, .val] (.v 0))], [2], 1⟩)],
  getH [],
  getH []⟩
def g_av : Env := gE rowsS false [(34, 0, c_el), (35, 1, c_dz), (36, 2, c_bx)]
theorem has_av : Has Tryz.prog 15 c_av φ_av := fo (G := g_av) (Φ := Φ_av) (t := t_av) (eo (getE_ok (hasAll_get ⟨has_el, has_dz, has_bx, trivial⟩))) Tryz.f15 h_av (by kernel_rfl)

def c_dr : Con := ⟨[], [⟨true, [.val, .val, .val, (.arr 86 [.val, .val, .val, .val])], [.bool, .list, kI, .list], false⟩]⟩
def g_dr : Env := gE [] false []
theorem has_dr : Has Tryz.prog 65 c_dr φ_dr := fo (G := g_dr) (Φ := ph []) (t := t_dr) (eo (getE_ok (hasAll_get trivial))) Tryz.f65 hE (by kernel_rfl)

def c_fn : Con := ⟨[.ro false [kI], .ro false [kI], .ro false [kI]], [⟨false, [.val], [.bool], false⟩]⟩
def g_fn : Env := gE [] false []
theorem has_fn : Has Tryz.prog 57 c_fn φ_fn := fo (G := g_fn) (Φ := ph []) (t := t_fn) (eo (getE_ok (hasAll_get trivial))) Tryz.f57 hE (by kernel_rfl)

def c_dh : Con := ⟨[.ro false [kI]], [⟨false, [.val], [.bool], false⟩]⟩
def g_dh : Env := gE [] false [(57, 0, c_fn)]
theorem has_dh : Has Tryz.prog 93 c_dh φ_dh := fo (G := g_dh) (Φ := Φ_dh) (t := t_dh) (eo (getE_ok (hasAll_get ⟨has_fn, trivial⟩))) Tryz.f93 hE (by kernel_rfl)

def c_cn : Con := ⟨[.ro false [kI], .ro false [kI]], [⟨true, [.val, .val, .val, .val, .val], [kI, .bool, kI, .list, kI], false⟩, ⟨false, [.val], [.bool], false⟩]⟩
def g_cn : Env := gE [] false [(93, 0, c_dh), (57, 1, c_fn)]
theorem has_cn : Has Tryz.prog 66 c_cn φ_cn := fo (G := g_cn) (Φ := Φ_cn) (t := t_cn) (eo (getE_ok (hasAll_get ⟨has_dh, has_fn, trivial⟩))) Tryz.f66 hE (by kernel_rfl)

def c_cr : Con := ⟨[.ro false [.list]], [⟨true, [.val, .val, .val, (.arr 86 [.val, .val, .val, .val]), (.arr 49 [.val, .val, .val, .val, .val]), (.arr 86 [.val, .val, .val, .val])], [.bool, .list, kI, .list, .list, .list], false⟩, ⟨false, [.val], [.bool], false⟩]⟩
def h_cr : How := ⟨getH [(0, ⟨[kI, .list], [(3, (.bool (.b false))), (17, (sI 0))], [(2, .cells [(.bool (.v 1003)), (.view true (.v 1004)), (sI 1005), (.sl 1), (.sl 1000), .nil]), (1000, .arr 49 [.val, .val, .val, .val, .val] (.v 1))], [], 1⟩)],
  getH [],
  getH []⟩
def g_cr : Env := gE [] false [(65, 0, c_dr), (66, 1, c_cn)]
theorem has_cr : Has Tryz.prog 33 c_cr φ_cr := fo (G := g_cr) (Φ := Φ_cr) (t := t_cr) (eo (getE_ok (hasAll_get ⟨has_dr, has_cn, trivial⟩))) Tryz.f33 h_cr (by kernel_rfl)

def c_bl : Con := ⟨[.ro false [kI]], [⟨false, [.val], [.bool], false⟩]⟩
def g_bl : Env := gE [] false [(57, 0, c_fn)]
theorem has_bl : Has Tryz.prog 166 c_bl φ_bl := fo (G := g_bl) (Φ := Φ_bl) (t := t_bl) (eo (getE_ok (hasAll_get ⟨has_fn, trivial⟩))) Tryz.f166 hE (by kernel_rfl)

def c_ao : Con := ⟨[.ro false [.list], .fn 166 []], [⟨false, [.val], [kI], false⟩]⟩
def h_ao : How := ⟨getH [(0, ⟨[kI], [(4, (.int .i64 (.n 0))), (8, (sI 0))], [], [], 0⟩)],
  getH [],
  getH []⟩
def g_ao : Env := gE [] false [(166, 0, c_bl)]
theorem has_ao : Has Tryz.prog 173 c_ao φ_ao := fo (G := g_ao) (Φ := Φ_ao) (t := t_ao) (eo (getE_ok (hasAll_get ⟨has_bl, trivial⟩))) Tryz.f173 h_ao (by kernel_rfl)

def c_al : Con := ⟨[.ro false [.list], .fn 166 []], [⟨false, [.val], [.bool], false⟩]⟩
def g_al : Env := gE [] false [(173, 0, c_ao)]
theorem has_al : Has Tryz.prog 168 c_al φ_al := fo (G := g_al) (Φ := Φ_al) (t := t_al) (eo (getE_ok (hasAll_get ⟨has_ao, trivial⟩))) Tryz.f168 hE (by kernel_rfl)

def c_bf : Con := ⟨[.ro false [kI]], [⟨false, [.val], [.bool], false⟩]⟩
def g_bf : Env := gE [] false []
theorem has_bf : Has Tryz.prog 167 c_bf φ_bf := fo (G := g_bf) (Φ := ph []) (t := t_bf) (eo (getE_ok (hasAll_get trivial))) Tryz.f167 hE (by kernel_rfl)

def c_an : Con := ⟨[.ro false [.list], .fn 167 []], [⟨false, [.val], [kI], false⟩]⟩
def h_an : How := ⟨getH [(0, ⟨[kI], [(4, (.int .i64 (.n 0))), (8, (sI 0))], [], [], 0⟩)],
  getH [],
  getH []⟩
def g_an : Env := gE [] false [(167, 0, c_bf)]
theorem has_an : Has Tryz.prog 173 c_an φ_an := fo (G := g_an) (Φ := Φ_an) (t := t_an) (eo (getE_ok (hasAll_get ⟨has_bf, trivial⟩))) Tryz.f173 h_an (by kernel_rfl)

def c_ak : Con := ⟨[.ro false [.list], .fn 167 []], [⟨false, [.val], [.bool], false⟩]⟩
def g_ak : Env := gE [] false [(173, 0, c_an)]
theorem has_ak : Has Tryz.prog 168 c_ak φ_ak := fo (G := g_ak) (Φ := Φ_ak) (t := t_ak) (eo (getE_ok (hasAll_get ⟨has_an, trivial⟩))) Tryz.f168 hE (by kernel_rfl)

def c_de : Con := ⟨[.ro false [.list]], [⟨false, [.val], [.bool], false⟩]⟩
def g_de : Env := gE [] false [(168, 0, c_al), (168, 1, c_ak)]
theorem has_de : Has Tryz.prog 147 c_de φ_de := fo (G := g_de) (Φ := Φ_de) (t := t_de) (eo (getE_ok (hasAll_get ⟨has_al, has_ak, trivial⟩))) Tryz.f147 hE (by kernel_rfl)

def c_eq : Con := ⟨[.ro false [kI]], [⟨false, [.val], [.bool], false⟩]⟩
def g_eq : Env := gE [] false [(57, 0, c_fn)]
theorem has_eq : Has Tryz.prog 55 c_eq φ_eq := fo (G := g_eq) (Φ := Φ_eq) (t := t_eq) (eo (getE_ok (hasAll_get ⟨has_fn, trivial⟩))) Tryz.f55 hE (by kernel_rfl)

def c_fk : Con := ⟨[.ro true [kI, kI, .list]], [⟨false, [.val], [.bool], false⟩]⟩
def g_fk : Env := gE [] false [(57, 0, c_fn), (147, 1, c_de), (55, 2, c_eq)]
theorem has_fk : Has Tryz.prog 117 c_fk φ_fk := fo (G := g_fk) (Φ := Φ_fk) (t := t_fk) (eo (getE_ok (hasAll_get ⟨has_fn, has_de, has_eq, trivial⟩))) Tryz.f117 hE (by kernel_rfl)

def c_dw : Con := ⟨[.ro true [kI, kI, .list]], [⟨false, [.val], [.bool], false⟩]⟩
def g_dw : Env := gE [] false [(117, 0, c_fk)]
theorem has_dw : Has Tryz.prog 129 c_dw φ_dw := fo (G := g_dw) (Φ := Φ_dw) (t := t_dw) (eo (getE_ok (hasAll_get ⟨has_fk, trivial⟩))) Tryz.f129 hE (by kernel_rfl)

def c_am : Con := ⟨[.ro false [.list], .fn 129 []], [⟨false, [.val], [kI], false⟩]⟩
def h_am : How := ⟨getH [(0, ⟨[kI], [(4, (.int .i64 (.n 0))), (8, (sI 0))], [], [], 0⟩)],
  getH [],
  getH []⟩
def g_am : Env := gE [] false [(129, 0, c_dw)]
theorem has_am : Has Tryz.prog 153 c_am φ_am := fo (G := g_am) (Φ := Φ_am) (t := t_am) (eo (getE_ok (hasAll_get ⟨has_dw, trivial⟩))) Tryz.f153 h_am (by kernel_rfl)

def c_aj : Con := ⟨[.ro false [.list], .fn 129 []], [⟨false, [.val], [.bool], false⟩]⟩
def g_aj : Env := gE [] false [(153, 0, c_am)]
theorem has_aj : Has Tryz.prog 130 c_aj φ_aj := fo (G := g_aj) (Φ := Φ_aj) (t := t_aj) (eo (getE_ok (hasAll_get ⟨has_am, trivial⟩))) Tryz.f130 hE (by kernel_rfl)

def c_fh : Con := ⟨[.ro true [.list, kI]], [⟨false, [.val], [.bool], false⟩]⟩
def g_fh : Env := gE [] false [(57, 0, c_fn), (130, 1, c_aj)]
theorem has_fh : Has Tryz.prog 88 c_fh φ_fh := fo (G := g_fh) (Φ := Φ_fh) (t := t_fh) (eo (getE_ok (hasAll_get ⟨has_fn, has_aj, trivial⟩))) Tryz.f88 hE (by kernel_rfl)

def c_bu : Con := ⟨[.ro true [.list, kI]], [⟨false, [.val], [.bool], false⟩]⟩
def g_bu : Env := gE [] false [(147, 0, c_de), (57, 1, c_fn)]
theorem has_bu : Has Tryz.prog 174 c_bu φ_bu := fo (G := g_bu) (Φ := Φ_bu) (t := t_bu) (eo (getE_ok (hasAll_get ⟨has_de, has_fn, trivial⟩))) Tryz.f174 hE (by kernel_rfl)

def c_ag : Con := ⟨[.ro false [.list], .fn 174 []], [⟨false, [.val], [kI], false⟩]⟩
def h_ag : How := ⟨getH [(0, ⟨[kI], [(4, (.int .i64 (.n 0))), (8, (sI 0))], [], [], 0⟩)],
  getH [],
  getH []⟩
def g_ag : Env := gE [] false [(174, 0, c_bu)]
theorem has_ag : Has Tryz.prog 176 c_ag φ_ag := fo (G := g_ag) (Φ := Φ_ag) (t := t_ag) (eo (getE_ok (hasAll_get ⟨has_bu, trivial⟩))) Tryz.f176 h_ag (by kernel_rfl)

def c_af : Con := ⟨[.ro false [.list], .fn 174 []], [⟨false, [.val], [.bool], false⟩]⟩
def g_af : Env := gE [] false [(176, 0, c_ag)]
theorem has_af : Has Tryz.prog 175 c_af φ_af := fo (G := g_af) (Φ := Φ_af) (t := t_af) (eo (getE_ok (hasAll_get ⟨has_ag, trivial⟩))) Tryz.f175 hE (by kernel_rfl)

def c_ds : Con := ⟨[.ro false [.list]], [⟨false, [.val], [.bool], false⟩]⟩
def g_ds : Env := gE [] false [(175, 0, c_af)]
theorem has_ds : Has Tryz.prog 169 c_ds φ_ds := fo (G := g_ds) (Φ := Φ_ds) (t := t_ds) (eo (getE_ok (hasAll_get ⟨has_af, trivial⟩))) Tryz.f169 hE (by kernel_rfl)

def c_dp : Con := ⟨[.ro false [.list], .ro false [kI]], [⟨false, [.val], [kI], false⟩]⟩
def g_dp : Env := gE [] false [(57, 0, c_fn)]
theorem has_dp : Has Tryz.prog 159 c_dp φ_dp := fo (G := g_dp) (Φ := Φ_dp) (t := t_dp) (eo (getE_ok (hasAll_get ⟨has_fn, trivial⟩))) Tryz.f159 hE (by kernel_rfl)

def c_db : Con := ⟨[.ro false [.list], .ro true [kI, kI, .list]], [⟨false, [.val], [.bool], false⟩]⟩
def g_db : Env := gE [] false [(169, 0, c_ds), (117, 1, c_fk), (159, 2, c_dp)]
theorem has_db : Has Tryz.prog 148 c_db φ_db := fo (G := g_db) (Φ := Φ_db) (t := t_db) (eo (getE_ok (hasAll_get ⟨has_ds, has_fk, has_dp, trivial⟩))) Tryz.f148 hE (by kernel_rfl)

def c_bb : Con := ⟨[.ro false [.list]], [⟨false, [.val], [.list], false⟩]⟩
def g_bb : Env := gE [] false []
theorem has_bb : Has Tryz.prog 154 c_bb φ_bb := fo (G := g_bb) (Φ := ph []) (t := t_bb) (eo (getE_ok (hasAll_get trivial))) Tryz.f154 hE (by kernel_rfl)

def c_ec : Con := ⟨[.ro false [.list], .ro true [kI, kI, .list]], [⟨false, [.val], [.list], false⟩, ⟨false, [.val], [.bool], false⟩]⟩
def h_ec : How := ⟨getH [(0, ⟨[kI, .list], [(6, (.sl 1000)), (16, (sI 0))], [(1000, .arr 43 [.val, .val] (.v 1))], [], 1⟩)],
  getH [],
  getH []⟩
def g_ec : Env := gE [] false [(148, 0, c_db), (154, 1, c_bb)]
theorem has_ec : Has Tryz.prog 131 c_ec φ_ec := fo (G := g_ec) (Φ := Φ_ec) (t := t_ec) (eo (getE_ok (hasAll_get ⟨has_db, has_bb, trivial⟩))) Tryz.f131 h_ec (by kernel_rfl)

def c_dk : Con := ⟨[.ro false [.list]], [⟨false, [.val], [.list], false⟩, ⟨false, [.val], [.bool], false⟩]⟩
def h_dk : How := ⟨getH [(0, ⟨[.list, .bool, kI], [(4, (.view true (.v 0))), (5, (.bool (.v 1))), (6, (sI 2))], [], [], 0⟩)],
  getH [],
  getH []⟩
def g_dk : Env := gE [] false [(131, 0, c_ec)]
theorem has_dk : Has Tryz.prog 89 c_dk φ_dk := fo (G := g_dk) (Φ := Φ_dk) (t := t_dk) (eo (getE_ok (hasAll_get ⟨has_ec, trivial⟩))) Tryz.f89 h_dk (by kernel_rfl)

def c_ew : Con := ⟨[.ro true [kI, kI, kI, kI]], [⟨false, [.val], [.bool], false⟩]⟩
def g_ew : Env := gE [] false [(57, 0, c_fn), (93, 1, c_dh), (55, 2, c_eq)]
theorem has_ew : Has Tryz.prog 52 c_ew φ_ew := fo (G := g_ew) (Φ := Φ_ew) (t := t_ew) (eo (getE_ok (hasAll_get ⟨has_fn, has_dh, has_eq, trivial⟩))) Tryz.f52 hE (by kernel_rfl)

def c_bc : Con := ⟨[.ro true [kI, kI, kI, kI]], [⟨false, [.val], [.bool], false⟩]⟩
def g_bc : Env := gE [] false []
theorem has_bc : Has Tryz.prog 90 c_bc φ_bc := fo (G := g_bc) (Φ := ph []) (t := t_bc) (eo (getE_ok (hasAll_get trivial))) Tryz.f90 hE (by kernel_rfl)

def c_at : Con := ⟨[.ro false [.list], .ro true [kI, kI, kI, kI]], [⟨false, [.val], [kI], false⟩]⟩
def h_at : How := ⟨getH [(0, ⟨[kI], [(4, (.int .i64 (.n 0))), (8, (sI 0))], [], [], 0⟩)],
  getH [],
  getH []⟩
def g_at : Env := gE [] false []
theorem has_at : Has Tryz.prog 132 c_at φ_at := fo (G := g_at) (Φ := ph []) (t := t_at) (eo (getE_ok (hasAll_get trivial))) Tryz.f132 h_at (by kernel_rfl)

def c_ap : Con := ⟨[.ro false [.list], .ro true [kI, kI, kI, kI]], [⟨false, [.val], [.bool], false⟩]⟩
def g_ap : Env := gE [] false [(132, 0, c_at)]
theorem has_ap : Has Tryz.prog 91 c_ap φ_ap := fo (G := g_ap) (Φ := Φ_ap) (t := t_ap) (eo (getE_ok (hasAll_get ⟨has_at, trivial⟩))) Tryz.f91 hE (by kernel_rfl)

def c_ez : Con := ⟨[.ro true [.bool, .list, kI, .list]], [⟨false, [.val], [.bool], false⟩]⟩
def h_ez : How := ⟨getH [(0, ⟨[kI], [(2, (.bool (.b false))), (32, (sI 0))], [], [], 0⟩)],
  getH [(3, ⟨[], [(2, (.bool (.b false)))], [], [], 0⟩)],
  getH []⟩
def g_ez : Env := gE [] false [(88, 0, c_fh), (89, 1, c_dk), (52, 2, c_ew), (90, 3, c_bc), (91, 4, c_ap)]
theorem has_ez : Has Tryz.prog 43 c_ez φ_ez := fo (G := g_ez) (Φ := Φ_ez) (t := t_ez) (eo (getE_ok (hasAll_get ⟨has_fh, has_dk, has_ew, has_bc, has_ap, trivial⟩))) Tryz.f43 h_ez (by kernel_rfl)

def c_be : Con := ⟨[.ro true [kI, kI, .list]], [⟨true, [.val, .val, .val], [kI, kI, .list], false⟩]⟩
def g_be : Env := gE [] false [(154, 0, c_bb)]
theorem has_be : Has Tryz.prog 170 c_be φ_be := fo (G := g_be) (Φ := Φ_be) (t := t_be) (eo (getE_ok (hasAll_get ⟨has_bb, trivial⟩))) Tryz.f170 hE (by kernel_rfl)

def c_cg : Con := ⟨[.ro true [.list, kI], .ro false [kI], .ro false [kI]], [⟨true, [(.arr 91 [.val, .val, .val]), .val], [.list, kI], false⟩]⟩
def h_cg : How := ⟨getH [(0, ⟨[kI, .list], [(17, (sI 0))], [(2, .cells [(.sl 1000), (sI 1003)]), (1000, .arr 91 [.val, .val, .val] (.v 1))], [], 1⟩)],
  getH [],
  getH []⟩
def g_cg : Env := gE [] false [(170, 0, c_be)]
theorem has_cg : Has Tryz.prog 150 c_cg φ_cg := fo (G := g_cg) (Φ := Φ_cg) (t := t_cg) (eo (getE_ok (hasAll_get ⟨has_be, trivial⟩))) Tryz.f150 h_cg (by kernel_rfl)

def c_bp : Con := ⟨[.ro true [.list, kI]], [⟨true, [(.arr 91 [.val, .val, .val]), .val], [.list, kI], false⟩]⟩
def g_bp : Env := gE [] false [(150, 0, c_cg)]
theorem has_bp : Has Tryz.prog 136 c_bp φ_bp := fo (G := g_bp) (Φ := Φ_bp) (t := t_bp) (eo (getE_ok (hasAll_get ⟨has_cg, trivial⟩))) Tryz.f136 hE (by kernel_rfl)

def c_ar : Con := ⟨[.ro false [.list]], [⟨false, [(.arr 86 [.val, .val, .val, .val])], [.list], false⟩]⟩
def g_ar : Env := gE [] false []
theorem has_ar : Has Tryz.prog 101 c_ar φ_ar := fo (G := g_ar) (Φ := ph []) (t := t_ar) (eo (getE_ok (hasAll_get trivial))) Tryz.f101 hE (by kernel_rfl)

def c_bd : Con := ⟨[.ro true [.bool, .list, kI, .list]], [⟨true, [.val, .val, .val, (.arr 86 [.val, .val, .val, .val])], [.bool, .list, kI, .list], false⟩]⟩
def g_bd : Env := gE [] false [(136, 0, c_bp), (101, 1, c_ar)]
theorem has_bd : Has Tryz.prog 100 c_bd φ_bd := fo (G := g_bd) (Φ := Φ_bd) (t := t_bd) (eo (getE_ok (hasAll_get ⟨has_bp, has_ar, trivial⟩))) Tryz.f100 hE (by kernel_rfl)

def c_cb : Con := ⟨[.own true [.val, .val] [.list, kI] false, .ro false [.bool]], [⟨false, [.val], [.list], false⟩]⟩
def g_cb : Env := gE [] false []
theorem has_cb : Has Tryz.prog 92 c_cb φ_cb := fo (G := g_cb) (Φ := ph []) (t := t_cb) (eo (getE_ok (hasAll_get trivial))) Tryz.f92 hE (by kernel_rfl)

def c_br : Con := ⟨[.ro true [.bool, .list, kI, .list], .ro false [.bool]], [⟨false, [.val], [.list], false⟩]⟩
def g_br : Env := gE [] false [(92, 0, c_cb), (89, 1, c_dk)]
theorem has_br : Has Tryz.prog 44 c_br φ_br := fo (G := g_br) (Φ := Φ_br) (t := t_br) (eo (getE_ok (hasAll_get ⟨has_cb, has_dk, trivial⟩))) Tryz.f44 hE (by kernel_rfl)

def c_er : Con := ⟨[.ro true [.list, kI], .ro true [kI, kI, .list]], [⟨true, [.val, .val], [.list, kI], false⟩, ⟨false, [.val], [.bool], false⟩]⟩
def g_er : Env := gE [] false [(88, 0, c_fh), (117, 1, c_fk), (136, 2, c_bp), (170, 3, c_be)]
theorem has_er : Has Tryz.prog 149 c_er φ_er := fo (G := g_er) (Φ := Φ_er) (t := t_er) (eo (getE_ok (hasAll_get ⟨has_fh, has_fk, has_bp, has_be, trivial⟩))) Tryz.f149 hE (by kernel_rfl)

def c_bs : Con := ⟨[.ptr [.val, .val, .val, (.arr 86 [.val, .val, .val, .val])] [.bool, .list, kI, .list], .ro true [kI, kI, .list]], [⟨false, [.val], [.bool], false⟩]⟩
def g_bs : Env := gE [] false [(44, 0, c_br), (148, 1, c_db), (149, 2, c_er)]
theorem has_bs : Has Tryz.prog 118 c_bs φ_bs := fo (G := g_bs) (Φ := Φ_bs) (t := t_bs) (eo (getE_ok (hasAll_get ⟨has_br, has_db, has_er, trivial⟩))) Tryz.f118 hE (by kernel_rfl)

def c_cj : Con := ⟨[.ro true [.bool, .list, kI, .list], .ro false [.list]], [⟨true, [.val, .val, .val, (.arr 86 [.val, .val, .val, .val])], [.bool, .list, kI, .list], false⟩, ⟨false, [.val], [.bool], false⟩]⟩
def g_cj : Env := gE [] false [(43, 0, c_ez), (100, 1, c_bd), (44, 2, c_br), (117, 3, c_fk), (118, 4, c_bs)]
theorem has_cj : Has Tryz.prog 69 c_cj φ_cj := fo (G := g_cj) (Φ := Φ_cj) (t := t_cj) (eo (getE_ok (hasAll_get ⟨has_ez, has_bd, has_br, has_fk, has_bs, trivial⟩))) Tryz.f69 hE (by kernel_rfl)

def c_dd : Con := ⟨[.ro true [.bool, .list, kI, .list], .ro false [kI]], [⟨true, [.val, .val, .val, (.arr 86 [.val, .val, .val, .val])], [.bool, .list, kI, .list], false⟩, ⟨false, [.val], [.bool], false⟩]⟩
def g_dd : Env := gE [] false [(43, 0, c_ez), (55, 1, c_eq), (100, 2, c_bd), (118, 3, c_bs)]
theorem has_dd : Has Tryz.prog 70 c_dd φ_dd := fo (G := g_dd) (Φ := Φ_dd) (t := t_dd) (eo (getE_ok (hasAll_get ⟨has_ez, has_eq, has_bd, has_bs, trivial⟩))) Tryz.f70 hE (by kernel_rfl)

def c_ch : Con := ⟨[.ro true [.bool, .list, kI, .list], .ro false [kI], .ro false [kI], .ro false [kI]], [⟨false, [.val], [.bool], false⟩]⟩
def g_ch : Env := gE [] false [(91, 0, c_ap)]
theorem has_ch : Has Tryz.prog 95 c_ch φ_ch := fo (G := g_ch) (Φ := Φ_ch) (t := t_ch) (eo (getE_ok (hasAll_get ⟨has_ap, trivial⟩))) Tryz.f95 hE (by kernel_rfl)

def c_bh : Con := ⟨[.ro true [.bool, .list, kI, .list]], [⟨false, [.val], [.list], false⟩]⟩
def h_bh : How := ⟨getH [(0, ⟨[kI, .list], [(4, (.sl 1000)), (23, (sI 0))], [(1000, .arr 86 [.val, .val, .val, .val] (.v 1))], [], 1⟩), (2, ⟨[kI, .list], [(4, (.sl 1000)), (38, (sI 0))], [(1000, .arr 86 [.val, .val, .val, .val] (.v 1))], [2], 1⟩)],
  getH [],
  getH []⟩
def g_bh : Env := gE [] false [(44, 0, c_br), (95, 1, c_ch)]
theorem has_bh : Has Tryz.prog 47 c_bh φ_bh := fo (G := g_bh) (Φ := Φ_bh) (t := t_bh) (eo (getE_ok (hasAll_get ⟨has_br, has_ch, trivial⟩))) Tryz.f47 h_bh (by kernel_rfl)

def c_bm : Con := ⟨[.ptr [.val, .val, .val, (.arr 86 [.val, .val, .val, .val]), (.arr 49 [.val, .val, .val, .val, .val]), (.arr 86 [.val, .val, .val, .val])] [.bool, .list, kI, .list, .list, .list], .ro true [kI, kI, kI, kI]], []⟩
def g_bm : Env := gE [] false []
theorem has_bm : Has Tryz.prog 71 c_bm φ_bm := fo (G := g_bm) (Φ := ph []) (t := t_bm) (eo (getE_ok (hasAll_get trivial))) Tryz.f71 hE (by kernel_rfl)

theorem has_aq : Has Tryz.prog 119 (delCon 86) φ_aq := delete_has (ρ := ⟨fun _ => 119, fun t => match t with | 22 => 30 | 23 => 86 | 3 => 3 | 4 => 4 | _ => 0, fun x => x⟩) ⟨mixed_ok, ⟨Tryz.f119.name, by kernel_rfl, by kernel_rfl⟩, by kernel_rfl, by kernel_rfl, by kernel_rfl, by kernel_rfl⟩
def c_aq : Con := delCon 86

def c_bq : Con := ⟨[.ro true [.bool, .list, kI, .list], .ro false [kI], .ro false [kI], .ro false [.list]], [⟨false, [.val], [.bool], false⟩, ⟨false, [.val], [.bool], false⟩]⟩
def h_bq : How := ⟨getH [(0, ⟨[.bool, .bool, kI], [(8, (.bool (.v 0))), (9, (.bool (.v 1))), (15, (sI 2))], [], [], 0⟩)],
  getH [],
  getH []⟩
def g_bq : Env := gE [] false [(95, 0, c_ch)]
theorem has_bq : Has Tryz.prog 158 c_bq φ_bq := fo (G := g_bq) (Φ := Φ_bq) (t := t_bq) (eo (getE_ok (hasAll_get ⟨has_ch, trivial⟩))) Tryz.f158 h_bq (by kernel_rfl)

def c_az : Con := ⟨[.ptr [.val, .val, .val, (.arr 86 [.val, .val, .val, .val])] [.bool, .list, kI, .list], .ro false [kI]], []⟩
def h_az : How := ⟨getH [],
  getH [(9, ⟨[.bool], [(82, (.bool (.v 0)))], [], [], 0⟩), (7, ⟨[.bool], [(71, (.bool (.v 0)))], [], [], 0⟩)],
  getH []⟩
def g_az : Env := gE [] false [(44, 0, c_br), (158, 1, c_bq), (159, 2, c_dp), (118, 3, c_bs)]
theorem has_az : Has Tryz.prog 139 c_az φ_az := fo (G := g_az) (Φ := Φ_az) (t := t_az) (eo (getE_ok (hasAll_get ⟨has_br, has_bq, has_dp, has_bs, trivial⟩))) Tryz.f139 h_az (by kernel_rfl)

def c_cf : Con := ⟨[.ptr [.val, .val, .val, (.arr 86 [.val, .val, .val, .val])] [.bool, .list, kI, .list], .ro true [kI, kI, kI, kI]], []⟩
def g_cf : Env := gE [] false [(52, 0, c_ew), (90, 1, c_bc), (44, 2, c_br), (91, 3, c_ap), (139, 4, c_az)]
theorem has_cf : Has Tryz.prog 106 c_cf φ_cf := fo (G := g_cf) (Φ := Φ_cf) (t := t_cf) (eo (getE_ok (hasAll_get ⟨has_ew, has_bc, has_br, has_ap, has_az, trivial⟩))) Tryz.f106 hE (by kernel_rfl)

def c_co : Con := ⟨[.ro false [kI]], [⟨true, [.val, (.arr 51 [.val, .val])], [kI, .list], false⟩, ⟨false, [.val], [.bool], false⟩]⟩
def g_co : Env := gE [] false [(57, 0, c_fn)]
theorem has_co : Has Tryz.prog 133 c_co φ_co := fo (G := g_co) (Φ := Φ_co) (t := t_co) (eo (getE_ok (hasAll_get ⟨has_fn, trivial⟩))) Tryz.f133 hE (by kernel_rfl)

def c_dt : Con := ⟨[.ro true [kI, kI]], [⟨false, [.val], [.bool], false⟩]⟩
def g_dt : Env := gE [] false [(57, 0, c_fn)]
theorem has_dt : Has Tryz.prog 97 c_dt φ_dt := fo (G := g_dt) (Φ := Φ_dt) (t := t_dt) (eo (getE_ok (hasAll_get ⟨has_fn, trivial⟩))) Tryz.f97 hE (by kernel_rfl)

def c_ck : Con := ⟨[.ro true [kI, kI]], [⟨false, [.val], [.bool], false⟩]⟩
def g_ck : Env := gE [] false [(97, 0, c_dt)]
theorem has_ck : Has Tryz.prog 96 c_ck φ_ck := fo (G := g_ck) (Φ := Φ_ck) (t := t_ck) (eo (getE_ok (hasAll_get ⟨has_dt, trivial⟩))) Tryz.f96 hE (by kernel_rfl)

def c_ai : Con := ⟨[.ro false [.list], .fn 96 []], [⟨false, [.val], [kI], false⟩]⟩
def h_ai : How := ⟨getH [(0, ⟨[kI], [(4, (.int .i64 (.n 0))), (8, (sI 0))], [], [], 0⟩)],
  getH [],
  getH []⟩
def g_ai : Env := gE [] false [(96, 0, c_ck)]
theorem has_ai : Has Tryz.prog 135 c_ai φ_ai := fo (G := g_ai) (Φ := Φ_ai) (t := t_ai) (eo (getE_ok (hasAll_get ⟨has_ck, trivial⟩))) Tryz.f135 h_ai (by kernel_rfl)

def c_ae : Con := ⟨[.ro false [.list], .fn 96 []], [⟨false, [.val], [.bool], false⟩]⟩
def g_ae : Env := gE [] false [(135, 0, c_ai)]
theorem has_ae : Has Tryz.prog 98 c_ae φ_ae := fo (G := g_ae) (Φ := Φ_ae) (t := t_ae) (eo (getE_ok (hasAll_get ⟨has_ai, trivial⟩))) Tryz.f98 hE (by kernel_rfl)

def c_bn : Con := ⟨[.ro true [kI, .list]], [⟨false, [.val], [kI], false⟩]⟩
def h_bn : How := ⟨getH [(0, ⟨[kI, kI], [(3, (sI 0)), (11, (sI 1))], [], [], 0⟩)],
  getH [],
  getH []⟩
def g_bn : Env := gE [] false []
theorem has_bn : Has Tryz.prog 49 c_bn φ_bn := fo (G := g_bn) (Φ := ph []) (t := t_bn) (eo (getE_ok (hasAll_get trivial))) Tryz.f49 h_bn (by kernel_rfl)

def c_dv : Con := ⟨[.ro true [kI, .list]], [⟨false, [.val], [.bool], false⟩]⟩
def g_dv : Env := gE [] false [(57, 0, c_fn), (98, 1, c_ae), (49, 2, c_bn)]
theorem has_dv : Has Tryz.prog 48 c_dv φ_dv := fo (G := g_dv) (Φ := Φ_dv) (t := t_dv) (eo (getE_ok (hasAll_get ⟨has_fn, has_ae, has_bn, trivial⟩))) Tryz.f48 hE (by kernel_rfl)

def c_ct : Con := ⟨[.ro true [kI, .list], .ro true [kI, kI, .list]], [⟨false, [.val], [.bool], false⟩]⟩
def g_ct : Env := gE [] false [(48, 0, c_dv), (117, 1, c_fk), (49, 2, c_bn)]
theorem has_ct : Has Tryz.prog 155 c_ct φ_ct := fo (G := g_ct) (Φ := Φ_ct) (t := t_ct) (eo (getE_ok (hasAll_get ⟨has_dv, has_fk, has_bn, trivial⟩))) Tryz.f155 hE (by kernel_rfl)

def c_as : Con := ⟨[.ro false [.list]], [⟨false, [(.arr 51 [.val, .val])], [.list], false⟩]⟩
def g_as : Env := gE [] false []
theorem has_as : Has Tryz.prog 156 c_as φ_as := fo (G := g_as) (Φ := ph []) (t := t_as) (eo (getE_ok (hasAll_get trivial))) Tryz.f156 hE (by kernel_rfl)

def c_dn : Con := ⟨[.ro true [kI, .list], .ro true [kI, kI, .list]], [⟨true, [.val, .val], [kI, .list], false⟩, ⟨false, [.val], [.bool], false⟩]⟩
def h_dn : How := ⟨getH [],
  getH [(4, ⟨[.list], [(6, (.ptr 1000 0))], [(1000, .cells [(sI 1000), (.sl 1001)]), (1001, .arr 51 [.val, .val] (.v 0))], [], 2⟩)],
  getH []⟩
def g_dn : Env := gE [] false [(155, 0, c_ct), (156, 1, c_as)]
theorem has_dn : Has Tryz.prog 134 c_dn φ_dn := fo (G := g_dn) (Φ := Φ_dn) (t := t_dn) (eo (getE_ok (hasAll_get ⟨has_ct, has_as, trivial⟩))) Tryz.f134 h_dn (by kernel_rfl)

def c_ef : Con := ⟨[.ro false [kI], .ro false [.list]], [⟨true, [.val, .val], [kI, .list], false⟩, ⟨false, [.val], [.bool], false⟩]⟩
def h_ef : How := ⟨getH [(0, ⟨[.bool, kI, kI, .list], [(7, (.bool (.v 0))), (8, (sI 1))], [(2, .cells [(sI 2), (.view true (.v 3))])], [], 0⟩)],
  getH [],
  getH []⟩
def g_ef : Env := gE [] false [(133, 0, c_co), (134, 1, c_dn)]
theorem has_ef : Has Tryz.prog 94 c_ef φ_ef := fo (G := g_ef) (Φ := Φ_ef) (t := t_ef) (eo (getE_ok (hasAll_get ⟨has_co, has_dn, trivial⟩))) Tryz.f94 h_ef (by kernel_rfl)

def c_dy : Con := ⟨[.ro true [kI, .bool, kI, .list, kI]], [⟨false, [.val], [.bool], false⟩]⟩
def g_dy : Env := gE [] false [(93, 0, c_dh), (88, 1, c_fh), (94, 2, c_ef)]
theorem has_dy : Has Tryz.prog 45 c_dy φ_dy := fo (G := g_dy) (Φ := Φ_dy) (t := t_dy) (eo (getE_ok (hasAll_get ⟨has_dh, has_fh, has_ef, trivial⟩))) Tryz.f45 hE (by kernel_rfl)

def c_ax : Con := ⟨[.ro true [kI, .bool, kI, .list, kI]], [⟨true, [.val, .val, .val, .val, .val], [kI, .bool, kI, .list, kI], false⟩]⟩
def g_ax : Env := gE [] false [(136, 0, c_bp)]
theorem has_ax : Has Tryz.prog 102 c_ax φ_ax := fo (G := g_ax) (Φ := Φ_ax) (t := t_ax) (eo (getE_ok (hasAll_get ⟨has_bp, trivial⟩))) Tryz.f102 hE (by kernel_rfl)

def c_ay : Con := ⟨[.ro true [kI, .bool, kI, .list, kI], .ro false [.bool]], [⟨true, [.val, .val], [kI, .list], false⟩]⟩
def g_ay : Env := gE [] false [(92, 0, c_cb), (94, 1, c_ef)]
theorem has_ay : Has Tryz.prog 46 c_ay φ_ay := fo (G := g_ay) (Φ := Φ_ay) (t := t_ay) (eo (getE_ok (hasAll_get ⟨has_cb, has_ef, trivial⟩))) Tryz.f46 hE (by kernel_rfl)

def c_au : Con := ⟨[.ro true [kI, .bool, kI, .list, kI], .ro true [kI, kI, kI, kI]], [⟨false, [.val], [kI], false⟩]⟩
def h_au : How := ⟨getH [],
  getH [(5, ⟨[.bool], [(33, (.bool (.v 0)))], [], [], 0⟩), (3, ⟨[.bool], [(25, (.bool (.v 0)))], [], [], 0⟩)],
  getH []⟩
def g_au : Env := gE [] false [(46, 0, c_ay)]
theorem has_au : Has Tryz.prog 157 c_au φ_au := fo (G := g_au) (Φ := Φ_au) (t := t_au) (eo (getE_ok (hasAll_get ⟨has_ay, trivial⟩))) Tryz.f157 h_au (by kernel_rfl)

def c_ci : Con := ⟨[.ro true [kI, .bool, kI, .list, kI], .ro true [kI, kI, kI, kI]], [⟨true, [.val, .val, .val, .val, .val], [kI, .bool, kI, .list, kI], false⟩, ⟨true, [.val, .val, .val, .val], [kI, kI, kI, kI], false⟩, ⟨false, [.val], [.bool], false⟩]⟩
def h_ci : How := ⟨getH [],
  getH [(9, ⟨[.list], [], [(5, .cells [(sI 1005), (sI 1007), (.sl 1000)]), (1000, .arr 3 [.val] (.v 0))], [], 1⟩)],
  getH []⟩
def g_ci : Env := gE [] false [(45, 0, c_dy), (102, 1, c_ax), (52, 2, c_ew), (90, 3, c_bc), (46, 4, c_ay), (155, 5, c_ct), (149, 6, c_er), (157, 7, c_au)]
theorem has_ci : Has Tryz.prog 138 c_ci φ_ci := fo (G := g_ci) (Φ := Φ_ci) (t := t_ci) (eo (getE_ok (hasAll_get ⟨has_dy, has_ax, has_ew, has_bc, has_ay, has_ct, has_er, has_au, trivial⟩))) Tryz.f138 h_ci (by kernel_rfl)

def c_ba : Con := ⟨[.ptr [.val, .val, .val, (.arr 86 [.val, .val, .val, .val]), (.arr 49 [.val, .val, .val, .val, .val]), (.arr 86 [.val, .val, .val, .val])] [.bool, .list, kI, .list, .list, .list], .ro true [kI, kI, kI, kI]], [⟨true, [.val, .val, .val, .val], [kI, kI, kI, kI], false⟩, ⟨false, [.val], [.bool], false⟩]⟩
def g_ba : Env := gE [] false [(90, 0, c_bc), (106, 1, c_cf), (138, 2, c_ci)]
theorem has_ba : Has Tryz.prog 105 c_ba φ_ba := fo (G := g_ba) (Φ := Φ_ba) (t := t_ba) (eo (getE_ok (hasAll_get ⟨has_bc, has_cf, has_ci, trivial⟩))) Tryz.f105 hE (by kernel_rfl)

def c_cl : Con := ⟨[.ptr [.val, .val, .val, (.arr 86 [.val, .val, .val, .val]), (.arr 49 [.val, .val, .val, .val, .val]), (.arr 86 [.val, .val, .val, .val])] [.bool, .list, kI, .list, .list, .list], .ro true [kI, kI, kI, .list]], []⟩
def h_cl : How := ⟨getH [],
  getH [(3, ⟨[kI, kI, kI, kI], [(4, (.ptr 1000 0))], [(1000, .cells [(sI 0), (sI 1), (sI 2), (sI 3)])], [], 1⟩)],
  getH []⟩
def g_cl : Env := gE [] false [(57, 0, c_fn), (71, 1, c_bm), (119, 2, c_aq), (105, 3, c_ba)]
theorem has_cl : Has Tryz.prog 72 c_cl φ_cl := fo (G := g_cl) (Φ := Φ_cl) (t := t_cl) (eo (getE_ok (hasAll_get ⟨has_fn, has_bm, has_aq, has_ba, trivial⟩))) Tryz.f72 h_cl (by kernel_rfl)

def c_cv : Con := ⟨[.ro true [.list, kI]], [⟨true, [.val, .val], [.list, kI], false⟩]⟩
def g_cv : Env := gE [] false [(88, 0, c_fh), (150, 1, c_cg)]
theorem has_cv : Has Tryz.prog 120 c_cv φ_cv := fo (G := g_cv) (Φ := Φ_cv) (t := t_cv) (eo (getE_ok (hasAll_get ⟨has_fh, has_cg, trivial⟩))) Tryz.f120 hE (by kernel_rfl)

def c_bw : Con := ⟨[.ro true [.bool, .list, kI, .list]], [⟨true, [.val, .val, .val, (.arr 86 [.val, .val, .val, .val])], [.bool, .list, kI, .list], false⟩]⟩
def g_bw : Env := gE [] false [(43, 0, c_ez), (100, 1, c_bd), (120, 2, c_cv)]
theorem has_bw : Has Tryz.prog 74 c_bw φ_bw := fo (G := g_bw) (Φ := Φ_bw) (t := t_bw) (eo (getE_ok (hasAll_get ⟨has_ez, has_bd, has_cv, trivial⟩))) Tryz.f74 hE (by kernel_rfl)

def c_bo : Con := ⟨[.ro true [kI, .bool, kI, .list, kI]], [⟨true, [.val, .val, .val, .val, .val], [kI, .bool, kI, .list, kI], false⟩]⟩
def g_bo : Env := gE [] false [(45, 0, c_dy), (102, 1, c_ax), (120, 2, c_cv)]
theorem has_bo : Has Tryz.prog 75 c_bo φ_bo := fo (G := g_bo) (Φ := Φ_bo) (t := t_bo) (eo (getE_ok (hasAll_get ⟨has_dy, has_ax, has_cv, trivial⟩))) Tryz.f75 hE (by kernel_rfl)

def c_ab : Con := ⟨[.ptr [.val, .val, .val, (.arr 86 [.val, .val, .val, .val]), (.arr 49 [.val, .val, .val, .val, .val]), (.arr 86 [.val, .val, .val, .val])] [.bool, .list, kI, .list, .list, .list], .ro false [kI], .fn 74 [], .fn 75 []], []⟩
def g_ab : Env := gE [] false [(93, 0, c_dh), (74, 1, c_bw), (75, 2, c_bo)]
theorem has_ab : Has Tryz.prog 73 c_ab φ_ab := fo (G := g_ab) (Φ := Φ_ab) (t := t_ab) (eo (getE_ok (hasAll_get ⟨has_dh, has_bw, has_bo, trivial⟩))) Tryz.f73 hE (by kernel_rfl)

def c_ed : Con := ⟨[.ro true [.list, kI], .ro false [kI]], [⟨true, [.val, .val], [.list, kI], false⟩]⟩
def g_ed : Env := gE [] false [(88, 0, c_fh), (150, 1, c_cg)]
theorem has_ed : Has Tryz.prog 121 c_ed φ_ed := fo (G := g_ed) (Φ := Φ_ed) (t := t_ed) (eo (getE_ok (hasAll_get ⟨has_fh, has_cg, trivial⟩))) Tryz.f121 hE (by kernel_rfl)

def c_cq : Con := ⟨[.ro true [.bool, .list, kI, .list], .ro false [kI]], [⟨true, [.val, .val, .val, (.arr 86 [.val, .val, .val, .val])], [.bool, .list, kI, .list], false⟩]⟩
def g_cq : Env := gE [] false [(43, 0, c_ez), (121, 1, c_ed)]
theorem has_cq : Has Tryz.prog 77 c_cq φ_cq := fo (G := g_cq) (Φ := Φ_cq) (t := t_cq) (eo (getE_ok (hasAll_get ⟨has_ez, has_ed, trivial⟩))) Tryz.f77 hE (by kernel_rfl)

def c_bi : Con := ⟨[.ro true [.bool, .list, kI, .list], .rptr [kI, kI, kI, .list]], [⟨true, [.val, .val, .val, (.arr 86 [.val, .val, .val, .val])], [.bool, .list, kI, .list], false⟩]⟩
def g_bi : Env := gE [] false [(77, 0, c_cq)]
theorem has_bi : Has Tryz.prog 76 c_bi φ_bi := fo (G := g_bi) (Φ := Φ_bi) (t := t_bi) (eo (getE_ok (hasAll_get ⟨has_cq, trivial⟩))) Tryz.f76 hE (by kernel_rfl)

def c_bv : Con := ⟨[.ro true [kI, .bool, kI, .list, kI], .ro false [kI]], [⟨true, [.val, .val, .val, .val, .val], [kI, .bool, kI, .list, kI], false⟩]⟩
def g_bv : Env := gE [] false [(45, 0, c_dy), (121, 1, c_ed)]
theorem has_bv : Has Tryz.prog 79 c_bv φ_bv := fo (G := g_bv) (Φ := Φ_bv) (t := t_bv) (eo (getE_ok (hasAll_get ⟨has_dy, has_ed, trivial⟩))) Tryz.f79 hE (by kernel_rfl)

def c_bk : Con := ⟨[.ro true [kI, .bool, kI, .list, kI], .rptr [kI, kI, kI, .list]], [⟨true, [.val, .val, .val, .val, .val], [kI, .bool, kI, .list, kI], false⟩]⟩
def g_bk : Env := gE [] false [(79, 0, c_bv)]
theorem has_bk : Has Tryz.prog 78 c_bk φ_bk := fo (G := g_bk) (Φ := Φ_bk) (t := t_bk) (eo (getE_ok (hasAll_get ⟨has_bv, trivial⟩))) Tryz.f78 hE (by kernel_rfl)

def c_aa : Con := ⟨[.ptr [.val, .val, .val, (.arr 86 [.val, .val, .val, .val]), (.arr 49 [.val, .val, .val, .val, .val]), (.arr 86 [.val, .val, .val, .val])] [.bool, .list, kI, .list, .list, .list], .ro false [kI], .fn 76 [[kI, kI, kI, .list]], .fn 78 [[kI, kI, kI, .list]]], []⟩
def g_aa : Env := gE [] false [(93, 0, c_dh), (76, 1, c_bi), (78, 2, c_bk)]
theorem has_aa : Has Tryz.prog 73 c_aa φ_aa := fo (G := g_aa) (Φ := Φ_aa) (t := t_aa) (eo (getE_ok (hasAll_get ⟨has_dh, has_bi, has_bk, trivial⟩))) Tryz.f73 hE (by kernel_rfl)

def c_dc : Con := ⟨[.ro true [.bool, .list, kI, .list]], [⟨true, [.val, .val, .val, (.arr 86 [.val, .val, .val, .val])], [.bool, .list, kI, .list], false⟩]⟩
def g_dc : Env := gE [] false [(43, 0, c_ez), (100, 1, c_bd)]
theorem has_dc : Has Tryz.prog 80 c_dc φ_dc := fo (G := g_dc) (Φ := Φ_dc) (t := t_dc) (eo (getE_ok (hasAll_get ⟨has_ez, has_bd, trivial⟩))) Tryz.f80 hE (by kernel_rfl)

def c_cc : Con := ⟨[.ro true [kI, .bool, kI, .list, kI]], [⟨true, [.val, .val, .val, .val, .val], [kI, .bool, kI, .list, kI], false⟩]⟩
def g_cc : Env := gE [] false [(45, 0, c_dy), (102, 1, c_ax)]
theorem has_cc : Has Tryz.prog 81 c_cc φ_cc := fo (G := g_cc) (Φ := Φ_cc) (t := t_cc) (eo (getE_ok (hasAll_get ⟨has_dy, has_ax, trivial⟩))) Tryz.f81 hE (by kernel_rfl)

def c_ad : Con := ⟨[.ptr [.val, .val, .val, (.arr 86 [.val, .val, .val, .val]), (.arr 49 [.val, .val, .val, .val, .val]), (.arr 86 [.val, .val, .val, .val])] [.bool, .list, kI, .list, .list, .list], .ro false [kI], .fn 80 [], .fn 81 []], []⟩
def g_ad : Env := gE [] false [(93, 0, c_dh), (80, 1, c_dc), (81, 2, c_cc)]
theorem has_ad : Has Tryz.prog 73 c_ad φ_ad := fo (G := g_ad) (Φ := Φ_ad) (t := t_ad) (eo (getE_ok (hasAll_get ⟨has_dh, has_dc, has_cc, trivial⟩))) Tryz.f73 hE (by kernel_rfl)

def c_cy : Con := ⟨[.ptr [.val, .val, .val, (.arr 86 [.val, .val, .val, .val]), (.arr 49 [.val, .val, .val, .val, .val]), (.arr 86 [.val, .val, .val, .val])] [.bool, .list, kI, .list, .list, .list], .ro true [kI, kI, kI, .list]], []⟩
def h_cy : How := ⟨getH [],
  getH [(17, ⟨[.bool], [(65, (.bool (.v 0)))], [], [], 0⟩)],
  getH []⟩
def g_cy : Env := gE [] false [(69, 0, c_cj), (70, 1, c_dd), (47, 2, c_bh), (57, 3, c_fn), (71, 4, c_bm), (72, 5, c_cl), (73, 6, c_ab), (73, 7, c_aa), (73, 8, c_ad)]
theorem has_cy : Has Tryz.prog 37 c_cy φ_cy := fo (G := g_cy) (Φ := Φ_cy) (t := t_cy) (eo (getE_ok (hasAll_get ⟨has_cj, has_dd, has_bh, has_fn, has_bm, has_cl, has_ab, has_aa, has_ad, trivial⟩))) Tryz.f37 h_cy (by kernel_rfl)

def c_by : Con := ⟨[.ro false [.list], .ro false [.list]], [⟨true, [.val, .val, .val, .val, .val, .val], [.bool, .list, kI, .list, .list, .list], false⟩, ⟨false, [.val], [.bool], false⟩]⟩
def h_by : How := ⟨getH [(0, ⟨[kI, .bool, .list, kI, .list, .list, .list], [(25, (sI 0))], [(4, .cells [(.bool (.v 1)), (.view true (.v 2)), (sI 3), (.sl 1000), (.sl 1001), (.sl 1002)]), (1000, .arr 86 [.val, .val, .val, .val] (.v 4)), (1001, .arr 49 [.val, .val, .val, .val, .val] (.v 5)), (1002, .arr 86 [.val, .val, .val, .val] (.v 6))], [1, 2, 3], 3⟩)],
  getH [],
  getH []⟩
def g_by : Env := gE [] false [(33, 0, c_cr), (37, 1, c_cy)]
theorem has_by : Has Tryz.prog 16 c_by φ_by := fo (G := g_by) (Φ := Φ_by) (t := t_by) (eo (getE_ok (hasAll_get ⟨has_cr, has_cy, trivial⟩))) Tryz.f16 h_by (by kernel_rfl)

def c_bt : Con := ⟨[.ro false [.list], .ro false [.list]], [⟨true, [.val, .val, .val, .val, .val, .val], [.bool, .list, kI, .list, .list, .list], false⟩, ⟨false, [.val], [.bool], false⟩]⟩
def h_bt : How := ⟨getH [(0, ⟨[kI, .bool, kI, .list, .list, .list, .list], [(8, (sI 0))], [(5, .cells [(.bool (.v 1)), (.sl 1000), (sI 2), (.sl 1001), (.sl 1002), (.sl 1003)]), (1000, .arr 91 [.val, .val, .val] (.v 3)), (1001, .arr 86 [.val, .val, .val, .val] (.v 4)), (1002, .arr 49 [.val, .val, .val, (.arr 91 [.val, .val, .val]), .val] (.v 5)), (1003, .arr 86 [.val, .val, .val, .val] (.v 6))], [1, 2, 3, 4], 4⟩)],
  getH [],
  getH []⟩
def g_bt : Env := gE rowsS false [(38, 0, c_cx), (39, 1, c_fa)]
theorem has_bt : Has Tryz.prog 17 c_bt φ_bt := fo (G := g_bt) (Φ := Φ_bt) (t := t_bt) (eo (getE_ok (hasAll_get ⟨has_cx, has_fa, trivial⟩))) Tryz.f17 h_bt (by kernel_rfl)

def c_es : Con := ⟨[.ro false [.list], .ro false [.list]], [⟨false, [.val], [.bool], false⟩]⟩
def h_es : How := ⟨getH [(0, ⟨[kI], [(4, (.bool (.b false))), (5, (sI 0))], [], [], 0⟩)],
  getH [],
  getH []⟩
def g_es : Env := gE [] false []
theorem has_es : Has Tryz.prog 20 c_es φ_es := fo (G := g_es) (Φ := ph []) (t := t_es) (eo (getE_ok (hasAll_get trivial))) Tryz.f20 h_es (by kernel_rfl)

def c_fi : Con := ⟨[.ro true [kI, kI, .list], .ro true [kI, kI, .list]], [⟨false, [.val], [.bool], false⟩]⟩
def g_fi : Env := gE [] false [(20, 0, c_es)]
theorem has_fi : Has Tryz.prog 54 c_fi φ_fi := fo (G := g_fi) (Φ := Φ_fi) (t := t_fi) (eo (getE_ok (hasAll_get ⟨has_es, trivial⟩))) Tryz.f54 hE (by kernel_rfl)

def c_ev : Con := ⟨[.ro false [.list], .ro false [.list]], [⟨false, [.val], [.bool], false⟩]⟩
def h_ev : How := ⟨getH [(0, ⟨[kI], [(4, (.bool (.b false))), (5, (sI 0))], [], [], 0⟩)],
  getH [],
  getH []⟩
def g_ev : Env := gE [] false [(54, 0, c_fi)]
theorem has_ev : Has Tryz.prog 26 c_ev φ_ev := fo (G := g_ev) (Φ := Φ_ev) (t := t_ev) (eo (getE_ok (hasAll_get ⟨has_fi, trivial⟩))) Tryz.f26 h_ev (by kernel_rfl)

def c_fg : Con := ⟨[.ro true [.list, kI], .ro true [.list, kI]], [⟨false, [.val], [.bool], false⟩]⟩
def g_fg : Env := gE [] false [(26, 0, c_ev)]
theorem has_fg : Has Tryz.prog 87 c_fg φ_fg := fo (G := g_fg) (Φ := Φ_fg) (t := t_fg) (eo (getE_ok (hasAll_get ⟨has_ev, trivial⟩))) Tryz.f87 hE (by kernel_rfl)

def c_do : Con := ⟨[.ro false [.list], .ro false [.list]], [⟨false, [.val], [.bool], false⟩]⟩
def h_do : How := ⟨getH [(0, ⟨[kI], [(4, (.bool (.b false))), (5, (sI 0))], [], [], 0⟩)],
  getH [],
  getH []⟩
def g_do : Env := gE [] false []
theorem has_do : Has Tryz.prog 41 c_do φ_do := fo (G := g_do) (Φ := ph []) (t := t_do) (eo (getE_ok (hasAll_get trivial))) Tryz.f41 h_do (by kernel_rfl)

def c_ei : Con := ⟨[.ro true [.bool, .list, kI, .list], .ro true [.bool, .list, kI, .list]], [⟨false, [.val], [.bool], false⟩]⟩
def g_ei : Env := gE [] false [(87, 0, c_fg), (41, 1, c_do)]
theorem has_ei : Has Tryz.prog 40 c_ei φ_ei := fo (G := g_ei) (Φ := Φ_ei) (t := t_ei) (eo (getE_ok (hasAll_get ⟨has_fg, has_do, trivial⟩))) Tryz.f40 hE (by kernel_rfl)

def c_dj : Con := ⟨[.ro true [kI, .bool, kI, .list, kI], .ro true [kI, .bool, kI, .list, kI]], [⟨false, [.val], [.bool], false⟩]⟩
def g_dj : Env := gE [] false [(87, 0, c_fg)]
theorem has_dj : Has Tryz.prog 42 c_dj φ_dj := fo (G := g_dj) (Φ := Φ_dj) (t := t_dj) (eo (getE_ok (hasAll_get ⟨has_fg, trivial⟩))) Tryz.f42 hE (by kernel_rfl)

def c_dl : Con := ⟨[.ro true [.bool, .list, kI, .list, .list, .list], .ro true [.bool, .list, kI, .list, .list, .list]], [⟨false, [.val], [.bool], false⟩]⟩
def h_dl : How := ⟨getH [(0, ⟨[kI], [(4, (.bool (.b false))), (5, (sI 0))], [], [], 0⟩)],
  getH [],
  getH []⟩
def g_dl : Env := gE [] false [(40, 0, c_ei), (41, 1, c_do), (42, 2, c_dj)]
theorem has_dl : Has Tryz.prog 18 c_dl φ_dl := fo (G := g_dl) (Φ := Φ_dl) (t := t_dl) (eo (getE_ok (hasAll_get ⟨has_ei, has_do, has_dj, trivial⟩))) Tryz.f18 h_dl (by kernel_rfl)

def c_ca : Con := ⟨[.ro true [.bool, .list, kI, .list], .ro false [.bool]], [⟨false, [.val], [.list], false⟩]⟩
def g_ca : Env := gE [] false [(43, 0, c_ez), (44, 1, c_br)]
theorem has_ca : Has Tryz.prog 19 c_ca φ_ca := fo (G := g_ca) (Φ := Φ_ca) (t := t_ca) (eo (getE_ok (hasAll_get ⟨has_ez, has_br, trivial⟩))) Tryz.f19 hE (by kernel_rfl)

def c_bz : Con := ⟨[.ro true [kI, kI, kI, kI]], [⟨false, [.val], [.bool], false⟩]⟩
def g_bz : Env := gE [] false [(52, 0, c_ew)]
theorem has_bz : Has Tryz.prog 51 c_bz φ_bz := fo (G := g_bz) (Φ := Φ_bz) (t := t_bz) (eo (getE_ok (hasAll_get ⟨has_ew, trivial⟩))) Tryz.f51 hE (by kernel_rfl)

def c_ah : Con := ⟨[.ro false [.list], .fn 51 []], [⟨false, [.val], [kI], false⟩]⟩
def h_ah : How := ⟨getH [(0, ⟨[kI], [(4, (.int .i64 (.n 0))), (8, (sI 0))], [], [], 0⟩)],
  getH [],
  getH []⟩
def g_ah : Env := gE [] false [(51, 0, c_bz)]
theorem has_ah : Has Tryz.prog 99 c_ah φ_ah := fo (G := g_ah) (Φ := Φ_ah) (t := t_ah) (eo (getE_ok (hasAll_get ⟨has_bz, trivial⟩))) Tryz.f99 h_ah (by kernel_rfl)

def c_ac : Con := ⟨[.ro false [.list], .fn 51 []], [⟨false, [.val], [.bool], false⟩]⟩
def g_ac : Env := gE [] false [(99, 0, c_ah)]
theorem has_ac : Has Tryz.prog 50 c_ac φ_ac := fo (G := g_ac) (Φ := Φ_ac) (t := t_ac) (eo (getE_ok (hasAll_get ⟨has_ah, trivial⟩))) Tryz.f50 hE (by kernel_rfl)

def c_eb : Con := ⟨[.ro true [.bool, .list, kI, .list, .list, .list]], [⟨false, [.val], [.bool], false⟩]⟩
def h_eb : How := ⟨getH [(0, ⟨[kI], [(2, (.bool (.b false))), (24, (sI 0))], [], [], 0⟩)],
  getH [],
  getH []⟩
def g_eb : Env := gE [] false [(43, 0, c_ez), (45, 1, c_dy), (50, 2, c_ac)]
theorem has_eb : Has Tryz.prog 24 c_eb φ_eb := fo (G := g_eb) (Φ := Φ_eb) (t := t_eb) (eo (getE_ok (hasAll_get ⟨has_ez, has_dy, has_ac, trivial⟩))) Tryz.f24 h_eb (by kernel_rfl)

def c_bg : Con := ⟨[.ro true [.bool, .list, kI, .list, .list, .list], .ro false [kI]], [⟨false, [.val], [.list], false⟩]⟩
def h_bg : How := ⟨getH [(0, ⟨[kI, .list], [(5, (.sl 1000)), (19, (sI 0))], [(1000, .arr 51 [.val, .val] (.v 1))], [], 1⟩)],
  getH [],
  getH []⟩
def g_bg : Env := gE [] false [(24, 0, c_eb), (55, 1, c_eq), (46, 2, c_ay)]
theorem has_bg : Has Tryz.prog 27 c_bg φ_bg := fo (G := g_bg) (Φ := Φ_bg) (t := t_bg) (eo (getE_ok (hasAll_get ⟨has_eb, has_eq, has_ay, trivial⟩))) Tryz.f27 h_bg (by kernel_rfl)

def c_fj : Con := ⟨[.ro true [.bool, .list, kI, .list, .list, .list]], [⟨false, [.val], [.bool], false⟩]⟩
def h_fj : How := ⟨getH [(0, ⟨[kI], [(2, (.bool (.b false))), (4, (sI 0))], [], [], 0⟩), (2, ⟨[kI], [(2, (.bool (.b false))), (7, (sI 0))], [], [], 0⟩)],
  getH [(21, ⟨[], [(2, (.bool (.b false)))], [], [], 0⟩), (19, ⟨[], [(2, (.bool (.b false)))], [], [], 0⟩), (17, ⟨[], [(2, (.bool (.b false)))], [], [], 0⟩), (11, ⟨[kI], [(6, (sI 0))], [], [], 0⟩)],
  getH []⟩
def g_fj : Env := gE [] false [(19, 0, c_ca), (27, 1, c_bg)]
theorem has_fj : Has Tryz.prog 32 c_fj φ_fj := fo (G := g_fj) (Φ := Φ_fj) (t := t_fj) (eo (getE_ok (hasAll_get ⟨has_ca, has_bg, trivial⟩))) Tryz.f32 h_fj (by kernel_rfl)

def c_bj : Con := ⟨[.own false [.val] [.list] false], [⟨false, [.val], [.bool], false⟩]⟩
def g_bj : Env := gE [] false [(15, 0, c_av), (16, 1, c_by), (17, 2, c_bt), (18, 3, c_dl), (32, 4, c_fj)]
theorem has_bj : Has Tryz.prog 11 c_bj φ_bj := fo (G := g_bj) (Φ := Φ_bj) (t := t_bj) (eo (getE_ok (hasAll_get ⟨has_av, has_by, has_bt, has_dl, has_fj, trivial⟩))) Tryz.f11 hE (by kernel_rfl)

def c_aw : Con := ⟨[.own false [.val] [.list] false, .own false [.val] [.list] false], [⟨false, [.val], [.bool], false⟩]⟩
def g_aw : Env := gE [] false [(15, 0, c_av), (16, 1, c_by), (17, 2, c_bt), (18, 3, c_dl), (32, 4, c_fj), (24, 5, c_eb)]
theorem has_aw : Has Tryz.prog 10 c_aw φ_aw := fo (G := g_aw) (Φ := Φ_aw) (t := t_aw) (eo (getE_ok (hasAll_get ⟨has_av, has_by, has_bt, has_dl, has_fj, has_eb, trivial⟩))) Tryz.f10 hE (by kernel_rfl)

end Dx
