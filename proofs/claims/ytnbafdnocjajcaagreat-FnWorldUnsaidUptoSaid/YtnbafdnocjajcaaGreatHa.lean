/- The seat: its types, its functions' contracts, and that they answer so. -/
import Derived.Test.YtnbafdnocjajcaaGreatProg
import Derived.Test.YtnbafdnocjajcaaGreatXe
import Derived.Test.YtnbafdnocjajcaaGreatYb
set_option linter.all false
set_option linter.unusedVariables false
set_option linter.unusedSimpArgs false
set_option linter.unnecessarySimpa false
namespace Dx
open Go
def tab : List (Nat × TI) :=
  
[(3, ⟨.int .i64, 1, false, [.int .i64 (.n 0)], 8⟩),
  (4, ⟨.bool, 1, false, [.bool (.b false)], 1⟩),
  (5, ⟨.int .u8, 1, false, [.int .u8 (.n 0)], 1⟩),
  (22, ⟨.slice 5, 1, false, [.nil], 24⟩),
  (23, ⟨.slice 82, 1, false, [.nil], 24⟩),
  (25, ⟨.struct [(0, 1, false), (1, 1, false)], 2, true, [.nil, .int .i64 (.n 0)], 32⟩),
  (26, ⟨.slice 42, 1, false, [.nil], 24⟩),
  (28, ⟨.struct [(0, 1, false), (1, 2, true), (3, 1, false)], 4, true, [.bool (.b false), .nil, .int .i64 (.n 0), .nil], 64⟩),
  (29, ⟨.slice 3, 1, false, [.nil], 24⟩),
  (36, ⟨.slice 49, 1, false, [.nil], 24⟩),
  (42, ⟨.struct [(0, 1, false), (1, 1, false), (2, 1, false), (3, 1, false)], 4, true, [.int .i64 (.n 0), .int .i64 (.n 0), .int .i64 (.n 0), .int .i64 (.n 0)], 32⟩),
  (49, ⟨.struct [(0, 1, false), (1, 1, false)], 2, true, [.nil, .int .i64 (.n 0)], 32⟩),
  (57, ⟨.slice 75, 1, false, [.nil], 24⟩),
  (60, ⟨.slice 67, 1, false, [.nil], 24⟩),
  (62, ⟨.struct [(0, 4, true), (4, 1, false), (5, 1, false)], 6, true, [.bool (.b false), .nil, .int .i64 (.n 0), .nil, .nil, .nil], 112⟩),
  (67, ⟨.struct [(0, 1, false), (1, 1, false), (2, 1, false), (3, 2, true)], 5, true, [.int .i64 (.n 0), .bool (.b false), .int .i64 (.n 0), .nil, .int .i64 (.n 0)], 56⟩),
  (69, ⟨.struct [(0, 1, false), (1, 1, false)], 2, true, [.int .i64 (.n 0), .int .i64 (.n 0)], 16⟩),
  (70, ⟨.slice 69, 1, false, [.nil], 24⟩),
  (72, ⟨.struct [(0, 1, false), (1, 1, false)], 2, true, [.int .i64 (.n 0), .nil], 32⟩),
  (75, ⟨.struct [(0, 1, false), (1, 1, false), (2, 1, false), (3, 1, false)], 4, true, [.int .i64 (.n 0), .int .i64 (.n 0), .int .i64 (.n 0), .nil], 48⟩),
  (82, ⟨.struct [(0, 1, false), (1, 1, false), (2, 1, false)], 3, true, [.int .i64 (.n 0), .int .i64 (.n 0), .nil], 40⟩),
  (123, ⟨.arr 2 3, 2, true, [.int .i64 (.n 0), .int .i64 (.n 0)], 16⟩),
  (124, ⟨.map 3 123, 1, false, [.any], 8⟩),
  (109, ⟨.struct [(0, 1, false), (1, 1, false)], 2, true, [.nil, .int .i64 (.n 0)], 32⟩)]

def tab' : Tab := getT tab
theorem tab_ok : TabOk Proofs.Tryz.prog (getT tab) := tabB_ok (by kernel_rfl)
end Dx

namespace Dx
open Go Go.Proofs
def eqs : List (Nat × Nat) := [(42, 4), (69, 2)]
theorem eqs_ok : EqOk Tryz.prog (getQ eqs) := eqB_ok (by kernel_rfl)
theorem mixed_ok : Tryz.prog.follows .mixedOrders = true := by kernel_rfl
def rowsS : List (Nat × List Sh) := [(67, [.val, .val, .val, (.arr 82 [.val, .val, .val]), .val])]
def bodyOf (fn : Func) : Code := match fn.body with
  | some b => b
  | none => .skip
def gE (R : List (Nat × List Sh)) (tr : Bool) (E : List (Nat × Nat × Con)) : Env := ⟨getT tab, getQ eqs, getR R, getE E, tr⟩
abbrev hE : How := ⟨getH [], getH [], getH []⟩
abbrev sI (n : Nat) : SV := .int .i64 (.v n)
theorem fo {G : Env} {Φ : Phi} (hG : EnvOk Tryz.prog G Φ) {f : FuncId} (fn : Func) {c : Con} (H : How) {t : Tree} (h : (Tryz.prog.funcs[f]?, fn.body, fn.name == "runtime.NumGoroutine", fnT G H c fn (bodyOf fn)) = (some fn, some (bodyOf fn), false, t)) : Has Tryz.prog f c (fun cs => retOf (den Φ t cs)) := by
  simp only [Prod.mk.injEq] at h
  exact fn_ok hG h.1 h.2.1 h.2.2.1 h.2.2.2
theorem eo {E : Nat → List (Nat × Con)} {R : Rows} {tr : Bool} {Φ : Phi} (h : ∀ f c, c ∈ E f → Has Tryz.prog f c.2 (Φ c.1)) : EnvOk Tryz.prog ⟨getT tab, getQ eqs, R, E, tr⟩ Φ := ⟨tab_ok, eqs_ok, h, mixed_ok⟩
def c_es : Con := ⟨[.own false [.val] [.list] false], [⟨false, [.val, .val], [.list, kI], true⟩]⟩
def g_es : Env := gE rowsS false []
theorem has_es : Has Tryz.prog 40 c_es φ_es := fo (G := g_es) (Φ := ph []) (t := t_es) (eo (getE_ok (hasAll_get trivial))) Tryz.f40 hE (by kernel_rfl)

def c_bw : Con := ⟨[.ptr [.val, .val] [.list, kI], .ro false [kI]], [⟨false, [.val], [kI], false⟩]⟩
def g_bw : Env := gE rowsS false []
theorem has_bw : Has Tryz.prog 59 c_bw φ_bw := fo (G := g_bw) (Φ := ph []) (t := t_bw) (eo (getE_ok (hasAll_get trivial))) Tryz.f59 hE (by kernel_rfl)

def c_db : Con := ⟨[.ptr [.val, .val] [.list, kI]], [⟨false, [(.arr 3 [.val])], [.list], false⟩]⟩
def g_db : Env := gE rowsS false [(59, 0, c_bw)]
theorem has_db : Has Tryz.prog 102 c_db φ_db := fo (G := g_db) (Φ := Φ_db) (t := t_db) (eo (getE_ok (hasAll_get ⟨has_bw, trivial⟩))) Tryz.f102 hE (by kernel_rfl)

def c_di : Con := ⟨[], [⟨true, [.val, (.arr 82 [.val, .val, .val]), .val, (.arr 42 [.val, .val, .val, .val])], [.bool, .list, kI, .list], false⟩]⟩
def g_di : Env := gE rowsS false []
theorem has_di : Has Tryz.prog 116 c_di φ_di := fo (G := g_di) (Φ := ph []) (t := t_di) (eo (getE_ok (hasAll_get trivial))) Tryz.f116 hE (by kernel_rfl)

def c_fj : Con := ⟨[.ro false [kI], .ro false [kI], .ro false [kI]], [⟨false, [.val], [.bool], false⟩]⟩
def g_fj : Env := gE rowsS false []
theorem has_fj : Has Tryz.prog 81 c_fj φ_fj := fo (G := g_fj) (Φ := ph []) (t := t_fj) (eo (getE_ok (hasAll_get trivial))) Tryz.f81 hE (by kernel_rfl)

def c_cw : Con := ⟨[.ro false [kI]], [⟨true, [.val, (.arr 69 [.val, .val])], [kI, .list], false⟩, ⟨false, [.val], [.bool], false⟩]⟩
def g_cw : Env := gE rowsS false [(81, 0, c_fj)]
theorem has_cw : Has Tryz.prog 138 c_cw φ_cw := fo (G := g_cw) (Φ := Φ_cw) (t := t_cw) (eo (getE_ok (hasAll_get ⟨has_fj, trivial⟩))) Tryz.f138 hE (by kernel_rfl)

def c_cl : Con := ⟨[.ro false [kI], .ro false [kI]], [⟨true, [.val, .val, .val, (.arr 82 [.val, .val, .val]), .val], [kI, .bool, kI, .list, kI], false⟩, ⟨false, [.val], [.bool], false⟩]⟩
def g_cl : Env := gE rowsS false [(138, 0, c_cw), (81, 1, c_fj)]
theorem has_cl : Has Tryz.prog 117 c_cl φ_cl := fo (G := g_cl) (Φ := Φ_cl) (t := t_cl) (eo (getE_ok (hasAll_get ⟨has_cw, has_fj, trivial⟩))) Tryz.f117 hE (by kernel_rfl)

def c_co : Con := ⟨[.ro false [.list]], [⟨true, [.val, (.arr 82 [.val, .val, .val]), .val, (.arr 42 [.val, .val, .val, .val]), (.arr 67 [.val, .val, .val, (.arr 82 [.val, .val, .val]), .val]), (.arr 42 [.val, .val, .val, .val])], [.bool, .list, kI, .list, .list, .list], false⟩, ⟨false, [.val], [.bool], false⟩]⟩
def h_co : How := ⟨getH [(0, ⟨[kI, .list], [(3, (.bool (.b false))), (5, (sI 0))], [(4, .cells [(.bool (.v 1001)), (.sl 1), (sI 1003), (.sl 2), (.sl 1000), (.sl 3)]), (1000, .arr 67 [.val, .val, .val, (.arr 82 [.val, .val, .val]), .val] (.v 1))], [], 1⟩)],
  getH [],
  getH []⟩
def g_co : Env := gE rowsS false [(116, 0, c_di), (117, 1, c_cl)]
theorem has_co : Has Tryz.prog 74 c_co φ_co := fo (G := g_co) (Φ := Φ_co) (t := t_co) (eo (getE_ok (hasAll_get ⟨has_di, has_cl, trivial⟩))) Tryz.f74 h_co (by kernel_rfl)

def c_er : Con := ⟨[.ro false [.list]], [⟨false, [.val], [.bool], false⟩]⟩
def h_er : How := ⟨getH [(0, ⟨[kI, kI], [(2, (.bool (.b false))), (3, (sI 0)), (4, (sI 1))], [], [], 0⟩)],
  getH [],
  getH []⟩
def g_er : Env := gE rowsS false [(81, 0, c_fj)]
theorem has_er : Has Tryz.prog 82 c_er φ_er := fo (G := g_er) (Φ := Φ_er) (t := t_er) (eo (getE_ok (hasAll_get ⟨has_fj, trivial⟩))) Tryz.f82 h_er (by kernel_rfl)

def c_ff : Con := ⟨[.ro true [kI, kI, .list]], [⟨false, [.val], [.bool], false⟩]⟩
def g_ff : Env := gE rowsS false [(81, 0, c_fj), (82, 1, c_er)]
theorem has_ff : Has Tryz.prog 44 c_ff φ_ff := fo (G := g_ff) (Φ := Φ_ff) (t := t_ff) (eo (getE_ok (hasAll_get ⟨has_fj, has_er, trivial⟩))) Tryz.f44 hE (by kernel_rfl)

def c_eh : Con := ⟨[.ro false [.list], .ro true [kI, kI, .list]], [⟨false, [.val], [.bool], false⟩]⟩
def g_eh : Env := gE rowsS false []
theorem has_eh : Has Tryz.prog 83 c_eh φ_eh := fo (G := g_eh) (Φ := ph []) (t := t_eh) (eo (getE_ok (hasAll_get trivial))) Tryz.f83 hE (by kernel_rfl)

def c_fd : Con := ⟨[.own false [(.arr 49 [.val, .val])] [.list] false, .ro true [kI, kI, .list]], [⟨false, [(.arr 49 [.val, .val])], [.list], false⟩]⟩
def g_fd : Env := gE rowsS false []
theorem has_fd : Has Tryz.prog 100 c_fd φ_fd := fo (G := g_fd) (Φ := ph []) (t := t_fd) (eo (getE_ok (hasAll_get trivial))) Tryz.f100 hE (by kernel_rfl)

def c_fb : Con := ⟨[.ro false [.list]], [⟨false, [.val], [.list], false⟩, ⟨false, [.val], [.bool], false⟩]⟩
def h_fb : How := ⟨getH [(0, ⟨[kI, .list], [(2, .nil), (3, (.bool (.b false))), (4, (.sl 1000)), (5, (sI 0))], [(1000, .arr 49 [.val, .val] (.v 1))], [0], 1⟩)],
  getH [],
  getH []⟩
def g_fb : Env := gE rowsS false [(44, 0, c_ff), (83, 1, c_eh), (100, 2, c_fd)]
theorem has_fb : Has Tryz.prog 62 c_fb φ_fb := fo (G := g_fb) (Φ := Φ_fb) (t := t_fb) (eo (getE_ok (hasAll_get ⟨has_ff, has_eh, has_fd, trivial⟩))) Tryz.f62 h_fb (by kernel_rfl)

def c_de : Con := ⟨[.ro true [.bool, .list, kI, .list], .ro false [.bool]], [⟨false, [.val], [.list], false⟩]⟩
def g_de : Env := gE rowsS false [(62, 0, c_fb)]
theorem has_de : Has Tryz.prog 80 c_de φ_de := fo (G := g_de) (Φ := Φ_de) (t := t_de) (eo (getE_ok (hasAll_get ⟨has_fb, trivial⟩))) Tryz.f80 hE (by kernel_rfl)

def c_fc : Con := ⟨[.own true [(.arr 82 [.val, .val, .val]), .val] [.list, kI] false, .own true [.val, .val, .val] [kI, kI, .list] false], [⟨true, [(.arr 82 [.val, .val, .val]), .val], [.list, kI], false⟩, ⟨false, [.val], [.bool], false⟩]⟩
def g_fc : Env := gE rowsS false []
theorem has_fc : Has Tryz.prog 84 c_fc φ_fc := fo (G := g_fc) (Φ := ph []) (t := t_fc) (eo (getE_ok (hasAll_get trivial))) Tryz.f84 hE (by kernel_rfl)

def c_cs : Con := ⟨[.own true [.val, (.arr 82 [.val, .val, .val]), .val, (.arr 42 [.val, .val, .val, .val])] [.bool, .list, kI, .list] false, .own true [.val, .val, .val] [kI, kI, .list] false], [⟨true, [.val, (.arr 82 [.val, .val, .val]), .val, (.arr 42 [.val, .val, .val, .val])], [.bool, .list, kI, .list], false⟩, ⟨false, [.val], [.bool], false⟩]⟩
def g_cs : Env := gE rowsS false [(80, 0, c_de), (83, 1, c_eh), (84, 2, c_fc)]
theorem has_cs : Has Tryz.prog 45 c_cs φ_cs := fo (G := g_cs) (Φ := Φ_cs) (t := t_cs) (eo (getE_ok (hasAll_get ⟨has_de, has_eh, has_fc, trivial⟩))) Tryz.f45 hE (by kernel_rfl)

def c_ec : Con := ⟨[.ro false [.list], .ro true [kI, kI, kI, kI]], [⟨false, [.val], [.bool], false⟩]⟩
def h_ec : How := ⟨getH [(0, ⟨[kI], [(4, (.bool (.b false))), (5, (sI 0))], [], [], 0⟩)],
  getH [],
  getH []⟩
def g_ec : Env := gE rowsS false []
theorem has_ec : Has Tryz.prog 65 c_ec φ_ec := fo (G := g_ec) (Φ := ph []) (t := t_ec) (eo (getE_ok (hasAll_get trivial))) Tryz.f65 h_ec (by kernel_rfl)

def c_cu : Con := ⟨[.ro true [.bool, .list, kI, .list]], [⟨false, [.val], [.list], false⟩]⟩
def h_cu : How := ⟨getH [(0, ⟨[kI, .list], [(3, (.sl 1000)), (5, (sI 0))], [(1000, .arr 42 [.val, .val, .val, .val] (.v 1))], [1], 1⟩), (2, ⟨[kI, .list], [(3, (.sl 1000)), (6, (sI 0))], [(1000, .arr 42 [.val, .val, .val, .val] (.v 1))], [2], 1⟩)],
  getH [],
  getH []⟩
def g_cu : Env := gE rowsS false [(80, 0, c_de), (65, 1, c_ec)]
theorem has_cu : Has Tryz.prog 97 c_cu φ_cu := fo (G := g_cu) (Φ := Φ_cu) (t := t_cu) (eo (getE_ok (hasAll_get ⟨has_de, has_ec, trivial⟩))) Tryz.f97 h_cu (by kernel_rfl)

def c_ex : Con := ⟨[.own true [.val, (.arr 82 [.val, .val, .val]), .val, (.arr 42 [.val, .val, .val, .val]), (.arr 67 [.val, .val, .val, (.arr 82 [.val, .val, .val]), .val]), (.arr 42 [.val, .val, .val, .val])] [.bool, .list, kI, .list, .list, .list] false, .ro true [kI, kI, kI, kI]], [⟨true, [.val, (.arr 82 [.val, .val, .val]), .val, (.arr 42 [.val, .val, .val, .val]), (.arr 67 [.val, .val, .val, (.arr 82 [.val, .val, .val]), .val]), (.arr 42 [.val, .val, .val, .val])], [.bool, .list, kI, .list, .list, .list], false⟩]⟩
def g_ex : Env := gE rowsS false []
theorem has_ex : Has Tryz.prog 139 c_ex φ_ex := fo (G := g_ex) (Φ := ph []) (t := t_ex) (eo (getE_ok (hasAll_get trivial))) Tryz.f139 hE (by kernel_rfl)

def c_ea : Con := ⟨[.own true [.val, (.arr 82 [.val, .val, .val]), .val, (.arr 42 [.val, .val, .val, .val]), (.arr 67 [.val, .val, .val, (.arr 82 [.val, .val, .val]), .val]), (.arr 42 [.val, .val, .val, .val])] [.bool, .list, kI, .list, .list, .list] false, .ro true [kI, kI, kI, .list]], [⟨true, [.val, (.arr 82 [.val, .val, .val]), .val, (.arr 42 [.val, .val, .val, .val]), (.arr 67 [.val, .val, .val, (.arr 82 [.val, .val, .val]), .val]), (.arr 42 [.val, .val, .val, .val])], [.bool, .list, kI, .list, .list, .list], false⟩]⟩
def g_ea : Env := gE rowsS false [(80, 0, c_de), (44, 1, c_ff), (45, 2, c_cs), (81, 3, c_fj), (97, 4, c_cu), (139, 5, c_ex)]
theorem has_ea : Has Tryz.prog 118 c_ea φ_ea := fo (G := g_ea) (Φ := Φ_ea) (t := t_ea) (eo (getE_ok (hasAll_get ⟨has_de, has_ff, has_cs, has_fj, has_cu, has_ex, trivial⟩))) Tryz.f118 hE (by kernel_rfl)

def c_dp : Con := ⟨[.own true [.val, (.arr 82 [.val, .val, .val]), .val, (.arr 42 [.val, .val, .val, .val]), (.arr 67 [.val, .val, .val, (.arr 82 [.val, .val, .val]), .val]), (.arr 42 [.val, .val, .val, .val])] [.bool, .list, kI, .list, .list, .list] false, .ro false [kI]], [⟨true, [.val, (.arr 82 [.val, .val, .val]), .val, (.arr 42 [.val, .val, .val, .val]), (.arr 67 [.val, .val, .val, (.arr 82 [.val, .val, .val]), .val]), (.arr 42 [.val, .val, .val, .val])], [.bool, .list, kI, .list, .list, .list], false⟩]⟩
def g_dp : Env := gE rowsS false []
theorem has_dp : Has Tryz.prog 140 c_dp φ_dp := fo (G := g_dp) (Φ := ph []) (t := t_dp) (eo (getE_ok (hasAll_get trivial))) Tryz.f140 hE (by kernel_rfl)

def c_el : Con := ⟨[.ro true [kI, kI, kI, kI]], [⟨false, [.val], [.bool], false⟩]⟩
def g_el : Env := gE rowsS false [(81, 0, c_fj)]
theorem has_el : Has Tryz.prog 64 c_el φ_el := fo (G := g_el) (Φ := Φ_el) (t := t_el) (eo (getE_ok (hasAll_get ⟨has_fj, trivial⟩))) Tryz.f64 hE (by kernel_rfl)

def c_eu : Con := ⟨[.ro true [.bool, .list, kI, .list], .ro false [kI], .ro false [.list], .ro false [kI]], [⟨false, [.val], [.bool], false⟩]⟩
def h_eu : How := ⟨getH [(0, ⟨[kI], [(8, (.bool (.b false))), (9, (sI 0))], [], [], 0⟩)],
  getH [],
  getH []⟩
def g_eu : Env := gE rowsS false [(65, 0, c_ec)]
theorem has_eu : Has Tryz.prog 132 c_eu φ_eu := fo (G := g_eu) (Φ := Φ_eu) (t := t_eu) (eo (getE_ok (hasAll_get ⟨has_ec, trivial⟩))) Tryz.f132 h_eu (by kernel_rfl)

def c_eo : Con := ⟨[.ro true [.bool, .list, kI, .list], .ro false [kI], .ro false [.list], .ro false [kI]], [⟨false, [.val], [.bool], false⟩]⟩
def h_eo : How := ⟨getH [(0, ⟨[kI], [(8, (.bool (.b false))), (9, (sI 0))], [], [], 0⟩)],
  getH [],
  getH []⟩
def g_eo : Env := gE rowsS false [(65, 0, c_ec)]
theorem has_eo : Has Tryz.prog 133 c_eo φ_eo := fo (G := g_eo) (Φ := Φ_eo) (t := t_eo) (eo (getE_ok (hasAll_get ⟨has_ec, trivial⟩))) Tryz.f133 h_eo (by kernel_rfl)

def c_ci : Con := ⟨[.own true [.val, (.arr 82 [.val, .val, .val]), .val, (.arr 42 [.val, .val, .val, .val])] [.bool, .list, kI, .list] false, .ro false [kI]], [⟨true, [.val, (.arr 82 [.val, .val, .val]), .val, (.arr 42 [.val, .val, .val, .val])], [.bool, .list, kI, .list], false⟩]⟩
def h_ci : How := ⟨getH [],
  getH [(9, ⟨[.bool], [(47, (.bool (.v 0)))], [], [], 0⟩), (7, ⟨[.bool], [(36, (.bool (.v 0)))], [], [], 0⟩), (5, ⟨[.bool], [(8, (.bool (.v 0)))], [], [], 0⟩)],
  getH []⟩
def g_ci : Env := gE rowsS false [(80, 0, c_de), (132, 1, c_eu), (133, 2, c_eo), (45, 3, c_cs)]
theorem has_ci : Has Tryz.prog 99 c_ci φ_ci := fo (G := g_ci) (Φ := Φ_ci) (t := t_ci) (eo (getE_ok (hasAll_get ⟨has_de, has_eu, has_eo, has_cs, trivial⟩))) Tryz.f99 h_ci (by kernel_rfl)

def c_dq : Con := ⟨[.own true [.val, (.arr 82 [.val, .val, .val]), .val, (.arr 42 [.val, .val, .val, .val])] [.bool, .list, kI, .list] false, .ro true [kI, kI, kI, kI]], [⟨true, [.val, (.arr 82 [.val, .val, .val]), .val, (.arr 42 [.val, .val, .val, .val])], [.bool, .list, kI, .list], false⟩]⟩
def g_dq : Env := gE rowsS false [(64, 0, c_el), (80, 1, c_de), (65, 2, c_ec), (99, 3, c_ci)]
theorem has_dq : Has Tryz.prog 61 c_dq φ_dq := fo (G := g_dq) (Φ := Φ_dq) (t := t_dq) (eo (getE_ok (hasAll_get ⟨has_el, has_de, has_ec, has_ci, trivial⟩))) Tryz.f61 hE (by kernel_rfl)

def c_ej : Con := ⟨[.ro true [kI, .list]], [⟨false, [.val], [kI], false⟩]⟩
def h_ej : How := ⟨getH [(0, ⟨[kI, kI], [(3, (sI 0)), (4, (sI 1))], [], [], 0⟩)],
  getH [],
  getH []⟩
def g_ej : Env := gE rowsS false []
theorem has_ej : Has Tryz.prog 163 c_ej φ_ej := fo (G := g_ej) (Φ := ph []) (t := t_ej) (eo (getE_ok (hasAll_get trivial))) Tryz.f163 h_ej (by kernel_rfl)

def c_fg : Con := ⟨[.ro true [kI, .list], .ro true [kI, kI, .list]], [⟨false, [.val], [.bool], false⟩]⟩
def g_fg : Env := gE rowsS false [(163, 0, c_ej)]
theorem has_fg : Has Tryz.prog 158 c_fg φ_fg := fo (G := g_fg) (Φ := Φ_fg) (t := t_fg) (eo (getE_ok (hasAll_get ⟨has_ej, trivial⟩))) Tryz.f158 hE (by kernel_rfl)

def c_spec_l2Do : Con := ⟨[.own true [.val, (.arr 69 [.val, .val])] [kI, .list] false, .ro true [kI, kI, .list]], [⟨true, [.val, (.arr 69 [.val, .val])], [kI, .list], false⟩]⟩
def g_spec_l2Do : Env := gE rowsS false []
theorem has_spec_l2Do : Has Tryz.prog 167 c_spec_l2Do φ_spec_l2Do := fo (G := g_spec_l2Do) (Φ := ph []) (t := t_spec_l2Do) (eo (getE_ok (hasAll_get trivial))) Tryz.f167 hE (by kernel_rfl)

def c_fi : Con := ⟨[.ro false [kI], .ro false [.list]], [⟨true, [.val, .val], [kI, .list], false⟩, ⟨false, [.val], [.bool], false⟩]⟩
def h_fi : How := ⟨getH [(0, ⟨[kI, kI, .list], [(5, (.bool (.b false))), (8, (sI 0))], [(2, .cells [(sI 1), (.sl 1000)]), (1000, .arr 69 [.val, .val] (.v 2))], [1], 1⟩)],
  getH [],
  getH []⟩
def g_fi : Env := gE rowsS false [(138, 0, c_cw), (44, 1, c_ff), (158, 2, c_fg), (167, 3, c_spec_l2Do)]
theorem has_fi : Has Tryz.prog 162 c_fi φ_fi := fo (G := g_fi) (Φ := Φ_fi) (t := t_fi) (eo (getE_ok (hasAll_get ⟨has_cw, has_ff, has_fg, has_spec_l2Do, trivial⟩))) Tryz.f162 h_fi (by kernel_rfl)

def c_cy : Con := ⟨[.ro true [kI, .bool, kI, .list, kI], .ro false [.bool]], [⟨true, [.val, .val], [kI, .list], false⟩]⟩
def g_cy : Env := gE rowsS false [(162, 0, c_fi)]
theorem has_cy : Has Tryz.prog 156 c_cy φ_cy := fo (G := g_cy) (Φ := Φ_cy) (t := t_cy) (eo (getE_ok (hasAll_get ⟨has_fi, trivial⟩))) Tryz.f156 hE (by kernel_rfl)

def c_ev : Con := ⟨[.ro true [kI, kI, kI, kI]], [⟨true, [.val, .val, .val], [kI, kI, .list], false⟩]⟩
def g_ev : Env := gE rowsS false []
theorem has_ev : Has Tryz.prog 157 c_ev φ_ev := fo (G := g_ev) (Φ := ph []) (t := t_ev) (eo (getE_ok (hasAll_get trivial))) Tryz.f157 hE (by kernel_rfl)

def c_cc : Con := ⟨[.ro true [kI, .bool, kI, .list, kI], .ro true [kI, kI, kI, kI], .ro false [kI]], [⟨true, [.val, .val, .val, .val], [kI, kI, kI, kI], false⟩, ⟨false, [.val], [.bool], false⟩]⟩
def h_cc : How := ⟨getH [],
  getH [(6, ⟨[.bool], [(28, (.bool (.v 0)))], [], [], 0⟩), (4, ⟨[.bool], [(15, (.bool (.v 0)))], [], [], 0⟩)],
  getH []⟩
def g_cc : Env := gE rowsS false []
theorem has_cc : Has Tryz.prog 159 c_cc φ_cc := fo (G := g_cc) (Φ := ph []) (t := t_cc) (eo (getE_ok (hasAll_get trivial))) Tryz.f159 h_cc (by kernel_rfl)

def c_dg : Con := ⟨[.own true [.val, .val, .val, (.arr 82 [.val, .val, .val]), .val] [kI, .bool, kI, .list, kI] false, .ro true [kI, kI, kI, kI]], [⟨true, [.val, .val, .val, (.arr 82 [.val, .val, .val]), .val], [kI, .bool, kI, .list, kI], false⟩, ⟨true, [.val, .val, .val, .val], [kI, kI, kI, kI], false⟩, ⟨false, [.val], [.bool], false⟩]⟩
def g_dg : Env := gE rowsS false [(64, 0, c_el), (156, 1, c_cy), (157, 2, c_ev), (158, 3, c_fg), (84, 4, c_fc), (159, 5, c_cc)]
theorem has_dg : Has Tryz.prog 151 c_dg φ_dg := fo (G := g_dg) (Φ := Φ_dg) (t := t_dg) (eo (getE_ok (hasAll_get ⟨has_el, has_cy, has_ev, has_fg, has_fc, has_cc, trivial⟩))) Tryz.f151 hE (by kernel_rfl)

def c_dn : Con := ⟨[.own true [.val, (.arr 82 [.val, .val, .val]), .val, (.arr 42 [.val, .val, .val, .val]), (.arr 67 [.val, .val, .val, (.arr 82 [.val, .val, .val]), .val]), (.arr 42 [.val, .val, .val, .val])] [.bool, .list, kI, .list, .list, .list] false, .ro true [kI, kI, kI, kI]], [⟨true, [.val, (.arr 82 [.val, .val, .val]), .val, (.arr 42 [.val, .val, .val, .val]), (.arr 67 [.val, .val, .val, (.arr 82 [.val, .val, .val]), .val]), (.arr 42 [.val, .val, .val, .val])], [.bool, .list, kI, .list, .list, .list], false⟩, ⟨true, [.val, .val, .val, .val], [kI, kI, kI, kI], false⟩, ⟨false, [.val], [.bool], false⟩]⟩
def g_dn : Env := gE rowsS false [(61, 0, c_dq), (151, 1, c_dg)]
theorem has_dn : Has Tryz.prog 141 c_dn φ_dn := fo (G := g_dn) (Φ := Φ_dn) (t := t_dn) (eo (getE_ok (hasAll_get ⟨has_dq, has_dg, trivial⟩))) Tryz.f141 hE (by kernel_rfl)

def c_eg : Con := ⟨[.own true [.val, (.arr 82 [.val, .val, .val]), .val, (.arr 42 [.val, .val, .val, .val]), (.arr 67 [.val, .val, .val, (.arr 82 [.val, .val, .val]), .val]), (.arr 42 [.val, .val, .val, .val])] [.bool, .list, kI, .list, .list, .list] false, .ro true [kI, kI, kI, .list]], [⟨true, [.val, (.arr 82 [.val, .val, .val]), .val, (.arr 42 [.val, .val, .val, .val]), (.arr 67 [.val, .val, .val, (.arr 82 [.val, .val, .val]), .val]), (.arr 42 [.val, .val, .val, .val])], [.bool, .list, kI, .list, .list, .list], false⟩]⟩
def g_eg : Env := gE rowsS false [(81, 0, c_fj), (140, 1, c_dp), (139, 2, c_ex), (141, 3, c_dn)]
theorem has_eg : Has Tryz.prog 119 c_eg φ_eg := fo (G := g_eg) (Φ := Φ_eg) (t := t_eg) (eo (getE_ok (hasAll_get ⟨has_fj, has_dp, has_ex, has_dn, trivial⟩))) Tryz.f119 hE (by kernel_rfl)

def c_ct : Con := ⟨[.own true [.val, (.arr 82 [.val, .val, .val]), .val, (.arr 42 [.val, .val, .val, .val]), (.arr 67 [.val, .val, .val, (.arr 82 [.val, .val, .val]), .val]), (.arr 42 [.val, .val, .val, .val])] [.bool, .list, kI, .list, .list, .list] false, .ro false [kI]], [⟨true, [.val, (.arr 82 [.val, .val, .val]), .val, (.arr 42 [.val, .val, .val, .val]), (.arr 67 [.val, .val, .val, (.arr 82 [.val, .val, .val]), .val]), (.arr 42 [.val, .val, .val, .val])], [.bool, .list, kI, .list, .list, .list], false⟩]⟩
def h_ct : How := ⟨getH [],
  getH [(3, ⟨[kI], [], [(4, .cells [(.bool (.v 1000)), (.sl 0), (sI 0), (.sl 1), (.sl 2), (.sl 3)])], [], 0⟩)],
  getH []⟩
def g_ct : Env := gE rowsS false [(81, 0, c_fj)]
theorem has_ct : Has Tryz.prog 142 c_ct φ_ct := fo (G := g_ct) (Φ := Φ_ct) (t := t_ct) (eo (getE_ok (hasAll_get ⟨has_fj, trivial⟩))) Tryz.f142 h_ct (by kernel_rfl)

def c_ep : Con := ⟨[.own true [(.arr 82 [.val, .val, .val]), .val] [.list, kI] false, .ro false [kI]], [⟨true, [(.arr 82 [.val, .val, .val]), .val], [.list, kI], false⟩]⟩
def g_ep : Env := gE rowsS true []
theorem has_ep : Has Tryz.prog 144 c_ep φ_ep := fo (G := g_ep) (Φ := ph []) (t := t_ep) (eo (getE_ok (hasAll_get trivial))) Tryz.f144 hE (by kernel_rfl)

def c_eb : Con := ⟨[.own true [.val, (.arr 82 [.val, .val, .val]), .val, (.arr 42 [.val, .val, .val, .val])] [.bool, .list, kI, .list] false, .ro false [kI]], [⟨true, [.val, (.arr 82 [.val, .val, .val]), .val, (.arr 42 [.val, .val, .val, .val])], [.bool, .list, kI, .list], false⟩]⟩
def g_eb : Env := gE rowsS false [(144, 0, c_ep)]
theorem has_eb : Has Tryz.prog 143 c_eb φ_eb := fo (G := g_eb) (Φ := Φ_eb) (t := t_eb) (eo (getE_ok (hasAll_get ⟨has_ep, trivial⟩))) Tryz.f143 hE (by kernel_rfl)

def c_dj : Con := ⟨[.own true [.val, (.arr 82 [.val, .val, .val]), .val, (.arr 42 [.val, .val, .val, .val]), (.arr 67 [.val, .val, .val, (.arr 82 [.val, .val, .val]), .val]), (.arr 42 [.val, .val, .val, .val])] [.bool, .list, kI, .list, .list, .list] false, .ro true [kI, kI, kI, .list]], [⟨true, [.val, (.arr 82 [.val, .val, .val]), .val, (.arr 42 [.val, .val, .val, .val]), (.arr 67 [.val, .val, .val, (.arr 82 [.val, .val, .val]), .val]), (.arr 42 [.val, .val, .val, .val])], [.bool, .list, kI, .list, .list, .list], false⟩]⟩
def g_dj : Env := gE rowsS false [(81, 0, c_fj), (142, 1, c_ct), (143, 2, c_eb), (144, 3, c_ep)]
theorem has_dj : Has Tryz.prog 120 c_dj φ_dj := fo (G := g_dj) (Φ := Φ_dj) (t := t_dj) (eo (getE_ok (hasAll_get ⟨has_fj, has_ct, has_eb, has_ep, trivial⟩))) Tryz.f120 hE (by kernel_rfl)

def c_fa : Con := ⟨[.own true [.val, (.arr 82 [.val, .val, .val]), .val, (.arr 42 [.val, .val, .val, .val]), (.arr 67 [.val, .val, .val, (.arr 82 [.val, .val, .val]), .val]), (.arr 42 [.val, .val, .val, .val])] [.bool, .list, kI, .list, .list, .list] false, .ro true [kI, kI, kI, .list]], [⟨true, [.val, (.arr 82 [.val, .val, .val]), .val, (.arr 42 [.val, .val, .val, .val]), (.arr 67 [.val, .val, .val, (.arr 82 [.val, .val, .val]), .val]), (.arr 42 [.val, .val, .val, .val])], [.bool, .list, kI, .list, .list, .list], false⟩]⟩
def h_fa : How := ⟨getH [],
  getH [(5, ⟨[.bool], [(7, (.bool (.v 0)))], [], [], 0⟩)],
  getH []⟩
def g_fa : Env := gE rowsS false [(118, 0, c_ea), (119, 1, c_eg), (120, 2, c_dj)]
theorem has_fa : Has Tryz.prog 75 c_fa φ_fa := fo (G := g_fa) (Φ := Φ_fa) (t := t_fa) (eo (getE_ok (hasAll_get ⟨has_ea, has_eg, has_dj, trivial⟩))) Tryz.f75 h_fa (by kernel_rfl)

def c_cv : Con := ⟨[.ptr [.val, .val] [.list, kI], .ro true [.bool, .list, kI, .list, .list, .list]], [⟨true, [.val, .val, .val, .val], [kI, kI, kI, .list], false⟩]⟩
def h_cv : How := ⟨getH [],
  getH [(25, ⟨[.bool], [(77, (.bool (.v 0)))], [], [], 0⟩), (17, ⟨[.bool], [(52, (.bool (.v 0)))], [], [], 0⟩), (9, ⟨[.bool], [(32, (.bool (.v 0)))], [], [], 0⟩), (6, ⟨[.list, kI], [], [(0, .cells [(.view true (.v 0)), (sI 1)])], [], 0⟩)],
  getH []⟩
def g_cv : Env := gE rowsS false [(80, 0, c_de), (97, 1, c_cu), (59, 2, c_bw)]
theorem has_cv : Has Tryz.prog 103 c_cv φ_cv := fo (G := g_cv) (Φ := Φ_cv) (t := t_cv) (eo (getE_ok (hasAll_get ⟨has_de, has_cu, has_bw, trivial⟩))) Tryz.f103 h_cv (by kernel_rfl)

def c_dw : Con := ⟨[.ptr [.val, .val] [.list, kI]], [⟨false, [(.arr 3 [.val])], [.list], false⟩, ⟨false, [(.arr 75 [.val, .val, .val, .val])], [.list], false⟩, ⟨true, [.val, (.arr 82 [.val, .val, .val]), .val, (.arr 42 [.val, .val, .val, .val]), (.arr 67 [.val, .val, .val, (.arr 82 [.val, .val, .val]), .val]), (.arr 42 [.val, .val, .val, .val])], [.bool, .list, kI, .list, .list, .list], false⟩]⟩
def h_dw : How := ⟨getH [(2, ⟨[kI, .list, kI, .bool, kI, .list, .list, .list, .list, .list], [(8, (.sl 1000)), (11, (sI 0))], [(0, .cells [(.view true (.v 1)), (sI 2)]), (7, .cells [(.bool (.v 3)), (.sl 1001), (sI 4), (.sl 1002), (.sl 1003), (.sl 1004)]), (1000, .arr 75 [.val, .val, .val, .val] (.v 5)), (1001, .arr 82 [.val, .val, .val] (.v 6)), (1002, .arr 42 [.val, .val, .val, .val] (.v 7)), (1003, .arr 67 [.val, .val, .val, (.arr 82 [.val, .val, .val]), .val] (.v 8)), (1004, .arr 42 [.val, .val, .val, .val] (.v 9))], [9, 10, 11, 12, 13], 5⟩), (0, ⟨[kI, .bool, kI, .list, .list, .list, .list, .list], [(8, (.sl 1000)), (29, (sI 0))], [(7, .cells [(.bool (.v 1)), (.sl 1001), (sI 2), (.sl 1002), (.sl 1003), (.sl 1004)]), (1000, .arr 75 [.val, .val, .val, .val] (.v 3)), (1001, .arr 82 [.val, .val, .val] (.v 4)), (1002, .arr 42 [.val, .val, .val, .val] (.v 5)), (1003, .arr 67 [.val, .val, .val, (.arr 82 [.val, .val, .val]), .val] (.v 6)), (1004, .arr 42 [.val, .val, .val, .val] (.v 7))], [8, 3, 4, 5, 6], 5⟩)],
  getH [(11, ⟨[.bool, kI, .list, kI, .list, .list, .list, .list, .list], [(8, (.sl 1000))], [(7, .cells [(.bool (.v 0)), (.sl 1001), (sI 1), (.sl 1002), (.sl 1003), (.sl 1004)]), (0, .cells [(.view true (.v 2)), (sI 3)]), (1000, .arr 75 [.val, .val, .val, .val] (.v 4)), (1001, .arr 82 [.val, .val, .val] (.v 5)), (1002, .arr 42 [.val, .val, .val, .val] (.v 6)), (1003, .arr 67 [.val, .val, .val, (.arr 82 [.val, .val, .val]), .val] (.v 7)), (1004, .arr 42 [.val, .val, .val, .val] (.v 8))], [8, 3, 4, 5, 6], 5⟩)],
  getH []⟩
def g_dw : Env := gE rowsS false [(102, 0, c_db), (74, 1, c_co), (59, 2, c_bw), (75, 3, c_fa), (103, 4, c_cv)]
theorem has_dw : Has Tryz.prog 71 c_dw φ_dw := fo (G := g_dw) (Φ := Φ_dw) (t := t_dw) (eo (getE_ok (hasAll_get ⟨has_db, has_co, has_bw, has_fa, has_cv, trivial⟩))) Tryz.f71 h_dw (by kernel_rfl)

def c_at : Con := ⟨[.own false [.val] [.list] false], [⟨false, [.val], [.list], false⟩, ⟨false, [.val], [.list], false⟩]⟩
def h_at : How := ⟨getH [(1, ⟨[.list], [(6, (.sl 1000))], [(1000, .arr 75 [.val, .val, .val, .val] (.v 0))], [2], 1⟩)],
  getH [],
  getH []⟩
def g_at : Env := gE rowsS false [(40, 0, c_es), (71, 1, c_dw), (59, 2, c_bw)]
theorem has_at : Has Tryz.prog 35 c_at φ_at := fo (G := g_at) (Φ := Φ_at) (t := t_at) (eo (getE_ok (hasAll_get ⟨has_es, has_dw, has_bw, trivial⟩))) Tryz.f35 h_at (by kernel_rfl)

def c_dl : Con := ⟨[], [⟨true, [.val, .val, .val, (.arr 42 [.val, .val, .val, .val])], [.bool, .list, kI, .list], false⟩]⟩
def g_dl : Env := gE [] false []
theorem has_dl : Has Tryz.prog 19 c_dl φ_dl := fo (G := g_dl) (Φ := ph []) (t := t_dl) (eo (getE_ok (hasAll_get trivial))) Tryz.f19 hE (by kernel_rfl)

def c_fk : Con := ⟨[.ro false [kI], .ro false [kI], .ro false [kI]], [⟨false, [.val], [.bool], false⟩]⟩
def g_fk : Env := gE [] false []
theorem has_fk : Has Tryz.prog 67 c_fk φ_fk := fo (G := g_fk) (Φ := ph []) (t := t_fk) (eo (getE_ok (hasAll_get trivial))) Tryz.f67 hE (by kernel_rfl)

def c_dm : Con := ⟨[.ro false [kI]], [⟨false, [.val], [.bool], false⟩]⟩
def g_dm : Env := gE [] false [(67, 0, c_fk)]
theorem has_dm : Has Tryz.prog 68 c_dm φ_dm := fo (G := g_dm) (Φ := Φ_dm) (t := t_dm) (eo (getE_ok (hasAll_get ⟨has_fk, trivial⟩))) Tryz.f68 hE (by kernel_rfl)

def c_cr : Con := ⟨[.ro false [kI], .ro false [kI]], [⟨true, [.val, .val, .val, .val, .val], [kI, .bool, kI, .list, kI], false⟩, ⟨false, [.val], [.bool], false⟩]⟩
def g_cr : Env := gE [] false [(68, 0, c_dm), (67, 1, c_fk)]
theorem has_cr : Has Tryz.prog 104 c_cr φ_cr := fo (G := g_cr) (Φ := Φ_cr) (t := t_cr) (eo (getE_ok (hasAll_get ⟨has_dm, has_fk, trivial⟩))) Tryz.f104 hE (by kernel_rfl)

def c_df : Con := ⟨[.ro false [.list]], [⟨true, [.val, .val, .val, (.arr 42 [.val, .val, .val, .val]), (.arr 67 [.val, .val, .val, .val, .val]), (.arr 42 [.val, .val, .val, .val])], [.bool, .list, kI, .list, .list, .list], false⟩, ⟨false, [.val], [.bool], false⟩]⟩
def h_df : How := ⟨getH [(0, ⟨[kI, .list], [(3, (.bool (.b false))), (17, (sI 0))], [(2, .cells [(.bool (.v 1003)), (.view true (.v 1004)), (sI 1005), (.sl 1), (.sl 1000), .nil]), (1000, .arr 67 [.val, .val, .val, .val, .val] (.v 1))], [], 1⟩)],
  getH [],
  getH []⟩
def g_df : Env := gE [] false [(19, 0, c_dl), (104, 1, c_cr)]
theorem has_df : Has Tryz.prog 72 c_df φ_df := fo (G := g_df) (Φ := Φ_df) (t := t_df) (eo (getE_ok (hasAll_get ⟨has_dl, has_cr, trivial⟩))) Tryz.f72 h_df (by kernel_rfl)

def c_bm : Con := ⟨[.ro false [kI]], [⟨false, [.val], [.bool], false⟩]⟩
def g_bm : Env := gE [] false [(67, 0, c_fk)]
theorem has_bm : Has Tryz.prog 123 c_bm φ_bm := fo (G := g_bm) (Φ := Φ_bm) (t := t_bm) (eo (getE_ok (hasAll_get ⟨has_fk, trivial⟩))) Tryz.f123 hE (by kernel_rfl)

def c_am : Con := ⟨[.ro false [.list], .fn 123 []], [⟨false, [.val], [kI], false⟩]⟩
def h_am : How := ⟨getH [(0, ⟨[kI], [(4, (.int .i64 (.n 0))), (8, (sI 0))], [], [], 0⟩)],
  getH [],
  getH []⟩
def g_am : Env := gE [] false [(123, 0, c_bm)]
theorem has_am : Has Tryz.prog 147 c_am φ_am := fo (G := g_am) (Φ := Φ_am) (t := t_am) (eo (getE_ok (hasAll_get ⟨has_bm, trivial⟩))) Tryz.f147 h_am (by kernel_rfl)

def c_ai : Con := ⟨[.ro false [.list], .fn 123 []], [⟨false, [.val], [.bool], false⟩]⟩
def g_ai : Env := gE [] false [(147, 0, c_am)]
theorem has_ai : Has Tryz.prog 125 c_ai φ_ai := fo (G := g_ai) (Φ := Φ_ai) (t := t_ai) (eo (getE_ok (hasAll_get ⟨has_am, trivial⟩))) Tryz.f125 hE (by kernel_rfl)

def c_bo : Con := ⟨[.ro false [kI]], [⟨false, [.val], [.bool], false⟩]⟩
def g_bo : Env := gE [] false []
theorem has_bo : Has Tryz.prog 124 c_bo φ_bo := fo (G := g_bo) (Φ := ph []) (t := t_bo) (eo (getE_ok (hasAll_get trivial))) Tryz.f124 hE (by kernel_rfl)

def c_al : Con := ⟨[.ro false [.list], .fn 124 []], [⟨false, [.val], [kI], false⟩]⟩
def h_al : How := ⟨getH [(0, ⟨[kI], [(4, (.int .i64 (.n 0))), (8, (sI 0))], [], [], 0⟩)],
  getH [],
  getH []⟩
def g_al : Env := gE [] false [(124, 0, c_bo)]
theorem has_al : Has Tryz.prog 147 c_al φ_al := fo (G := g_al) (Φ := Φ_al) (t := t_al) (eo (getE_ok (hasAll_get ⟨has_bo, trivial⟩))) Tryz.f147 h_al (by kernel_rfl)

def c_aj : Con := ⟨[.ro false [.list], .fn 124 []], [⟨false, [.val], [.bool], false⟩]⟩
def g_aj : Env := gE [] false [(147, 0, c_al)]
theorem has_aj : Has Tryz.prog 125 c_aj φ_aj := fo (G := g_aj) (Φ := Φ_aj) (t := t_aj) (eo (getE_ok (hasAll_get ⟨has_al, trivial⟩))) Tryz.f125 hE (by kernel_rfl)

def c_cm : Con := ⟨[.ro false [.list]], [⟨false, [.val], [.bool], false⟩]⟩
def g_cm : Env := gE [] false [(125, 0, c_ai), (125, 1, c_aj)]
theorem has_cm : Has Tryz.prog 89 c_cm φ_cm := fo (G := g_cm) (Φ := Φ_cm) (t := t_cm) (eo (getE_ok (hasAll_get ⟨has_ai, has_aj, trivial⟩))) Tryz.f89 hE (by kernel_rfl)

def c_en : Con := ⟨[.ro false [kI]], [⟨false, [.val], [.bool], false⟩]⟩
def g_en : Env := gE [] false [(67, 0, c_fk)]
theorem has_en : Has Tryz.prog 69 c_en φ_en := fo (G := g_en) (Φ := Φ_en) (t := t_en) (eo (getE_ok (hasAll_get ⟨has_fk, trivial⟩))) Tryz.f69 hE (by kernel_rfl)

def c_fe : Con := ⟨[.ro true [kI, kI, .list]], [⟨false, [.val], [.bool], false⟩]⟩
def g_fe : Env := gE [] false [(67, 0, c_fk), (89, 1, c_cm), (69, 2, c_en)]
theorem has_fe : Has Tryz.prog 49 c_fe φ_fe := fo (G := g_fe) (Φ := Φ_fe) (t := t_fe) (eo (getE_ok (hasAll_get ⟨has_fk, has_cm, has_en, trivial⟩))) Tryz.f49 hE (by kernel_rfl)

def c_ee : Con := ⟨[.ro true [kI, kI, .list]], [⟨false, [.val], [.bool], false⟩]⟩
def g_ee : Env := gE [] false [(49, 0, c_fe)]
theorem has_ee : Has Tryz.prog 92 c_ee φ_ee := fo (G := g_ee) (Φ := Φ_ee) (t := t_ee) (eo (getE_ok (hasAll_get ⟨has_fe, trivial⟩))) Tryz.f92 hE (by kernel_rfl)

def c_ak : Con := ⟨[.ro false [.list], .fn 92 []], [⟨false, [.val], [kI], false⟩]⟩
def h_ak : How := ⟨getH [(0, ⟨[kI], [(4, (.int .i64 (.n 0))), (8, (sI 0))], [], [], 0⟩)],
  getH [],
  getH []⟩
def g_ak : Env := gE [] false [(92, 0, c_ee)]
theorem has_ak : Has Tryz.prog 129 c_ak φ_ak := fo (G := g_ak) (Φ := Φ_ak) (t := t_ak) (eo (getE_ok (hasAll_get ⟨has_ee, trivial⟩))) Tryz.f129 h_ak (by kernel_rfl)

def c_ag : Con := ⟨[.ro false [.list], .fn 92 []], [⟨false, [.val], [.bool], false⟩]⟩
def g_ag : Env := gE [] false [(129, 0, c_ak)]
theorem has_ag : Has Tryz.prog 93 c_ag φ_ag := fo (G := g_ag) (Φ := Φ_ag) (t := t_ag) (eo (getE_ok (hasAll_get ⟨has_ak, trivial⟩))) Tryz.f93 hE (by kernel_rfl)

def c_ey : Con := ⟨[.ro true [.list, kI]], [⟨false, [.val], [.bool], false⟩]⟩
def g_ey : Env := gE [] false [(67, 0, c_fk), (93, 1, c_ag)]
theorem has_ey : Has Tryz.prog 52 c_ey φ_ey := fo (G := g_ey) (Φ := Φ_ey) (t := t_ey) (eo (getE_ok (hasAll_get ⟨has_fk, has_ag, trivial⟩))) Tryz.f52 hE (by kernel_rfl)

def c_cj : Con := ⟨[.ro true [.list, kI]], [⟨false, [.val], [.bool], false⟩]⟩
def g_cj : Env := gE [] false [(89, 0, c_cm), (67, 1, c_fk)]
theorem has_cj : Has Tryz.prog 148 c_cj φ_cj := fo (G := g_cj) (Φ := Φ_cj) (t := t_cj) (eo (getE_ok (hasAll_get ⟨has_cm, has_fk, trivial⟩))) Tryz.f148 hE (by kernel_rfl)

def c_af : Con := ⟨[.ro false [.list], .fn 148 []], [⟨false, [.val], [kI], false⟩]⟩
def h_af : How := ⟨getH [(0, ⟨[kI], [(4, (.int .i64 (.n 0))), (8, (sI 0))], [], [], 0⟩)],
  getH [],
  getH []⟩
def g_af : Env := gE [] false [(148, 0, c_cj)]
theorem has_af : Has Tryz.prog 154 c_af φ_af := fo (G := g_af) (Φ := Φ_af) (t := t_af) (eo (getE_ok (hasAll_get ⟨has_cj, trivial⟩))) Tryz.f154 h_af (by kernel_rfl)

def c_ad : Con := ⟨[.ro false [.list], .fn 148 []], [⟨false, [.val], [.bool], false⟩]⟩
def g_ad : Env := gE [] false [(154, 0, c_af)]
theorem has_ad : Has Tryz.prog 149 c_ad φ_ad := fo (G := g_ad) (Φ := Φ_ad) (t := t_ad) (eo (getE_ok (hasAll_get ⟨has_af, trivial⟩))) Tryz.f149 hE (by kernel_rfl)

def c_ef : Con := ⟨[.ro false [.list]], [⟨false, [.val], [.bool], false⟩]⟩
def g_ef : Env := gE [] false [(149, 0, c_ad)]
theorem has_ef : Has Tryz.prog 126 c_ef φ_ef := fo (G := g_ef) (Φ := Φ_ef) (t := t_ef) (eo (getE_ok (hasAll_get ⟨has_ad, trivial⟩))) Tryz.f126 hE (by kernel_rfl)

def c_dk : Con := ⟨[.ro false [.list], .ro false [kI]], [⟨false, [.val], [kI], false⟩]⟩
def g_dk : Env := gE [] false [(67, 0, c_fk)]
theorem has_dk : Has Tryz.prog 127 c_dk φ_dk := fo (G := g_dk) (Φ := Φ_dk) (t := t_dk) (eo (getE_ok (hasAll_get ⟨has_fk, trivial⟩))) Tryz.f127 hE (by kernel_rfl)

def c_da : Con := ⟨[.ro false [.list], .ro true [kI, kI, .list]], [⟨false, [.val], [.bool], false⟩]⟩
def g_da : Env := gE [] false [(126, 0, c_ef), (49, 1, c_fe), (127, 2, c_dk)]
theorem has_da : Has Tryz.prog 90 c_da φ_da := fo (G := g_da) (Φ := Φ_da) (t := t_da) (eo (getE_ok (hasAll_get ⟨has_ef, has_fe, has_dk, trivial⟩))) Tryz.f90 hE (by kernel_rfl)

def c_az : Con := ⟨[.ro false [.list]], [⟨false, [.val], [.list], false⟩]⟩
def g_az : Env := gE [] false []
theorem has_az : Has Tryz.prog 130 c_az φ_az := fo (G := g_az) (Φ := ph []) (t := t_az) (eo (getE_ok (hasAll_get trivial))) Tryz.f130 hE (by kernel_rfl)

def c_do : Con := ⟨[.ro false [.list], .ro true [kI, kI, .list]], [⟨false, [.val], [.list], false⟩, ⟨false, [.val], [.bool], false⟩]⟩
def h_do : How := ⟨getH [(0, ⟨[kI, .list], [(6, (.sl 1000)), (16, (sI 0))], [(1000, .arr 49 [.val, .val] (.v 1))], [], 1⟩)],
  getH [],
  getH []⟩
def g_do : Env := gE [] false [(90, 0, c_da), (130, 1, c_az)]
theorem has_do : Has Tryz.prog 94 c_do φ_do := fo (G := g_do) (Φ := Φ_do) (t := t_do) (eo (getE_ok (hasAll_get ⟨has_da, has_az, trivial⟩))) Tryz.f94 h_do (by kernel_rfl)

def c_du : Con := ⟨[.ro false [.list]], [⟨false, [.val], [.list], false⟩, ⟨false, [.val], [.bool], false⟩]⟩
def h_du : How := ⟨getH [(0, ⟨[.list, .bool, kI], [(4, (.view true (.v 0))), (5, (.bool (.v 1))), (6, (sI 2))], [], [], 0⟩)],
  getH [],
  getH []⟩
def g_du : Env := gE [] false [(94, 0, c_do)]
theorem has_du : Has Tryz.prog 53 c_du φ_du := fo (G := g_du) (Φ := Φ_du) (t := t_du) (eo (getE_ok (hasAll_get ⟨has_do, trivial⟩))) Tryz.f53 h_du (by kernel_rfl)

def c_eq : Con := ⟨[.ro true [kI, kI, kI, kI]], [⟨false, [.val], [.bool], false⟩]⟩
def g_eq : Env := gE [] false [(67, 0, c_fk), (68, 1, c_dm), (69, 2, c_en)]
theorem has_eq : Has Tryz.prog 31 c_eq φ_eq := fo (G := g_eq) (Φ := Φ_eq) (t := t_eq) (eo (getE_ok (hasAll_get ⟨has_fk, has_dm, has_en, trivial⟩))) Tryz.f31 hE (by kernel_rfl)

def c_ba : Con := ⟨[.ro true [kI, kI, kI, kI]], [⟨false, [.val], [.bool], false⟩]⟩
def g_ba : Env := gE [] false []
theorem has_ba : Has Tryz.prog 54 c_ba φ_ba := fo (G := g_ba) (Φ := ph []) (t := t_ba) (eo (getE_ok (hasAll_get trivial))) Tryz.f54 hE (by kernel_rfl)

def c_aq : Con := ⟨[.ro false [.list], .ro true [kI, kI, kI, kI]], [⟨false, [.val], [kI], false⟩]⟩
def h_aq : How := ⟨getH [(0, ⟨[kI], [(4, (.int .i64 (.n 0))), (8, (sI 0))], [], [], 0⟩)],
  getH [],
  getH []⟩
def g_aq : Env := gE [] false []
theorem has_aq : Has Tryz.prog 95 c_aq φ_aq := fo (G := g_aq) (Φ := ph []) (t := t_aq) (eo (getE_ok (hasAll_get trivial))) Tryz.f95 h_aq (by kernel_rfl)

def c_an : Con := ⟨[.ro false [.list], .ro true [kI, kI, kI, kI]], [⟨false, [.val], [.bool], false⟩]⟩
def g_an : Env := gE [] false [(95, 0, c_aq)]
theorem has_an : Has Tryz.prog 55 c_an φ_an := fo (G := g_an) (Φ := Φ_an) (t := t_an) (eo (getE_ok (hasAll_get ⟨has_aq, trivial⟩))) Tryz.f55 hE (by kernel_rfl)

def c_et : Con := ⟨[.ro true [.bool, .list, kI, .list]], [⟨false, [.val], [.bool], false⟩]⟩
def h_et : How := ⟨getH [(0, ⟨[kI], [(2, (.bool (.b false))), (32, (sI 0))], [], [], 0⟩)],
  getH [(3, ⟨[], [(2, (.bool (.b false)))], [], [], 0⟩)],
  getH []⟩
def g_et : Env := gE [] false [(52, 0, c_ey), (53, 1, c_du), (31, 2, c_eq), (54, 3, c_ba), (55, 4, c_an)]
theorem has_et : Has Tryz.prog 21 c_et φ_et := fo (G := g_et) (Φ := Φ_et) (t := t_et) (eo (getE_ok (hasAll_get ⟨has_ey, has_du, has_eq, has_ba, has_an, trivial⟩))) Tryz.f21 h_et (by kernel_rfl)

def c_bh : Con := ⟨[.ro true [kI, kI, .list]], [⟨true, [.val, .val, .val], [kI, kI, .list], false⟩]⟩
def g_bh : Env := gE [] false [(130, 0, c_az)]
theorem has_bh : Has Tryz.prog 128 c_bh φ_bh := fo (G := g_bh) (Φ := Φ_bh) (t := t_bh) (eo (getE_ok (hasAll_get ⟨has_az, trivial⟩))) Tryz.f128 hE (by kernel_rfl)

def c_bu : Con := ⟨[.ro true [.list, kI], .ro false [kI], .ro false [kI]], [⟨true, [(.arr 82 [.val, .val, .val]), .val], [.list, kI], false⟩]⟩
def h_bu : How := ⟨getH [(0, ⟨[kI, .list], [(17, (sI 0))], [(2, .cells [(.sl 1000), (sI 1003)]), (1000, .arr 82 [.val, .val, .val] (.v 1))], [], 1⟩)],
  getH [],
  getH []⟩
def g_bu : Env := gE [] false [(128, 0, c_bh)]
theorem has_bu : Has Tryz.prog 101 c_bu φ_bu := fo (G := g_bu) (Φ := Φ_bu) (t := t_bu) (eo (getE_ok (hasAll_get ⟨has_bh, trivial⟩))) Tryz.f101 h_bu (by kernel_rfl)

def c_bf : Con := ⟨[.ro true [.list, kI]], [⟨true, [(.arr 82 [.val, .val, .val]), .val], [.list, kI], false⟩]⟩
def g_bf : Env := gE [] false [(101, 0, c_bu)]
theorem has_bf : Has Tryz.prog 86 c_bf φ_bf := fo (G := g_bf) (Φ := Φ_bf) (t := t_bf) (eo (getE_ok (hasAll_get ⟨has_bu, trivial⟩))) Tryz.f86 hE (by kernel_rfl)

def c_ar : Con := ⟨[.ro false [.list]], [⟨false, [(.arr 42 [.val, .val, .val, .val])], [.list], false⟩]⟩
def g_ar : Env := gE [] false []
theorem has_ar : Has Tryz.prog 87 c_ar φ_ar := fo (G := g_ar) (Φ := ph []) (t := t_ar) (eo (getE_ok (hasAll_get trivial))) Tryz.f87 hE (by kernel_rfl)

def c_bc : Con := ⟨[.ro true [.bool, .list, kI, .list]], [⟨true, [.val, .val, .val, (.arr 42 [.val, .val, .val, .val])], [.bool, .list, kI, .list], false⟩]⟩
def g_bc : Env := gE [] false [(86, 0, c_bf), (87, 1, c_ar)]
theorem has_bc : Has Tryz.prog 47 c_bc φ_bc := fo (G := g_bc) (Φ := Φ_bc) (t := t_bc) (eo (getE_ok (hasAll_get ⟨has_bf, has_ar, trivial⟩))) Tryz.f47 hE (by kernel_rfl)

def c_cb : Con := ⟨[.own true [.val, .val] [.list, kI] false, .ro false [.bool]], [⟨false, [.val], [.list], false⟩]⟩
def g_cb : Env := gE [] false []
theorem has_cb : Has Tryz.prog 88 c_cb φ_cb := fo (G := g_cb) (Φ := ph []) (t := t_cb) (eo (getE_ok (hasAll_get trivial))) Tryz.f88 hE (by kernel_rfl)

def c_bq : Con := ⟨[.ro true [.bool, .list, kI, .list], .ro false [.bool]], [⟨false, [.val], [.list], false⟩]⟩
def g_bq : Env := gE [] false [(88, 0, c_cb), (53, 1, c_du)]
theorem has_bq : Has Tryz.prog 48 c_bq φ_bq := fo (G := g_bq) (Φ := Φ_bq) (t := t_bq) (eo (getE_ok (hasAll_get ⟨has_cb, has_du, trivial⟩))) Tryz.f48 hE (by kernel_rfl)

def c_ei : Con := ⟨[.ro true [.list, kI], .ro true [kI, kI, .list]], [⟨true, [.val, .val], [.list, kI], false⟩, ⟨false, [.val], [.bool], false⟩]⟩
def g_ei : Env := gE [] false [(52, 0, c_ey), (49, 1, c_fe), (86, 2, c_bf), (128, 3, c_bh)]
theorem has_ei : Has Tryz.prog 91 c_ei φ_ei := fo (G := g_ei) (Φ := Φ_ei) (t := t_ei) (eo (getE_ok (hasAll_get ⟨has_ey, has_fe, has_bf, has_bh, trivial⟩))) Tryz.f91 hE (by kernel_rfl)

def c_bp : Con := ⟨[.ptr [.val, .val, .val, (.arr 42 [.val, .val, .val, .val])] [.bool, .list, kI, .list], .ro true [kI, kI, .list]], [⟨false, [.val], [.bool], false⟩]⟩
def g_bp : Env := gE [] false [(48, 0, c_bq), (90, 1, c_da), (91, 2, c_ei)]
theorem has_bp : Has Tryz.prog 50 c_bp φ_bp := fo (G := g_bp) (Φ := Φ_bp) (t := t_bp) (eo (getE_ok (hasAll_get ⟨has_bq, has_da, has_ei, trivial⟩))) Tryz.f50 hE (by kernel_rfl)

def c_bv : Con := ⟨[.ro true [.bool, .list, kI, .list], .ro false [.list]], [⟨true, [.val, .val, .val, (.arr 42 [.val, .val, .val, .val])], [.bool, .list, kI, .list], false⟩, ⟨false, [.val], [.bool], false⟩]⟩
def g_bv : Env := gE [] false [(21, 0, c_et), (47, 1, c_bc), (48, 2, c_bq), (49, 3, c_fe), (50, 4, c_bp)]
theorem has_bv : Has Tryz.prog 17 c_bv φ_bv := fo (G := g_bv) (Φ := Φ_bv) (t := t_bv) (eo (getE_ok (hasAll_get ⟨has_et, has_bc, has_bq, has_fe, has_bp, trivial⟩))) Tryz.f17 hE (by kernel_rfl)

def c_cq : Con := ⟨[.ro true [.bool, .list, kI, .list], .ro false [kI]], [⟨true, [.val, .val, .val, (.arr 42 [.val, .val, .val, .val])], [.bool, .list, kI, .list], false⟩, ⟨false, [.val], [.bool], false⟩]⟩
def g_cq : Env := gE [] false [(21, 0, c_et), (69, 1, c_en), (47, 2, c_bc), (50, 3, c_bp)]
theorem has_cq : Has Tryz.prog 105 c_cq φ_cq := fo (G := g_cq) (Φ := Φ_cq) (t := t_cq) (eo (getE_ok (hasAll_get ⟨has_et, has_en, has_bc, has_bp, trivial⟩))) Tryz.f105 hE (by kernel_rfl)

def c_ch : Con := ⟨[.ro true [.bool, .list, kI, .list], .ro false [kI], .ro false [kI], .ro false [kI]], [⟨false, [.val], [.bool], false⟩]⟩
def g_ch : Env := gE [] false [(55, 0, c_an)]
theorem has_ch : Has Tryz.prog 96 c_ch φ_ch := fo (G := g_ch) (Φ := Φ_ch) (t := t_ch) (eo (getE_ok (hasAll_get ⟨has_an, trivial⟩))) Tryz.f96 hE (by kernel_rfl)

def c_bn : Con := ⟨[.ro true [.bool, .list, kI, .list]], [⟨false, [.val], [.list], false⟩]⟩
def h_bn : How := ⟨getH [(0, ⟨[kI, .list], [(4, (.sl 1000)), (23, (sI 0))], [(1000, .arr 42 [.val, .val, .val, .val] (.v 1))], [], 1⟩), (2, ⟨[kI, .list], [(4, (.sl 1000)), (38, (sI 0))], [(1000, .arr 42 [.val, .val, .val, .val] (.v 1))], [2], 1⟩)],
  getH [],
  getH []⟩
def g_bn : Env := gE [] false [(48, 0, c_bq), (96, 1, c_ch)]
theorem has_bn : Has Tryz.prog 56 c_bn φ_bn := fo (G := g_bn) (Φ := Φ_bn) (t := t_bn) (eo (getE_ok (hasAll_get ⟨has_bq, has_ch, trivial⟩))) Tryz.f56 h_bn (by kernel_rfl)

def c_bj : Con := ⟨[.ptr [.val, .val, .val, (.arr 42 [.val, .val, .val, .val]), (.arr 67 [.val, .val, .val, .val, .val]), (.arr 42 [.val, .val, .val, .val])] [.bool, .list, kI, .list, .list, .list], .ro true [kI, kI, kI, kI]], []⟩
def g_bj : Env := gE [] false []
theorem has_bj : Has Tryz.prog 106 c_bj φ_bj := fo (G := g_bj) (Φ := ph []) (t := t_bj) (eo (getE_ok (hasAll_get trivial))) Tryz.f106 hE (by kernel_rfl)

theorem has_ao : Has Tryz.prog 134 (delCon 42) φ_ao := delete_has (ρ := ⟨fun _ => 134, fun t => match t with | 22 => 26 | 23 => 42 | 3 => 3 | 4 => 4 | _ => 0, fun x => x⟩) ⟨mixed_ok, ⟨Tryz.f134.name, by kernel_rfl, by kernel_rfl⟩, by kernel_rfl, by kernel_rfl, by kernel_rfl, by kernel_rfl⟩
def c_ao : Con := delCon 42

def c_bg : Con := ⟨[.ro true [.bool, .list, kI, .list], .ro false [kI], .ro false [kI], .ro false [.list]], [⟨false, [.val], [.bool], false⟩, ⟨false, [.val], [.bool], false⟩]⟩
def h_bg : How := ⟨getH [(0, ⟨[.bool, .bool, kI], [(8, (.bool (.v 0))), (9, (.bool (.v 1))), (15, (sI 2))], [], [], 0⟩)],
  getH [],
  getH []⟩
def g_bg : Env := gE [] false [(96, 0, c_ch)]
theorem has_bg : Has Tryz.prog 131 c_bg φ_bg := fo (G := g_bg) (Φ := Φ_bg) (t := t_bg) (eo (getE_ok (hasAll_get ⟨has_ch, trivial⟩))) Tryz.f131 h_bg (by kernel_rfl)

def c_be : Con := ⟨[.ptr [.val, .val, .val, (.arr 42 [.val, .val, .val, .val])] [.bool, .list, kI, .list], .ro false [kI]], []⟩
def h_be : How := ⟨getH [],
  getH [(9, ⟨[.bool], [(82, (.bool (.v 0)))], [], [], 0⟩), (7, ⟨[.bool], [(71, (.bool (.v 0)))], [], [], 0⟩)],
  getH []⟩
def g_be : Env := gE [] false [(48, 0, c_bq), (131, 1, c_bg), (127, 2, c_dk), (50, 3, c_bp)]
theorem has_be : Has Tryz.prog 98 c_be φ_be := fo (G := g_be) (Φ := Φ_be) (t := t_be) (eo (getE_ok (hasAll_get ⟨has_bq, has_bg, has_dk, has_bp, trivial⟩))) Tryz.f98 h_be (by kernel_rfl)

def c_bx : Con := ⟨[.ptr [.val, .val, .val, (.arr 42 [.val, .val, .val, .val])] [.bool, .list, kI, .list], .ro true [kI, kI, kI, kI]], []⟩
def g_bx : Env := gE [] false [(31, 0, c_eq), (54, 1, c_ba), (48, 2, c_bq), (55, 3, c_an), (98, 4, c_be)]
theorem has_bx : Has Tryz.prog 60 c_bx φ_bx := fo (G := g_bx) (Φ := Φ_bx) (t := t_bx) (eo (getE_ok (hasAll_get ⟨has_eq, has_ba, has_bq, has_an, has_be, trivial⟩))) Tryz.f60 hE (by kernel_rfl)

def c_dc : Con := ⟨[.ro false [kI]], [⟨true, [.val, (.arr 69 [.val, .val])], [kI, .list], false⟩, ⟨false, [.val], [.bool], false⟩]⟩
def g_dc : Env := gE [] false [(67, 0, c_fk)]
theorem has_dc : Has Tryz.prog 145 c_dc φ_dc := fo (G := g_dc) (Φ := Φ_dc) (t := t_dc) (eo (getE_ok (hasAll_get ⟨has_fk, trivial⟩))) Tryz.f145 hE (by kernel_rfl)

def c_dh : Con := ⟨[.ro true [kI, kI]], [⟨false, [.val], [.bool], false⟩]⟩
def g_dh : Env := gE [] false [(67, 0, c_fk)]
theorem has_dh : Has Tryz.prog 165 c_dh φ_dh := fo (G := g_dh) (Φ := Φ_dh) (t := t_dh) (eo (getE_ok (hasAll_get ⟨has_fk, trivial⟩))) Tryz.f165 hE (by kernel_rfl)

def c_bz : Con := ⟨[.ro true [kI, kI]], [⟨false, [.val], [.bool], false⟩]⟩
def g_bz : Env := gE [] false [(165, 0, c_dh)]
theorem has_bz : Has Tryz.prog 164 c_bz φ_bz := fo (G := g_bz) (Φ := Φ_bz) (t := t_bz) (eo (getE_ok (hasAll_get ⟨has_dh, trivial⟩))) Tryz.f164 hE (by kernel_rfl)

def c_ah : Con := ⟨[.ro false [.list], .fn 164 []], [⟨false, [.val], [kI], false⟩]⟩
def h_ah : How := ⟨getH [(0, ⟨[kI], [(4, (.int .i64 (.n 0))), (8, (sI 0))], [], [], 0⟩)],
  getH [],
  getH []⟩
def g_ah : Env := gE [] false [(164, 0, c_bz)]
theorem has_ah : Has Tryz.prog 168 c_ah φ_ah := fo (G := g_ah) (Φ := Φ_ah) (t := t_ah) (eo (getE_ok (hasAll_get ⟨has_bz, trivial⟩))) Tryz.f168 h_ah (by kernel_rfl)

def c_ae : Con := ⟨[.ro false [.list], .fn 164 []], [⟨false, [.val], [.bool], false⟩]⟩
def g_ae : Env := gE [] false [(168, 0, c_ah)]
theorem has_ae : Has Tryz.prog 166 c_ae φ_ae := fo (G := g_ae) (Φ := Φ_ae) (t := t_ae) (eo (getE_ok (hasAll_get ⟨has_ah, trivial⟩))) Tryz.f166 hE (by kernel_rfl)

def c_bk : Con := ⟨[.ro true [kI, .list]], [⟨false, [.val], [kI], false⟩]⟩
def h_bk : How := ⟨getH [(0, ⟨[kI, kI], [(3, (sI 0)), (11, (sI 1))], [], [], 0⟩)],
  getH [],
  getH []⟩
def g_bk : Env := gE [] false []
theorem has_bk : Has Tryz.prog 161 c_bk φ_bk := fo (G := g_bk) (Φ := ph []) (t := t_bk) (eo (getE_ok (hasAll_get trivial))) Tryz.f161 h_bk (by kernel_rfl)

def c_dv : Con := ⟨[.ro true [kI, .list]], [⟨false, [.val], [.bool], false⟩]⟩
def g_dv : Env := gE [] false [(67, 0, c_fk), (166, 1, c_ae), (161, 2, c_bk)]
theorem has_dv : Has Tryz.prog 160 c_dv φ_dv := fo (G := g_dv) (Φ := Φ_dv) (t := t_dv) (eo (getE_ok (hasAll_get ⟨has_fk, has_ae, has_bk, trivial⟩))) Tryz.f160 hE (by kernel_rfl)

def c_dd : Con := ⟨[.ro true [kI, .list], .ro true [kI, kI, .list]], [⟨false, [.val], [.bool], false⟩]⟩
def g_dd : Env := gE [] false [(160, 0, c_dv), (49, 1, c_fe), (161, 2, c_bk)]
theorem has_dd : Has Tryz.prog 152 c_dd φ_dd := fo (G := g_dd) (Φ := Φ_dd) (t := t_dd) (eo (getE_ok (hasAll_get ⟨has_dv, has_fe, has_bk, trivial⟩))) Tryz.f152 hE (by kernel_rfl)

def c_ap : Con := ⟨[.ro false [.list]], [⟨false, [(.arr 69 [.val, .val])], [.list], false⟩]⟩
def g_ap : Env := gE [] false []
theorem has_ap : Has Tryz.prog 153 c_ap φ_ap := fo (G := g_ap) (Φ := ph []) (t := t_ap) (eo (getE_ok (hasAll_get trivial))) Tryz.f153 hE (by kernel_rfl)

def c_dr : Con := ⟨[.ro true [kI, .list], .ro true [kI, kI, .list]], [⟨true, [.val, .val], [kI, .list], false⟩, ⟨false, [.val], [.bool], false⟩]⟩
def h_dr : How := ⟨getH [],
  getH [(4, ⟨[.list], [(6, (.ptr 1000 0))], [(1000, .cells [(sI 1000), (.sl 1001)]), (1001, .arr 69 [.val, .val] (.v 0))], [], 2⟩)],
  getH []⟩
def g_dr : Env := gE [] false [(152, 0, c_dd), (153, 1, c_ap)]
theorem has_dr : Has Tryz.prog 146 c_dr φ_dr := fo (G := g_dr) (Φ := Φ_dr) (t := t_dr) (eo (getE_ok (hasAll_get ⟨has_dd, has_ap, trivial⟩))) Tryz.f146 h_dr (by kernel_rfl)

def c_ds : Con := ⟨[.ro false [kI], .ro false [.list]], [⟨true, [.val, .val], [kI, .list], false⟩, ⟨false, [.val], [.bool], false⟩]⟩
def h_ds : How := ⟨getH [(0, ⟨[.bool, kI, kI, .list], [(7, (.bool (.v 0))), (8, (sI 1))], [(2, .cells [(sI 2), (.view true (.v 3))])], [], 0⟩)],
  getH [],
  getH []⟩
def g_ds : Env := gE [] false [(145, 0, c_dc), (146, 1, c_dr)]
theorem has_ds : Has Tryz.prog 121 c_ds φ_ds := fo (G := g_ds) (Φ := Φ_ds) (t := t_ds) (eo (getE_ok (hasAll_get ⟨has_dc, has_dr, trivial⟩))) Tryz.f121 h_ds (by kernel_rfl)

def c_ed : Con := ⟨[.ro true [kI, .bool, kI, .list, kI]], [⟨false, [.val], [.bool], false⟩]⟩
def g_ed : Env := gE [] false [(68, 0, c_dm), (52, 1, c_ey), (121, 2, c_ds)]
theorem has_ed : Has Tryz.prog 77 c_ed φ_ed := fo (G := g_ed) (Φ := Φ_ed) (t := t_ed) (eo (getE_ok (hasAll_get ⟨has_dm, has_ey, has_ds, trivial⟩))) Tryz.f77 hE (by kernel_rfl)

def c_av : Con := ⟨[.ro true [kI, .bool, kI, .list, kI]], [⟨true, [.val, .val, .val, .val, .val], [kI, .bool, kI, .list, kI], false⟩]⟩
def g_av : Env := gE [] false [(86, 0, c_bf)]
theorem has_av : Has Tryz.prog 137 c_av φ_av := fo (G := g_av) (Φ := Φ_av) (t := t_av) (eo (getE_ok (hasAll_get ⟨has_bf, trivial⟩))) Tryz.f137 hE (by kernel_rfl)

def c_ax : Con := ⟨[.ro true [kI, .bool, kI, .list, kI], .ro false [.bool]], [⟨true, [.val, .val], [kI, .list], false⟩]⟩
def g_ax : Env := gE [] false [(88, 0, c_cb), (121, 1, c_ds)]
theorem has_ax : Has Tryz.prog 78 c_ax φ_ax := fo (G := g_ax) (Φ := Φ_ax) (t := t_ax) (eo (getE_ok (hasAll_get ⟨has_cb, has_ds, trivial⟩))) Tryz.f78 hE (by kernel_rfl)

def c_as : Con := ⟨[.ro true [kI, .bool, kI, .list, kI], .ro true [kI, kI, kI, kI]], [⟨false, [.val], [kI], false⟩]⟩
def h_as : How := ⟨getH [],
  getH [(5, ⟨[.bool], [(33, (.bool (.v 0)))], [], [], 0⟩), (3, ⟨[.bool], [(25, (.bool (.v 0)))], [], [], 0⟩)],
  getH []⟩
def g_as : Env := gE [] false [(78, 0, c_ax)]
theorem has_as : Has Tryz.prog 155 c_as φ_as := fo (G := g_as) (Φ := Φ_as) (t := t_as) (eo (getE_ok (hasAll_get ⟨has_ax, trivial⟩))) Tryz.f155 h_as (by kernel_rfl)

def c_cf : Con := ⟨[.ro true [kI, .bool, kI, .list, kI], .ro true [kI, kI, kI, kI]], [⟨true, [.val, .val, .val, .val, .val], [kI, .bool, kI, .list, kI], false⟩, ⟨true, [.val, .val, .val, .val], [kI, kI, kI, kI], false⟩, ⟨false, [.val], [.bool], false⟩]⟩
def h_cf : How := ⟨getH [],
  getH [(9, ⟨[.list], [], [(5, .cells [(sI 1005), (sI 1007), (.sl 1000)]), (1000, .arr 3 [.val] (.v 0))], [], 1⟩)],
  getH []⟩
def g_cf : Env := gE [] false [(77, 0, c_ed), (137, 1, c_av), (31, 2, c_eq), (54, 3, c_ba), (78, 4, c_ax), (152, 5, c_dd), (91, 6, c_ei), (155, 7, c_as)]
theorem has_cf : Has Tryz.prog 150 c_cf φ_cf := fo (G := g_cf) (Φ := Φ_cf) (t := t_cf) (eo (getE_ok (hasAll_get ⟨has_ed, has_av, has_eq, has_ba, has_ax, has_dd, has_ei, has_as, trivial⟩))) Tryz.f150 h_cf (by kernel_rfl)

def c_aw : Con := ⟨[.ptr [.val, .val, .val, (.arr 42 [.val, .val, .val, .val]), (.arr 67 [.val, .val, .val, .val, .val]), (.arr 42 [.val, .val, .val, .val])] [.bool, .list, kI, .list, .list, .list], .ro true [kI, kI, kI, kI]], [⟨true, [.val, .val, .val, .val], [kI, kI, kI, kI], false⟩, ⟨false, [.val], [.bool], false⟩]⟩
def g_aw : Env := gE [] false [(54, 0, c_ba), (60, 1, c_bx), (150, 2, c_cf)]
theorem has_aw : Has Tryz.prog 135 c_aw φ_aw := fo (G := g_aw) (Φ := Φ_aw) (t := t_aw) (eo (getE_ok (hasAll_get ⟨has_ba, has_bx, has_cf, trivial⟩))) Tryz.f135 hE (by kernel_rfl)

def c_ce : Con := ⟨[.ptr [.val, .val, .val, (.arr 42 [.val, .val, .val, .val]), (.arr 67 [.val, .val, .val, .val, .val]), (.arr 42 [.val, .val, .val, .val])] [.bool, .list, kI, .list, .list, .list], .ro true [kI, kI, kI, .list]], []⟩
def h_ce : How := ⟨getH [],
  getH [(3, ⟨[kI, kI, kI, kI], [(4, (.ptr 1000 0))], [(1000, .cells [(sI 0), (sI 1), (sI 2), (sI 3)])], [], 1⟩)],
  getH []⟩
def g_ce : Env := gE [] false [(67, 0, c_fk), (106, 1, c_bj), (134, 2, c_ao), (135, 3, c_aw)]
theorem has_ce : Has Tryz.prog 107 c_ce φ_ce := fo (G := g_ce) (Φ := Φ_ce) (t := t_ce) (eo (getE_ok (hasAll_get ⟨has_fk, has_bj, has_ao, has_aw, trivial⟩))) Tryz.f107 h_ce (by kernel_rfl)

def c_cz : Con := ⟨[.ro true [.list, kI]], [⟨true, [.val, .val], [.list, kI], false⟩]⟩
def g_cz : Env := gE [] false [(52, 0, c_ey), (101, 1, c_bu)]
theorem has_cz : Has Tryz.prog 136 c_cz φ_cz := fo (G := g_cz) (Φ := Φ_cz) (t := t_cz) (eo (getE_ok (hasAll_get ⟨has_ey, has_bu, trivial⟩))) Tryz.f136 hE (by kernel_rfl)

def c_cg : Con := ⟨[.ro true [.bool, .list, kI, .list]], [⟨true, [.val, .val, .val, (.arr 42 [.val, .val, .val, .val])], [.bool, .list, kI, .list], false⟩]⟩
def g_cg : Env := gE [] false [(21, 0, c_et), (47, 1, c_bc), (136, 2, c_cz)]
theorem has_cg : Has Tryz.prog 109 c_cg φ_cg := fo (G := g_cg) (Φ := Φ_cg) (t := t_cg) (eo (getE_ok (hasAll_get ⟨has_et, has_bc, has_cz, trivial⟩))) Tryz.f109 hE (by kernel_rfl)

def c_br : Con := ⟨[.ro true [kI, .bool, kI, .list, kI]], [⟨true, [.val, .val, .val, .val, .val], [kI, .bool, kI, .list, kI], false⟩]⟩
def g_br : Env := gE [] false [(77, 0, c_ed), (137, 1, c_av), (136, 2, c_cz)]
theorem has_br : Has Tryz.prog 110 c_br φ_br := fo (G := g_br) (Φ := Φ_br) (t := t_br) (eo (getE_ok (hasAll_get ⟨has_ed, has_av, has_cz, trivial⟩))) Tryz.f110 hE (by kernel_rfl)

def c_ab : Con := ⟨[.ptr [.val, .val, .val, (.arr 42 [.val, .val, .val, .val]), (.arr 67 [.val, .val, .val, .val, .val]), (.arr 42 [.val, .val, .val, .val])] [.bool, .list, kI, .list, .list, .list], .ro false [kI], .fn 109 [], .fn 110 []], []⟩
def g_ab : Env := gE [] false [(68, 0, c_dm), (109, 1, c_cg), (110, 2, c_br)]
theorem has_ab : Has Tryz.prog 108 c_ab φ_ab := fo (G := g_ab) (Φ := Φ_ab) (t := t_ab) (eo (getE_ok (hasAll_get ⟨has_dm, has_cg, has_br, trivial⟩))) Tryz.f108 hE (by kernel_rfl)

def c_dy : Con := ⟨[.ro true [.list, kI], .ro false [kI]], [⟨true, [.val, .val], [.list, kI], false⟩]⟩
def g_dy : Env := gE [] false [(52, 0, c_ey), (101, 1, c_bu)]
theorem has_dy : Has Tryz.prog 70 c_dy φ_dy := fo (G := g_dy) (Φ := Φ_dy) (t := t_dy) (eo (getE_ok (hasAll_get ⟨has_ey, has_bu, trivial⟩))) Tryz.f70 hE (by kernel_rfl)

def c_cn : Con := ⟨[.ro true [.bool, .list, kI, .list], .ro false [kI]], [⟨true, [.val, .val, .val, (.arr 42 [.val, .val, .val, .val])], [.bool, .list, kI, .list], false⟩]⟩
def g_cn : Env := gE [] false [(21, 0, c_et), (70, 1, c_dy)]
theorem has_cn : Has Tryz.prog 33 c_cn φ_cn := fo (G := g_cn) (Φ := Φ_cn) (t := t_cn) (eo (getE_ok (hasAll_get ⟨has_et, has_dy, trivial⟩))) Tryz.f33 hE (by kernel_rfl)

def c_bs : Con := ⟨[.ro true [.bool, .list, kI, .list], .rptr [kI, kI, kI, .list]], [⟨true, [.val, .val, .val, (.arr 42 [.val, .val, .val, .val])], [.bool, .list, kI, .list], false⟩]⟩
def g_bs : Env := gE [] false [(33, 0, c_cn)]
theorem has_bs : Has Tryz.prog 111 c_bs φ_bs := fo (G := g_bs) (Φ := Φ_bs) (t := t_bs) (eo (getE_ok (hasAll_get ⟨has_cn, trivial⟩))) Tryz.f111 hE (by kernel_rfl)

def c_cd : Con := ⟨[.ro true [kI, .bool, kI, .list, kI], .ro false [kI]], [⟨true, [.val, .val, .val, .val, .val], [kI, .bool, kI, .list, kI], false⟩]⟩
def g_cd : Env := gE [] false [(77, 0, c_ed), (70, 1, c_dy)]
theorem has_cd : Has Tryz.prog 113 c_cd φ_cd := fo (G := g_cd) (Φ := Φ_cd) (t := t_cd) (eo (getE_ok (hasAll_get ⟨has_ed, has_dy, trivial⟩))) Tryz.f113 hE (by kernel_rfl)

def c_bi : Con := ⟨[.ro true [kI, .bool, kI, .list, kI], .rptr [kI, kI, kI, .list]], [⟨true, [.val, .val, .val, .val, .val], [kI, .bool, kI, .list, kI], false⟩]⟩
def g_bi : Env := gE [] false [(113, 0, c_cd)]
theorem has_bi : Has Tryz.prog 112 c_bi φ_bi := fo (G := g_bi) (Φ := Φ_bi) (t := t_bi) (eo (getE_ok (hasAll_get ⟨has_cd, trivial⟩))) Tryz.f112 hE (by kernel_rfl)

def c_aa : Con := ⟨[.ptr [.val, .val, .val, (.arr 42 [.val, .val, .val, .val]), (.arr 67 [.val, .val, .val, .val, .val]), (.arr 42 [.val, .val, .val, .val])] [.bool, .list, kI, .list, .list, .list], .ro false [kI], .fn 111 [[kI, kI, kI, .list]], .fn 112 [[kI, kI, kI, .list]]], []⟩
def g_aa : Env := gE [] false [(68, 0, c_dm), (111, 1, c_bs), (112, 2, c_bi)]
theorem has_aa : Has Tryz.prog 108 c_aa φ_aa := fo (G := g_aa) (Φ := Φ_aa) (t := t_aa) (eo (getE_ok (hasAll_get ⟨has_dm, has_bs, has_bi, trivial⟩))) Tryz.f108 hE (by kernel_rfl)

def c_cx : Con := ⟨[.ro true [.bool, .list, kI, .list]], [⟨true, [.val, .val, .val, (.arr 42 [.val, .val, .val, .val])], [.bool, .list, kI, .list], false⟩]⟩
def g_cx : Env := gE [] false [(21, 0, c_et), (47, 1, c_bc)]
theorem has_cx : Has Tryz.prog 114 c_cx φ_cx := fo (G := g_cx) (Φ := Φ_cx) (t := t_cx) (eo (getE_ok (hasAll_get ⟨has_et, has_bc, trivial⟩))) Tryz.f114 hE (by kernel_rfl)

def c_bt : Con := ⟨[.ro true [kI, .bool, kI, .list, kI]], [⟨true, [.val, .val, .val, .val, .val], [kI, .bool, kI, .list, kI], false⟩]⟩
def g_bt : Env := gE [] false [(77, 0, c_ed), (137, 1, c_av)]
theorem has_bt : Has Tryz.prog 115 c_bt φ_bt := fo (G := g_bt) (Φ := Φ_bt) (t := t_bt) (eo (getE_ok (hasAll_get ⟨has_ed, has_av, trivial⟩))) Tryz.f115 hE (by kernel_rfl)

def c_ac : Con := ⟨[.ptr [.val, .val, .val, (.arr 42 [.val, .val, .val, .val]), (.arr 67 [.val, .val, .val, .val, .val]), (.arr 42 [.val, .val, .val, .val])] [.bool, .list, kI, .list, .list, .list], .ro false [kI], .fn 114 [], .fn 115 []], []⟩
def g_ac : Env := gE [] false [(68, 0, c_dm), (114, 1, c_cx), (115, 2, c_bt)]
theorem has_ac : Has Tryz.prog 108 c_ac φ_ac := fo (G := g_ac) (Φ := Φ_ac) (t := t_ac) (eo (getE_ok (hasAll_get ⟨has_dm, has_cx, has_bt, trivial⟩))) Tryz.f108 hE (by kernel_rfl)

def c_cp : Con := ⟨[.ptr [.val, .val, .val, (.arr 42 [.val, .val, .val, .val]), (.arr 67 [.val, .val, .val, .val, .val]), (.arr 42 [.val, .val, .val, .val])] [.bool, .list, kI, .list, .list, .list], .ro true [kI, kI, kI, .list]], []⟩
def h_cp : How := ⟨getH [],
  getH [(17, ⟨[.bool], [(65, (.bool (.v 0)))], [], [], 0⟩)],
  getH []⟩
def g_cp : Env := gE [] false [(17, 0, c_bv), (105, 1, c_cq), (56, 2, c_bn), (67, 3, c_fk), (106, 4, c_bj), (107, 5, c_ce), (108, 6, c_ab), (108, 7, c_aa), (108, 8, c_ac)]
theorem has_cp : Has Tryz.prog 73 c_cp φ_cp := fo (G := g_cp) (Φ := Φ_cp) (t := t_cp) (eo (getE_ok (hasAll_get ⟨has_bv, has_cq, has_bn, has_fk, has_bj, has_ce, has_ab, has_aa, has_ac, trivial⟩))) Tryz.f73 h_cp (by kernel_rfl)

def c_ca : Con := ⟨[.ro false [.list], .ro false [.list]], [⟨true, [.val, .val, .val, .val, .val, .val], [.bool, .list, kI, .list, .list, .list], false⟩, ⟨false, [.val], [.bool], false⟩]⟩
def h_ca : How := ⟨getH [(0, ⟨[kI, .bool, .list, kI, .list, .list, .list], [(25, (sI 0))], [(4, .cells [(.bool (.v 1)), (.view true (.v 2)), (sI 3), (.sl 1000), (.sl 1001), (.sl 1002)]), (1000, .arr 42 [.val, .val, .val, .val] (.v 4)), (1001, .arr 67 [.val, .val, .val, .val, .val] (.v 5)), (1002, .arr 42 [.val, .val, .val, .val] (.v 6))], [1, 2, 3], 3⟩)],
  getH [],
  getH []⟩
def g_ca : Env := gE [] false [(72, 0, c_df), (73, 1, c_cp)]
theorem has_ca : Has Tryz.prog 36 c_ca φ_ca := fo (G := g_ca) (Φ := Φ_ca) (t := t_ca) (eo (getE_ok (hasAll_get ⟨has_df, has_cp, trivial⟩))) Tryz.f36 h_ca (by kernel_rfl)

def c_by : Con := ⟨[.ro false [.list], .ro false [.list]], [⟨true, [.val, .val, .val, .val, .val, .val], [.bool, .list, kI, .list, .list, .list], false⟩, ⟨false, [.val], [.bool], false⟩]⟩
def h_by : How := ⟨getH [(0, ⟨[kI, .bool, kI, .list, .list, .list, .list], [(8, (sI 0))], [(5, .cells [(.bool (.v 1)), (.sl 1000), (sI 2), (.sl 1001), (.sl 1002), (.sl 1003)]), (1000, .arr 82 [.val, .val, .val] (.v 3)), (1001, .arr 42 [.val, .val, .val, .val] (.v 4)), (1002, .arr 67 [.val, .val, .val, (.arr 82 [.val, .val, .val]), .val] (.v 5)), (1003, .arr 42 [.val, .val, .val, .val] (.v 6))], [1, 2, 3, 4], 4⟩)],
  getH [],
  getH []⟩
def g_by : Env := gE rowsS false [(74, 0, c_co), (75, 1, c_fa)]
theorem has_by : Has Tryz.prog 37 c_by φ_by := fo (G := g_by) (Φ := Φ_by) (t := t_by) (eo (getE_ok (hasAll_get ⟨has_co, has_fa, trivial⟩))) Tryz.f37 h_by (by kernel_rfl)

def c_ek : Con := ⟨[.ro false [.list], .ro false [.list]], [⟨false, [.val], [.bool], false⟩]⟩
def h_ek : How := ⟨getH [(0, ⟨[kI], [(4, (.bool (.b false))), (5, (sI 0))], [], [], 0⟩)],
  getH [],
  getH []⟩
def g_ek : Env := gE [] false []
theorem has_ek : Has Tryz.prog 28 c_ek φ_ek := fo (G := g_ek) (Φ := ph []) (t := t_ek) (eo (getE_ok (hasAll_get trivial))) Tryz.f28 h_ek (by kernel_rfl)

def c_fh : Con := ⟨[.ro true [kI, kI, .list], .ro true [kI, kI, .list]], [⟨false, [.val], [.bool], false⟩]⟩
def g_fh : Env := gE [] false [(28, 0, c_ek)]
theorem has_fh : Has Tryz.prog 66 c_fh φ_fh := fo (G := g_fh) (Φ := Φ_fh) (t := t_fh) (eo (getE_ok (hasAll_get ⟨has_ek, trivial⟩))) Tryz.f66 hE (by kernel_rfl)

def c_ew : Con := ⟨[.ro false [.list], .ro false [.list]], [⟨false, [.val], [.bool], false⟩]⟩
def h_ew : How := ⟨getH [(0, ⟨[kI], [(4, (.bool (.b false))), (5, (sI 0))], [], [], 0⟩)],
  getH [],
  getH []⟩
def g_ew : Env := gE [] false [(66, 0, c_fh)]
theorem has_ew : Has Tryz.prog 30 c_ew φ_ew := fo (G := g_ew) (Φ := Φ_ew) (t := t_ew) (eo (getE_ok (hasAll_get ⟨has_fh, trivial⟩))) Tryz.f30 h_ew (by kernel_rfl)

def c_ez : Con := ⟨[.ro true [.list, kI], .ro true [.list, kI]], [⟨false, [.val], [.bool], false⟩]⟩
def g_ez : Env := gE [] false [(30, 0, c_ew)]
theorem has_ez : Has Tryz.prog 51 c_ez φ_ez := fo (G := g_ez) (Φ := Φ_ez) (t := t_ez) (eo (getE_ok (hasAll_get ⟨has_ew, trivial⟩))) Tryz.f51 hE (by kernel_rfl)

def c_dz : Con := ⟨[.ro false [.list], .ro false [.list]], [⟨false, [.val], [.bool], false⟩]⟩
def h_dz : How := ⟨getH [(0, ⟨[kI], [(4, (.bool (.b false))), (5, (sI 0))], [], [], 0⟩)],
  getH [],
  getH []⟩
def g_dz : Env := gE [] false []
theorem has_dz : Has Tryz.prog 29 c_dz φ_dz := fo (G := g_dz) (Φ := ph []) (t := t_dz) (eo (getE_ok (hasAll_get trivial))) Tryz.f29 h_dz (by kernel_rfl)

def c_em : Con := ⟨[.ro true [.bool, .list, kI, .list], .ro true [.bool, .list, kI, .list]], [⟨false, [.val], [.bool], false⟩]⟩
def g_em : Env := gE [] false [(51, 0, c_ez), (29, 1, c_dz)]
theorem has_em : Has Tryz.prog 18 c_em φ_em := fo (G := g_em) (Φ := Φ_em) (t := t_em) (eo (getE_ok (hasAll_get ⟨has_ez, has_dz, trivial⟩))) Tryz.f18 hE (by kernel_rfl)

def c_dx : Con := ⟨[.ro true [kI, .bool, kI, .list, kI], .ro true [kI, .bool, kI, .list, kI]], [⟨false, [.val], [.bool], false⟩]⟩
def g_dx : Env := gE [] false [(51, 0, c_ez)]
theorem has_dx : Has Tryz.prog 76 c_dx φ_dx := fo (G := g_dx) (Φ := Φ_dx) (t := t_dx) (eo (getE_ok (hasAll_get ⟨has_ez, trivial⟩))) Tryz.f76 hE (by kernel_rfl)

def c_dt : Con := ⟨[.ro true [.bool, .list, kI, .list, .list, .list], .ro true [.bool, .list, kI, .list, .list, .list]], [⟨false, [.val], [.bool], false⟩]⟩
def h_dt : How := ⟨getH [(0, ⟨[kI], [(4, (.bool (.b false))), (5, (sI 0))], [], [], 0⟩)],
  getH [],
  getH []⟩
def g_dt : Env := gE [] false [(18, 0, c_em), (29, 1, c_dz), (76, 2, c_dx)]
theorem has_dt : Has Tryz.prog 38 c_dt φ_dt := fo (G := g_dt) (Φ := Φ_dt) (t := t_dt) (eo (getE_ok (hasAll_get ⟨has_em, has_dz, has_dx, trivial⟩))) Tryz.f38 h_dt (by kernel_rfl)

def c_ck : Con := ⟨[.ro true [.bool, .list, kI, .list], .ro false [.bool]], [⟨false, [.val], [.list], false⟩]⟩
def g_ck : Env := gE [] false [(21, 0, c_et), (48, 1, c_bq)]
theorem has_ck : Has Tryz.prog 20 c_ck φ_ck := fo (G := g_ck) (Φ := Φ_ck) (t := t_ck) (eo (getE_ok (hasAll_get ⟨has_et, has_bq, trivial⟩))) Tryz.f20 hE (by kernel_rfl)

def c_bd : Con := ⟨[.own false [.val] [.list] false], [⟨false, [.val], [.bool], false⟩]⟩
def h_bd : How := ⟨getH [(0, ⟨[kI], [(2, (.bool (.b false))), (9, (sI 0))], [], [], 0⟩)],
  getH [],
  getH []⟩
def g_bd : Env := gE [] false [(35, 0, c_at), (36, 1, c_ca), (37, 2, c_by), (38, 3, c_dt), (20, 4, c_ck)]
theorem has_bd : Has Tryz.prog 11 c_bd φ_bd := fo (G := g_bd) (Φ := Φ_bd) (t := t_bd) (eo (getE_ok (hasAll_get ⟨has_at, has_ca, has_by, has_dt, has_ck, trivial⟩))) Tryz.f11 h_bd (by kernel_rfl)

def c_bb : Con := ⟨[.own false [.val] [.list] false], [⟨false, [.val], [.bool], false⟩]⟩
def h_bb : How := ⟨getH [(0, ⟨[kI], [(2, (.bool (.b false))), (10, (sI 0))], [], [], 0⟩)],
  getH [],
  getH []⟩
def g_bb : Env := gE [] false [(35, 0, c_at), (36, 1, c_ca), (37, 2, c_by), (38, 3, c_dt), (20, 4, c_ck), (31, 5, c_eq)]
theorem has_bb : Has Tryz.prog 12 c_bb φ_bb := fo (G := g_bb) (Φ := Φ_bb) (t := t_bb) (eo (getE_ok (hasAll_get ⟨has_at, has_ca, has_by, has_dt, has_ck, has_eq, trivial⟩))) Tryz.f12 h_bb (by kernel_rfl)

def c_bl : Con := ⟨[.ro true [kI, .bool, kI, .list, kI], .ro false [.bool]], [⟨true, [.val, .val], [kI, .list], false⟩]⟩
def g_bl : Env := gE [] false [(77, 0, c_ed), (78, 1, c_ax)]
theorem has_bl : Has Tryz.prog 39 c_bl φ_bl := fo (G := g_bl) (Φ := Φ_bl) (t := t_bl) (eo (getE_ok (hasAll_get ⟨has_ed, has_ax, trivial⟩))) Tryz.f39 hE (by kernel_rfl)

def c_ay : Con := ⟨[.own false [.val] [.list] false], [⟨false, [.val], [.bool], false⟩]⟩
def h_ay : How := ⟨getH [(0, ⟨[kI], [(2, (.bool (.b false))), (9, (sI 0))], [], [], 0⟩)],
  getH [],
  getH []⟩
def g_ay : Env := gE [] false [(35, 0, c_at), (36, 1, c_ca), (37, 2, c_by), (38, 3, c_dt), (39, 4, c_bl)]
theorem has_ay : Has Tryz.prog 13 c_ay φ_ay := fo (G := g_ay) (Φ := Φ_ay) (t := t_ay) (eo (getE_ok (hasAll_get ⟨has_at, has_ca, has_by, has_dt, has_bl, trivial⟩))) Tryz.f13 h_ay (by kernel_rfl)

def c_au : Con := ⟨[.own false [.val] [.list] false], [⟨false, [.val], [.bool], false⟩]⟩
def h_au : How := ⟨getH [(4, ⟨[kI], [(2, (.bool (.b false))), (15, (sI 0))], [], [], 0⟩), (2, ⟨[kI], [(2, (.bool (.b false))), (13, (sI 0))], [], [], 0⟩), (0, ⟨[kI, .list], [(9, (.sl 1000)), (10, (sI 0))], [(1000, .arr 75 [.val, .val, .val, .val] (.v 1))], [2], 1⟩)],
  getH [],
  getH []⟩
def g_au : Env := gE [] false [(35, 0, c_at), (36, 1, c_ca), (37, 2, c_by), (38, 3, c_dt), (20, 4, c_ck)]
theorem has_au : Has Tryz.prog 14 c_au φ_au := fo (G := g_au) (Φ := Φ_au) (t := t_au) (eo (getE_ok (hasAll_get ⟨has_at, has_ca, has_by, has_dt, has_ck, trivial⟩))) Tryz.f14 h_au (by kernel_rfl)

end Dx
