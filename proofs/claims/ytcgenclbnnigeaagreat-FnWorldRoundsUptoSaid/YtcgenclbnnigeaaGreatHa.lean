/- The seat: its types, its functions' contracts, and that they answer so. -/
import Derived.Test.YtcgenclbnnigeaaGreatProg
import Derived.Test.YtcgenclbnnigeaaGreatXe
import Derived.Test.YtcgenclbnnigeaaGreatYb
set_option linter.all false
set_option linter.unusedVariables false
set_option linter.unusedSimpArgs false
set_option linter.unnecessarySimpa false
namespace Dx
open Go
def tab : List (Nat × TI) :=
[(3, ⟨.int .i64, 1, false, [.int .i64 (.n 0)], 8⟩),
  (4, ⟨.bool, 1, false, [.bool (.b false)], 1⟩),
  (5, ⟨.int .u8, 1, false, [.int .u8 (.n 0)], 1⟩),
  (22, ⟨.slice 5, 1, false, [.nil], 24⟩),
  (23, ⟨.slice 145, 1, false, [.nil], 24⟩),
  (25, ⟨.struct [(0, 1, false), (1, 1, false)], 2, true, [.nil, .int .i64 (.n 0)], 32⟩),
  (26, ⟨.slice 82, 1, false, [.nil], 24⟩),
  (28, ⟨.struct [(0, 1, false), (1, 2, true), (3, 1, false)], 4, true, [.bool (.b false), .nil, .int .i64 (.n 0), .nil], 64⟩),
  (29, ⟨.slice 52, 1, false, [.nil], 24⟩),
  (31, ⟨.struct [(0, 4, true), (4, 1, false), (5, 1, false)], 6, true, [.bool (.b false), .nil, .int .i64 (.n 0), .nil, .nil, .nil], 112⟩),
  (38, ⟨.slice 3, 1, false, [.nil], 24⟩),
  (39, ⟨.slice 61, 1, false, [.nil], 24⟩),
  (44, ⟨.slice 54, 1, false, [.nil], 24⟩),
  (47, ⟨.slice 64, 1, false, [.nil], 24⟩),
  (49, ⟨.struct [(0, 1, false), (1, 1, false)], 2, true, [.int .i64 (.n 0), .nil], 32⟩),
  (52, ⟨.struct [(0, 1, false), (1, 1, false), (2, 1, false), (3, 2, true)], 5, true, [.int .i64 (.n 0), .bool (.b false), .int .i64 (.n 0), .nil, .int .i64 (.n 0)], 56⟩),
  (54, ⟨.struct [(0, 1, false), (1, 1, false)], 2, true, [.nil, .int .i64 (.n 0)], 32⟩),
  (56, ⟨.slice 38, 1, false, [.nil], 24⟩),
  (57, ⟨.slice 56, 1, false, [.nil], 24⟩),
  (61, ⟨.struct [(0, 1, false), (1, 1, false), (2, 1, false), (3, 1, false)], 4, true, [.int .i64 (.n 0), .int .i64 (.n 0), .int .i64 (.n 0), .nil], 48⟩),
  (64, ⟨.struct [(0, 1, false), (1, 1, false)], 2, true, [.int .i64 (.n 0), .int .i64 (.n 0)], 16⟩),
  (82, ⟨.struct [(0, 1, false), (1, 1, false), (2, 1, false), (3, 1, false)], 4, true, [.int .i64 (.n 0), .int .i64 (.n 0), .int .i64 (.n 0), .int .i64 (.n 0)], 32⟩),
  (100, ⟨.struct [(0, 1, false), (1, 1, false)], 2, true, [.nil, .int .i64 (.n 0)], 32⟩),
  (130, ⟨.arr 2 3, 2, true, [.int .i64 (.n 0), .int .i64 (.n 0)], 16⟩),
  (131, ⟨.map 3 130, 1, false, [.any], 8⟩),
  (135, ⟨.slice 26, 1, false, [.nil], 24⟩),
  (145, ⟨.struct [(0, 1, false), (1, 1, false), (2, 1, false)], 3, true, [.int .i64 (.n 0), .int .i64 (.n 0), .nil], 40⟩)]

def tab' : Tab := getT tab
theorem tab_ok : TabOk Proofs.Tryz.prog (getT tab) := tabB_ok (by kernel_rfl)
end Dx

namespace Dx
open Go Go.Proofs
def eqs : List (Nat × Nat) := [(82, 4), (64, 2)]
theorem eqs_ok : EqOk Tryz.prog (getQ eqs) := eqB_ok (by kernel_rfl)
theorem mixed_ok : Tryz.prog.follows .mixedOrders = true := by kernel_rfl
def rowsS : List (Nat × List Sh) := [(52, [.val, .val, .val, (.arr 145 [.val, .val, .val]), .val])]
def bodyOf (fn : Func) : Code := match fn.body with
  | some b => b
  | none => .skip
def gE (R : List (Nat × List Sh)) (tr : Bool) (E : List (Nat × Nat × Con)) : Env := ⟨getT tab, getQ eqs, getR R, getE E, tr⟩
abbrev hE : How := ⟨getH [], getH [], getH []⟩
abbrev sI (n : Nat) : SV := .int .i64 (.v n)
theorem fo {G : Env} {Φ : Phi} (hG : EnvOk Tryz.prog G Φ) {f : FuncId} (fn : Func) {c : Con} (H : How) {t : Tree} (h : (Tryz.prog.funcs[f]?, fn.body, fn.name == "runtime.NumGoroutine", fnT G H c fn (bodyOf fn)) = (some fn, some (bodyOf fn), false, t)) : Has Tryz.prog f c (fun cs => retOf (den Φ t cs)) := by
  simp only [Prod.mk.injEq] at h
  exact fn_ok hG h.1 h.2.1 h.2.2.1 h.2.2.2
theorem eo {E : Nat -> List (Nat × Con)} {R : Rows} {tr : Bool} {Φ : Phi} (h : ∀ f c, c ∈ E f -> Has Tryz.prog f c.2 (Φ c.1)) : EnvOk Tryz.prog ⟨getT tab, getQ eqs, R, E, tr⟩ Φ := ⟨tab_ok, eqs_ok, h, mixed_ok⟩
theorem fp {E : List (Nat × Nat × Con)} {R : List (Nat × List Sh)} {tr : Bool} {Φ : Phi} (m : hasAll Tryz.prog Φ E) {f : FuncId} (fn : Func) {c : Con} (H : How) {t : Tree} (h : (Tryz.prog.funcs[f]?, fn.body, fn.name == "runtime.NumGoroutine", fnT (gE R tr E) H c fn (bodyOf fn)) = (some fn, some (bodyOf fn), false, t)) : Has Tryz.prog f c (fun cs => retOf (den Φ t cs)) := fo (eo (getE_ok (hasAll_get m))) fn H h
abbrev v5 : List Sh := [.val, .val, .val, .val, .val]
abbrev v4 : List Sh := [.val, .val, .val, .val]
abbrev v3 : List Sh := [.val, .val, .val]
abbrev kW : List CK := [.bool, .list, kI, .list, .list, .list]
abbrev kD : List CK := [.bool, .list, kI, .list]
abbrev kH : List CK := [kI, .bool, kI, .list, kI]
abbrev kJ : List CK := [kI, kI, kI, kI]
def c_ef : Con := ⟨[.own false [.val] [.list] false], [⟨false, [.val, .val], [.list, kI], true⟩]⟩
theorem has_ef : Has Tryz.prog 37 c_ef φ_ef := fp (R := rowsS) (tr := false) (E := []) (Φ := ph []) (t := t_ef) trivial Tryz.f37 hE (by kernel_rfl)
def c_cd : Con := ⟨[.ptr [.val, .val] [.list, kI], .ro false [kI]], [⟨false, [.val], [kI], false⟩]⟩
theorem has_cd : Has Tryz.prog 39 c_cd φ_cd := fp (R := rowsS) (tr := false) (E := []) (Φ := ph []) (t := t_cd) trivial Tryz.f39 hE (by kernel_rfl)
def c_cm : Con := ⟨[.ptr [.val, .val] [.list, kI]], [⟨false, [(.arr 3 [.val])], [.list], false⟩]⟩
theorem has_cm : Has Tryz.prog 97 c_cm φ_cm := fp (R := rowsS) (tr := false) (E := [(39, 0, c_cd)]) (Φ := Φ_cm) (t := t_cm) ⟨has_cd, trivial⟩ Tryz.f97 hE (by kernel_rfl)
def c_db : Con := ⟨[], [⟨true, [.val, (.arr 145 v3), .val, (.arr 82 v4)], kD, false⟩]⟩
theorem has_db : Has Tryz.prog 106 c_db φ_db := fp (R := rowsS) (tr := false) (E := []) (Φ := ph []) (t := t_db) trivial Tryz.f106 hE (by kernel_rfl)
def c_fi : Con := ⟨[.ro false [kI], .ro false [kI], .ro false [kI]], [⟨false, [.val], [.bool], false⟩]⟩
theorem has_fi : Has Tryz.prog 43 c_fi φ_fi := fp (R := rowsS) (tr := false) (E := []) (Φ := ph []) (t := t_fi) trivial Tryz.f43 hE (by kernel_rfl)
def c_cv : Con := ⟨[.ro false [kI]], [⟨true, [.val, (.arr 64 [.val, .val])], [kI, .list], false⟩, ⟨false, [.val], [.bool], false⟩]⟩
theorem has_cv : Has Tryz.prog 129 c_cv φ_cv := fp (R := rowsS) (tr := false) (E := [(43, 0, c_fi)]) (Φ := Φ_cv) (t := t_cv) ⟨has_fi, trivial⟩ Tryz.f129 hE (by kernel_rfl)
def c_cr : Con := ⟨[.ro false [kI], .ro false [kI]], [⟨true, [.val, .val, .val, (.arr 145 v3), .val], kH, false⟩, ⟨false, [.val], [.bool], false⟩]⟩
theorem has_cr : Has Tryz.prog 107 c_cr φ_cr := fp (R := rowsS) (tr := false) (E := [(129, 0, c_cv), (43, 1, c_fi)]) (Φ := Φ_cr) (t := t_cr) ⟨has_cv, has_fi, trivial⟩ Tryz.f107 hE (by kernel_rfl)
def c_co : Con := ⟨[.ro false [.list]], [⟨true, [.val, (.arr 145 v3), .val, (.arr 82 v4), (.arr 52 [.val, .val, .val, (.arr 145 v3), .val]), (.arr 82 v4)], kW, false⟩, ⟨false, [.val], [.bool], false⟩]⟩
def h_co : How := ⟨getH [(0, ⟨[kI, .list], [(3, (.bool (.b false))), (5, (sI 0))], [(4, .cells [(.bool (.v 1001)), (.sl 1), (sI 1003), (.sl 2), (.sl 1000), (.sl 3)]), (1000, .arr 52 [.val, .val, .val, (.arr 145 v3), .val] (.v 1))], [], 1⟩)],
  getH [],
  getH []⟩
theorem has_co : Has Tryz.prog 56 c_co φ_co := fp (R := rowsS) (tr := false) (E := [(106, 0, c_db), (107, 1, c_cr)]) (Φ := Φ_co) (t := t_co) ⟨has_db, has_cr, trivial⟩ Tryz.f56 h_co (by kernel_rfl)
def c_ev : Con := ⟨[.ro false [.list]], [⟨false, [.val], [.bool], false⟩]⟩
def h_ev : How := ⟨getH [(0, ⟨[kI, kI], [(2, (.bool (.b false))), (3, (sI 0)), (4, (sI 1))], [], [], 0⟩)],
  getH [],
  getH []⟩
theorem has_ev : Has Tryz.prog 161 c_ev φ_ev := fp (R := rowsS) (tr := false) (E := [(43, 0, c_fi)]) (Φ := Φ_ev) (t := t_ev) ⟨has_fi, trivial⟩ Tryz.f161 h_ev (by kernel_rfl)
def c_ez : Con := ⟨[.ro true [kI, kI, .list]], [⟨false, [.val], [.bool], false⟩]⟩
theorem has_ez : Has Tryz.prog 126 c_ez φ_ez := fp (R := rowsS) (tr := false) (E := [(43, 0, c_fi), (161, 1, c_ev)]) (Φ := Φ_ez) (t := t_ez) ⟨has_fi, has_ev, trivial⟩ Tryz.f126 hE (by kernel_rfl)
def c_eu : Con := ⟨[.ro false [.list], .ro true [kI, kI, .list]], [⟨false, [.val], [.bool], false⟩]⟩
theorem has_eu : Has Tryz.prog 127 c_eu φ_eu := fp (R := rowsS) (tr := false) (E := []) (Φ := ph []) (t := t_eu) trivial Tryz.f127 hE (by kernel_rfl)
def c_spec_l12Do : Con := ⟨[.own false [(.arr 54 [.val, .val])] [.list] false, .ro true [kI, kI, .list]], [⟨false, [(.arr 54 [.val, .val])], [.list], false⟩]⟩
theorem has_spec_l12Do : Has Tryz.prog 128 c_spec_l12Do φ_spec_l12Do := fp (R := rowsS) (tr := false) (E := []) (Φ := ph []) (t := t_spec_l12Do) trivial Tryz.f128 hE (by kernel_rfl)
def c_fe : Con := ⟨[.ro false [.list]], [⟨false, [.val], [.list], false⟩, ⟨false, [.val], [.bool], false⟩]⟩
def h_fe : How := ⟨getH [(0, ⟨[kI, .list], [(2, .nil), (3, (.bool (.b false))), (4, (.sl 1000)), (5, (sI 0))], [(1000, .arr 54 [.val, .val] (.v 1))], [0], 1⟩)],
  getH [],
  getH []⟩
theorem has_fe : Has Tryz.prog 86 c_fe φ_fe := fp (R := rowsS) (tr := false) (E := [(126, 0, c_ez), (127, 1, c_eu), (128, 2, c_spec_l12Do)]) (Φ := Φ_fe) (t := t_fe) ⟨has_ez, has_eu, has_spec_l12Do, trivial⟩ Tryz.f86 h_fe (by kernel_rfl)
def c_cj : Con := ⟨[.ro true kD, .ro false [.bool]], [⟨false, [.val], [.list], false⟩]⟩
theorem has_cj : Has Tryz.prog 116 c_cj φ_cj := fp (R := rowsS) (tr := false) (E := [(86, 0, c_fe)]) (Φ := Φ_cj) (t := t_cj) ⟨has_fe, trivial⟩ Tryz.f116 hE (by kernel_rfl)
def c_fb : Con := ⟨[.own true [(.arr 145 v3), .val] [.list, kI] false, .own true v3 [kI, kI, .list] false], [⟨true, [(.arr 145 v3), .val], [.list, kI], false⟩, ⟨false, [.val], [.bool], false⟩]⟩
theorem has_fb : Has Tryz.prog 159 c_fb φ_fb := fp (R := rowsS) (tr := false) (E := []) (Φ := ph []) (t := t_fb) trivial Tryz.f159 hE (by kernel_rfl)
def c_ct : Con := ⟨[.own true [.val, (.arr 145 v3), .val, (.arr 82 v4)] kD false, .own true v3 [kI, kI, .list] false], [⟨true, [.val, (.arr 145 v3), .val, (.arr 82 v4)], kD, false⟩, ⟨false, [.val], [.bool], false⟩]⟩
theorem has_ct : Has Tryz.prog 142 c_ct φ_ct := fp (R := rowsS) (tr := false) (E := [(116, 0, c_cj), (127, 1, c_eu), (159, 2, c_fb)]) (Φ := Φ_ct) (t := t_ct) ⟨has_cj, has_eu, has_fb, trivial⟩ Tryz.f142 hE (by kernel_rfl)
def c_dk : Con := ⟨[.ro false [.list], .ro true kJ], [⟨false, [.val], [.bool], false⟩]⟩
def h_dk : How := ⟨getH [(0, ⟨[kI], [(4, (.bool (.b false))), (5, (sI 0))], [], [], 0⟩)],
  getH [],
  getH []⟩
theorem has_dk : Has Tryz.prog 88 c_dk φ_dk := fp (R := rowsS) (tr := false) (E := []) (Φ := ph []) (t := t_dk) trivial Tryz.f88 h_dk (by kernel_rfl)
def c_cs : Con := ⟨[.ro true kD], [⟨false, [.val], [.list], false⟩]⟩
def h_cs : How := ⟨getH [(0, ⟨[kI, .list], [(3, (.sl 1000)), (5, (sI 0))], [(1000, .arr 82 v4 (.v 1))], [1], 1⟩), (2, ⟨[kI, .list], [(3, (.sl 1000)), (6, (sI 0))], [(1000, .arr 82 v4 (.v 1))], [2], 1⟩)],
  getH [],
  getH []⟩
theorem has_cs : Has Tryz.prog 83 c_cs φ_cs := fp (R := rowsS) (tr := false) (E := [(116, 0, c_cj), (88, 1, c_dk)]) (Φ := Φ_cs) (t := t_cs) ⟨has_cj, has_dk, trivial⟩ Tryz.f83 h_cs (by kernel_rfl)
def c_ed : Con := ⟨[.own true [.val, (.arr 145 v3), .val, (.arr 82 v4), (.arr 52 [.val, .val, .val, (.arr 145 v3), .val]), (.arr 82 v4)] kW false, .ro true kJ], [⟨true, [.val, (.arr 145 v3), .val, (.arr 82 v4), (.arr 52 [.val, .val, .val, (.arr 145 v3), .val]), (.arr 82 v4)], kW, false⟩]⟩
theorem has_ed : Has Tryz.prog 143 c_ed φ_ed := fp (R := rowsS) (tr := false) (E := []) (Φ := ph []) (t := t_ed) trivial Tryz.f143 hE (by kernel_rfl)
def c_dr : Con := ⟨[.own true [.val, (.arr 145 v3), .val, (.arr 82 v4), (.arr 52 [.val, .val, .val, (.arr 145 v3), .val]), (.arr 82 v4)] kW false, .ro true [kI, kI, kI, .list]], [⟨true, [.val, (.arr 145 v3), .val, (.arr 82 v4), (.arr 52 [.val, .val, .val, (.arr 145 v3), .val]), (.arr 82 v4)], kW, false⟩]⟩
theorem has_dr : Has Tryz.prog 108 c_dr φ_dr := fp (R := rowsS) (tr := false) (E := [(116, 0, c_cj), (126, 1, c_ez), (142, 2, c_ct), (43, 3, c_fi), (83, 4, c_cs), (143, 5, c_ed)]) (Φ := Φ_dr) (t := t_dr) ⟨has_cj, has_ez, has_ct, has_fi, has_cs, has_ed, trivial⟩ Tryz.f108 hE (by kernel_rfl)
def c_dx : Con := ⟨[.own true [.val, (.arr 145 v3), .val, (.arr 82 v4), (.arr 52 [.val, .val, .val, (.arr 145 v3), .val]), (.arr 82 v4)] kW false, .ro false [kI]], [⟨true, [.val, (.arr 145 v3), .val, (.arr 82 v4), (.arr 52 [.val, .val, .val, (.arr 145 v3), .val]), (.arr 82 v4)], kW, false⟩]⟩
theorem has_dx : Has Tryz.prog 144 c_dx φ_dx := fp (R := rowsS) (tr := false) (E := []) (Φ := ph []) (t := t_dx) trivial Tryz.f144 hE (by kernel_rfl)
def c_en : Con := ⟨[.ro true kJ], [⟨false, [.val], [.bool], false⟩]⟩
theorem has_en : Has Tryz.prog 48 c_en φ_en := fp (R := rowsS) (tr := false) (E := [(43, 0, c_fi)]) (Φ := Φ_en) (t := t_en) ⟨has_fi, trivial⟩ Tryz.f48 hE (by kernel_rfl)
def c_ew : Con := ⟨[.ro true kD, .ro false [kI], .ro false [.list], .ro false [kI]], [⟨false, [.val], [.bool], false⟩]⟩
def h_ew : How := ⟨getH [(0, ⟨[kI], [(8, (.bool (.b false))), (9, (sI 0))], [], [], 0⟩)],
  getH [],
  getH []⟩
theorem has_ew : Has Tryz.prog 170 c_ew φ_ew := fp (R := rowsS) (tr := false) (E := [(88, 0, c_dk)]) (Φ := Φ_ew) (t := t_ew) ⟨has_dk, trivial⟩ Tryz.f170 h_ew (by kernel_rfl)
def c_ep : Con := ⟨[.ro true kD, .ro false [kI], .ro false [.list], .ro false [kI]], [⟨false, [.val], [.bool], false⟩]⟩
def h_ep : How := ⟨getH [(0, ⟨[kI], [(8, (.bool (.b false))), (9, (sI 0))], [], [], 0⟩)],
  getH [],
  getH []⟩
theorem has_ep : Has Tryz.prog 171 c_ep φ_ep := fp (R := rowsS) (tr := false) (E := [(88, 0, c_dk)]) (Φ := Φ_ep) (t := t_ep) ⟨has_dk, trivial⟩ Tryz.f171 h_ep (by kernel_rfl)
def c_bt : Con := ⟨[.own true [.val, (.arr 145 v3), .val, (.arr 82 v4)] kD false, .ro false [kI]], [⟨true, [.val, (.arr 145 v3), .val, (.arr 82 v4)], kD, false⟩]⟩
def h_bt : How := ⟨getH [],
  getH [(9, ⟨[.bool], [(47, (.bool (.v 0)))], [], [], 0⟩), (7, ⟨[.bool], [(36, (.bool (.v 0)))], [], [], 0⟩), (5, ⟨[.bool], [(8, (.bool (.v 0)))], [], [], 0⟩)],
  getH []⟩
theorem has_bt : Has Tryz.prog 156 c_bt φ_bt := fp (R := rowsS) (tr := false) (E := [(116, 0, c_cj), (170, 1, c_ew), (171, 2, c_ep), (142, 3, c_ct)]) (Φ := Φ_bt) (t := t_bt) ⟨has_cj, has_ew, has_ep, has_ct, trivial⟩ Tryz.f156 h_bt (by kernel_rfl)
def c_di : Con := ⟨[.own true [.val, (.arr 145 v3), .val, (.arr 82 v4)] kD false, .ro true kJ], [⟨true, [.val, (.arr 145 v3), .val, (.arr 82 v4)], kD, false⟩]⟩
theorem has_di : Has Tryz.prog 124 c_di φ_di := fp (R := rowsS) (tr := false) (E := [(48, 0, c_en), (116, 1, c_cj), (88, 2, c_dk), (156, 3, c_bt)]) (Φ := Φ_di) (t := t_di) ⟨has_en, has_cj, has_dk, has_bt, trivial⟩ Tryz.f124 hE (by kernel_rfl)
def c_el : Con := ⟨[.ro true [kI, .list]], [⟨false, [.val], [kI], false⟩]⟩
def h_el : How := ⟨getH [(0, ⟨[kI, kI], [(3, (sI 0)), (4, (sI 1))], [], [], 0⟩)],
  getH [],
  getH []⟩
theorem has_el : Has Tryz.prog 162 c_el φ_el := fp (R := rowsS) (tr := false) (E := []) (Φ := ph []) (t := t_el) trivial Tryz.f162 h_el (by kernel_rfl)
def c_fa : Con := ⟨[.ro true [kI, .list], .ro true [kI, kI, .list]], [⟨false, [.val], [.bool], false⟩]⟩
theorem has_fa : Has Tryz.prog 130 c_fa φ_fa := fp (R := rowsS) (tr := false) (E := [(162, 0, c_el)]) (Φ := Φ_fa) (t := t_fa) ⟨has_el, trivial⟩ Tryz.f130 hE (by kernel_rfl)
def c_spec_l2Do : Con := ⟨[.own true [.val, (.arr 64 [.val, .val])] [kI, .list] false, .ro true [kI, kI, .list]], [⟨true, [.val, (.arr 64 [.val, .val])], [kI, .list], false⟩]⟩
theorem has_spec_l2Do : Has Tryz.prog 131 c_spec_l2Do φ_spec_l2Do := fp (R := rowsS) (tr := false) (E := []) (Φ := ph []) (t := t_spec_l2Do) trivial Tryz.f131 hE (by kernel_rfl)
def c_fh : Con := ⟨[.ro false [kI], .ro false [.list]], [⟨true, [.val, .val], [kI, .list], false⟩, ⟨false, [.val], [.bool], false⟩]⟩
def h_fh : How := ⟨getH [(0, ⟨[kI, kI, .list], [(5, (.bool (.b false))), (8, (sI 0))], [(2, .cells [(sI 1), (.sl 1000)]), (1000, .arr 64 [.val, .val] (.v 2))], [1], 1⟩)],
  getH [],
  getH []⟩
theorem has_fh : Has Tryz.prog 89 c_fh φ_fh := fp (R := rowsS) (tr := false) (E := [(129, 0, c_cv), (126, 1, c_ez), (130, 2, c_fa), (131, 3, c_spec_l2Do)]) (Φ := Φ_fh) (t := t_fh) ⟨has_cv, has_ez, has_fa, has_spec_l2Do, trivial⟩ Tryz.f89 h_fh (by kernel_rfl)
def c_cp : Con := ⟨[.ro true kH, .ro false [.bool]], [⟨true, [.val, .val], [kI, .list], false⟩]⟩
theorem has_cp : Has Tryz.prog 157 c_cp φ_cp := fp (R := rowsS) (tr := false) (E := [(89, 0, c_fh)]) (Φ := Φ_cp) (t := t_cp) ⟨has_fh, trivial⟩ Tryz.f157 hE (by kernel_rfl)
def c_eh : Con := ⟨[.ro true kJ], [⟨true, v3, [kI, kI, .list], false⟩]⟩
theorem has_eh : Has Tryz.prog 158 c_eh φ_eh := fp (R := rowsS) (tr := false) (E := []) (Φ := ph []) (t := t_eh) trivial Tryz.f158 hE (by kernel_rfl)
def c_bx : Con := ⟨[.ro true kH, .ro true kJ, .ro false [kI]], [⟨true, v4, kJ, false⟩, ⟨false, [.val], [.bool], false⟩]⟩
def h_bx : How := ⟨getH [],
  getH [(6, ⟨[.bool], [(28, (.bool (.v 0)))], [], [], 0⟩), (4, ⟨[.bool], [(15, (.bool (.v 0)))], [], [], 0⟩)],
  getH []⟩
theorem has_bx : Has Tryz.prog 160 c_bx φ_bx := fp (R := rowsS) (tr := false) (E := []) (Φ := ph []) (t := t_bx) trivial Tryz.f160 h_bx (by kernel_rfl)
def c_dl : Con := ⟨[.own true [.val, .val, .val, (.arr 145 v3), .val] kH false, .ro true kJ], [⟨true, [.val, .val, .val, (.arr 145 v3), .val], kH, false⟩, ⟨true, v4, kJ, false⟩, ⟨false, [.val], [.bool], false⟩]⟩
theorem has_dl : Has Tryz.prog 125 c_dl φ_dl := fp (R := rowsS) (tr := false) (E := [(48, 0, c_en), (157, 1, c_cp), (158, 2, c_eh), (130, 3, c_fa), (159, 4, c_fb), (160, 5, c_bx)]) (Φ := Φ_dl) (t := t_dl) ⟨has_en, has_cp, has_eh, has_fa, has_fb, has_bx, trivial⟩ Tryz.f125 hE (by kernel_rfl)
def c_de : Con := ⟨[.own true [.val, (.arr 145 v3), .val, (.arr 82 v4), (.arr 52 [.val, .val, .val, (.arr 145 v3), .val]), (.arr 82 v4)] kW false, .ro true kJ], [⟨true, [.val, (.arr 145 v3), .val, (.arr 82 v4), (.arr 52 [.val, .val, .val, (.arr 145 v3), .val]), (.arr 82 v4)], kW, false⟩, ⟨true, v4, kJ, false⟩, ⟨false, [.val], [.bool], false⟩]⟩
theorem has_de : Has Tryz.prog 84 c_de φ_de := fp (R := rowsS) (tr := false) (E := [(124, 0, c_di), (125, 1, c_dl)]) (Φ := Φ_de) (t := t_de) ⟨has_di, has_dl, trivial⟩ Tryz.f84 hE (by kernel_rfl)
def c_eo : Con := ⟨[.own true [.val, (.arr 145 v3), .val, (.arr 82 v4), (.arr 52 [.val, .val, .val, (.arr 145 v3), .val]), (.arr 82 v4)] kW false, .ro true [kI, kI, kI, .list]], [⟨true, [.val, (.arr 145 v3), .val, (.arr 82 v4), (.arr 52 [.val, .val, .val, (.arr 145 v3), .val]), (.arr 82 v4)], kW, false⟩]⟩
theorem has_eo : Has Tryz.prog 109 c_eo φ_eo := fp (R := rowsS) (tr := false) (E := [(43, 0, c_fi), (144, 1, c_dx), (143, 2, c_ed), (84, 3, c_de)]) (Φ := Φ_eo) (t := t_eo) ⟨has_fi, has_dx, has_ed, has_de, trivial⟩ Tryz.f109 hE (by kernel_rfl)
def c_cl : Con := ⟨[.own true [.val, (.arr 145 v3), .val, (.arr 82 v4), (.arr 52 [.val, .val, .val, (.arr 145 v3), .val]), (.arr 82 v4)] kW false, .ro false [kI]], [⟨true, [.val, (.arr 145 v3), .val, (.arr 82 v4), (.arr 52 [.val, .val, .val, (.arr 145 v3), .val]), (.arr 82 v4)], kW, false⟩]⟩
def h_cl : How := ⟨getH [],
  getH [(3, ⟨[kI], [], [(4, .cells [(.bool (.v 1000)), (.sl 0), (sI 0), (.sl 1), (.sl 2), (.sl 3)])], [], 0⟩)],
  getH []⟩
theorem has_cl : Has Tryz.prog 85 c_cl φ_cl := fp (R := rowsS) (tr := false) (E := [(43, 0, c_fi)]) (Φ := Φ_cl) (t := t_cl) ⟨has_fi, trivial⟩ Tryz.f85 h_cl (by kernel_rfl)
def c_em : Con := ⟨[.own true [(.arr 145 v3), .val] [.list, kI] false, .ro false [kI]], [⟨true, [(.arr 145 v3), .val], [.list, kI], false⟩]⟩
theorem has_em : Has Tryz.prog 146 c_em φ_em := fp (R := rowsS) (tr := true) (E := []) (Φ := ph []) (t := t_em) trivial Tryz.f146 hE (by kernel_rfl)
def c_cz : Con := ⟨[.own true [.val, (.arr 145 v3), .val, (.arr 82 v4)] kD false, .ro false [kI]], [⟨true, [.val, (.arr 145 v3), .val, (.arr 82 v4)], kD, false⟩]⟩
theorem has_cz : Has Tryz.prog 145 c_cz φ_cz := fp (R := rowsS) (tr := false) (E := [(146, 0, c_em)]) (Φ := Φ_cz) (t := t_cz) ⟨has_em, trivial⟩ Tryz.f145 hE (by kernel_rfl)
def c_dt : Con := ⟨[.own true [.val, (.arr 145 v3), .val, (.arr 82 v4), (.arr 52 [.val, .val, .val, (.arr 145 v3), .val]), (.arr 82 v4)] kW false, .ro true [kI, kI, kI, .list]], [⟨true, [.val, (.arr 145 v3), .val, (.arr 82 v4), (.arr 52 [.val, .val, .val, (.arr 145 v3), .val]), (.arr 82 v4)], kW, false⟩]⟩
theorem has_dt : Has Tryz.prog 110 c_dt φ_dt := fp (R := rowsS) (tr := false) (E := [(43, 0, c_fi), (85, 1, c_cl), (145, 2, c_cz), (146, 3, c_em)]) (Φ := Φ_dt) (t := t_dt) ⟨has_fi, has_cl, has_cz, has_em, trivial⟩ Tryz.f110 hE (by kernel_rfl)
def c_fc : Con := ⟨[.own true [.val, (.arr 145 v3), .val, (.arr 82 v4), (.arr 52 [.val, .val, .val, (.arr 145 v3), .val]), (.arr 82 v4)] kW false, .ro true [kI, kI, kI, .list]], [⟨true, [.val, (.arr 145 v3), .val, (.arr 82 v4), (.arr 52 [.val, .val, .val, (.arr 145 v3), .val]), (.arr 82 v4)], kW, false⟩]⟩
def h_fc : How := ⟨getH [],
  getH [(5, ⟨[.bool], [(7, (.bool (.v 0)))], [], [], 0⟩)],
  getH []⟩
theorem has_fc : Has Tryz.prog 57 c_fc φ_fc := fp (R := rowsS) (tr := false) (E := [(108, 0, c_dr), (109, 1, c_eo), (110, 2, c_dt)]) (Φ := Φ_fc) (t := t_fc) ⟨has_dr, has_eo, has_dt, trivial⟩ Tryz.f57 h_fc (by kernel_rfl)
def c_cn : Con := ⟨[.ptr [.val, .val] [.list, kI], .ro true kW], [⟨true, v4, [kI, kI, kI, .list], false⟩]⟩
def h_cn : How := ⟨getH [],
  getH [(25, ⟨[.bool], [(77, (.bool (.v 0)))], [], [], 0⟩), (17, ⟨[.bool], [(52, (.bool (.v 0)))], [], [], 0⟩), (9, ⟨[.bool], [(32, (.bool (.v 0)))], [], [], 0⟩), (6, ⟨[.list, kI], [], [(0, .cells [(.view true (.v 0)), (sI 1)])], [], 0⟩)],
  getH []⟩
theorem has_cn : Has Tryz.prog 66 c_cn φ_cn := fp (R := rowsS) (tr := false) (E := [(116, 0, c_cj), (83, 1, c_cs), (39, 2, c_cd)]) (Φ := Φ_cn) (t := t_cn) ⟨has_cj, has_cs, has_cd, trivial⟩ Tryz.f66 h_cn (by kernel_rfl)
def c_dm : Con := ⟨[.ptr [.val, .val] [.list, kI]], [⟨false, [(.arr 3 [.val])], [.list], false⟩, ⟨false, [(.arr 61 v4)], [.list], false⟩, ⟨true, [.val, (.arr 145 v3), .val, (.arr 82 v4), (.arr 52 [.val, .val, .val, (.arr 145 v3), .val]), (.arr 82 v4)], kW, false⟩]⟩
def h_dm : How := ⟨getH [(2, ⟨[kI, .list, kI, .bool, kI, .list, .list, .list, .list, .list], [(8, (.sl 1000)), (11, (sI 0))], [(0, .cells [(.view true (.v 1)), (sI 2)]), (7, .cells [(.bool (.v 3)), (.sl 1001), (sI 4), (.sl 1002), (.sl 1003), (.sl 1004)]), (1000, .arr 61 v4 (.v 5)), (1001, .arr 145 v3 (.v 6)), (1002, .arr 82 v4 (.v 7)), (1003, .arr 52 [.val, .val, .val, (.arr 145 v3), .val] (.v 8)), (1004, .arr 82 v4 (.v 9))], [9, 10, 11, 12, 13], 5⟩), (0, ⟨[kI, .bool, kI, .list, .list, .list, .list, .list], [(8, (.sl 1000)), (29, (sI 0))], [(7, .cells [(.bool (.v 1)), (.sl 1001), (sI 2), (.sl 1002), (.sl 1003), (.sl 1004)]), (1000, .arr 61 v4 (.v 3)), (1001, .arr 145 v3 (.v 4)), (1002, .arr 82 v4 (.v 5)), (1003, .arr 52 [.val, .val, .val, (.arr 145 v3), .val] (.v 6)), (1004, .arr 82 v4 (.v 7))], [8, 3, 4, 5, 6], 5⟩)],
  getH [(11, ⟨[.bool, kI, .list, kI, .list, .list, .list, .list, .list], [(8, (.sl 1000))], [(7, .cells [(.bool (.v 0)), (.sl 1001), (sI 1), (.sl 1002), (.sl 1003), (.sl 1004)]), (0, .cells [(.view true (.v 2)), (sI 3)]), (1000, .arr 61 v4 (.v 4)), (1001, .arr 145 v3 (.v 5)), (1002, .arr 82 v4 (.v 6)), (1003, .arr 52 [.val, .val, .val, (.arr 145 v3), .val] (.v 7)), (1004, .arr 82 v4 (.v 8))], [8, 3, 4, 5, 6], 5⟩)],
  getH []⟩
theorem has_dm : Has Tryz.prog 54 c_dm φ_dm := fp (R := rowsS) (tr := false) (E := [(97, 0, c_cm), (56, 1, c_co), (39, 2, c_cd), (57, 3, c_fc), (66, 4, c_cn)]) (Φ := Φ_dm) (t := t_dm) ⟨has_cm, has_co, has_cd, has_fc, has_cn, trivial⟩ Tryz.f54 h_dm (by kernel_rfl)
def c_dz : Con := ⟨[.ptr [.val, .val] [.list, kI]], [⟨true, v4, kJ, false⟩]⟩
def h_dz : How := ⟨getH [],
  getH [(4, ⟨[kI, .list, kI], [], [(2, .cells [(sI 1005), (sI 1009), (sI 1013), (sI 0)]), (0, .cells [(.view true (.v 1)), (sI 2)])], [], 0⟩)],
  getH []⟩
theorem has_dz : Has Tryz.prog 69 c_dz φ_dz := fp (R := rowsS) (tr := false) (E := [(39, 0, c_cd)]) (Φ := Φ_dz) (t := t_dz) ⟨has_cd, trivial⟩ Tryz.f69 h_dz (by kernel_rfl)
def c_cq : Con := ⟨[.ptr [.val, .val] [.list, kI]], [⟨true, [.val, .val, .val, .val, .val, .val], kW, false⟩]⟩
def h_cq : How := ⟨getH [(1, ⟨[.list], [], [(8, .cells [(.bool (.v 1004)), (.sl 4), (sI 1006), (.sl 5), (.sl 6), (.sl 1000)]), (1000, .arr 82 v4 (.v 0))], [7], 1⟩)],
  getH [],
  getH []⟩
theorem has_cq : Has Tryz.prog 38 c_cq φ_cq := fp (R := rowsS) (tr := true) (E := [(54, 0, c_dm), (39, 1, c_cd), (69, 2, c_dz)]) (Φ := Φ_cq) (t := t_cq) ⟨has_dm, has_cd, has_dz, trivial⟩ Tryz.f38 h_cq (by kernel_rfl)
def c_ax : Con := ⟨[.own false [.val] [.list] false], [⟨true, [.val, .val, .val, .val, .val, .val], kW, false⟩, ⟨false, [.val], [kI], false⟩]⟩
theorem has_ax : Has Tryz.prog 15 c_ax φ_ax := fp (R := rowsS) (tr := false) (E := [(37, 0, c_ef), (38, 1, c_cq), (39, 2, c_cd)]) (Φ := Φ_ax) (t := t_ax) ⟨has_ef, has_cq, has_cd, trivial⟩ Tryz.f15 hE (by kernel_rfl)
def c_fj : Con := ⟨[.ro false [kI], .ro false [kI], .ro false [kI]], [⟨false, [.val], [.bool], false⟩]⟩
theorem has_fj : Has Tryz.prog 40 c_fj φ_fj := fp (R := []) (tr := false) (E := []) (Φ := ph []) (t := t_fj) trivial Tryz.f40 hE (by kernel_rfl)
def c_bf : Con := ⟨[.ro false [kI]], [⟨false, [.val], [.bool], false⟩]⟩
theorem has_bf : Has Tryz.prog 172 c_bf φ_bf := fp (R := []) (tr := false) (E := [(40, 0, c_fj)]) (Φ := Φ_bf) (t := t_bf) ⟨has_fj, trivial⟩ Tryz.f172 hE (by kernel_rfl)
def c_am : Con := ⟨[.ro false [.list], .fn 172 []], [⟨false, [.val], [kI], false⟩]⟩
def h_am : How := ⟨getH [(0, ⟨[kI], [(4, (.int .i64 (.n 0))), (8, (sI 0))], [], [], 0⟩)],
  getH [],
  getH []⟩
theorem has_am : Has Tryz.prog 176 c_am φ_am := fp (R := []) (tr := false) (E := [(172, 0, c_bf)]) (Φ := Φ_am) (t := t_am) ⟨has_bf, trivial⟩ Tryz.f176 h_am (by kernel_rfl)
def c_aj : Con := ⟨[.ro false [.list], .fn 172 []], [⟨false, [.val], [.bool], false⟩]⟩
theorem has_aj : Has Tryz.prog 174 c_aj φ_aj := fp (R := []) (tr := false) (E := [(176, 0, c_am)]) (Φ := Φ_aj) (t := t_aj) ⟨has_am, trivial⟩ Tryz.f174 hE (by kernel_rfl)
def c_bl : Con := ⟨[.ro false [kI]], [⟨false, [.val], [.bool], false⟩]⟩
theorem has_bl : Has Tryz.prog 173 c_bl φ_bl := fp (R := []) (tr := false) (E := []) (Φ := ph []) (t := t_bl) trivial Tryz.f173 hE (by kernel_rfl)
def c_an : Con := ⟨[.ro false [.list], .fn 173 []], [⟨false, [.val], [kI], false⟩]⟩
def h_an : How := ⟨getH [(0, ⟨[kI], [(4, (.int .i64 (.n 0))), (8, (sI 0))], [], [], 0⟩)],
  getH [],
  getH []⟩
theorem has_an : Has Tryz.prog 176 c_an φ_an := fp (R := []) (tr := false) (E := [(173, 0, c_bl)]) (Φ := Φ_an) (t := t_an) ⟨has_bl, trivial⟩ Tryz.f176 h_an (by kernel_rfl)
def c_ak : Con := ⟨[.ro false [.list], .fn 173 []], [⟨false, [.val], [.bool], false⟩]⟩
theorem has_ak : Has Tryz.prog 174 c_ak φ_ak := fp (R := []) (tr := false) (E := [(176, 0, c_an)]) (Φ := Φ_ak) (t := t_ak) ⟨has_an, trivial⟩ Tryz.f174 hE (by kernel_rfl)
def c_cg : Con := ⟨[.ro false [.list]], [⟨false, [.val], [.bool], false⟩]⟩
theorem has_cg : Has Tryz.prog 163 c_cg φ_cg := fp (R := []) (tr := false) (E := [(174, 0, c_aj), (174, 1, c_ak)]) (Φ := Φ_cg) (t := t_cg) ⟨has_aj, has_ak, trivial⟩ Tryz.f163 hE (by kernel_rfl)
def c_eq : Con := ⟨[.ro false [kI]], [⟨false, [.val], [.bool], false⟩]⟩
theorem has_eq : Has Tryz.prog 64 c_eq φ_eq := fp (R := []) (tr := false) (E := [(40, 0, c_fj)]) (Φ := Φ_eq) (t := t_eq) ⟨has_fj, trivial⟩ Tryz.f64 hE (by kernel_rfl)
def c_fg : Con := ⟨[.ro true [kI, kI, .list]], [⟨false, [.val], [.bool], false⟩]⟩
theorem has_fg : Has Tryz.prog 133 c_fg φ_fg := fp (R := []) (tr := false) (E := [(40, 0, c_fj), (163, 1, c_cg), (64, 2, c_eq)]) (Φ := Φ_fg) (t := t_fg) ⟨has_fj, has_cg, has_eq, trivial⟩ Tryz.f133 hE (by kernel_rfl)
def c_dy : Con := ⟨[.ro true [kI, kI, .list]], [⟨false, [.val], [.bool], false⟩]⟩
theorem has_dy : Has Tryz.prog 132 c_dy φ_dy := fp (R := []) (tr := false) (E := [(133, 0, c_fg)]) (Φ := Φ_dy) (t := t_dy) ⟨has_fg, trivial⟩ Tryz.f132 hE (by kernel_rfl)
def c_al : Con := ⟨[.ro false [.list], .fn 132 []], [⟨false, [.val], [kI], false⟩]⟩
def h_al : How := ⟨getH [(0, ⟨[kI], [(4, (.int .i64 (.n 0))), (8, (sI 0))], [], [], 0⟩)],
  getH [],
  getH []⟩
theorem has_al : Has Tryz.prog 164 c_al φ_al := fp (R := []) (tr := false) (E := [(132, 0, c_dy)]) (Φ := Φ_al) (t := t_al) ⟨has_dy, trivial⟩ Tryz.f164 h_al (by kernel_rfl)
def c_ah : Con := ⟨[.ro false [.list], .fn 132 []], [⟨false, [.val], [.bool], false⟩]⟩
theorem has_ah : Has Tryz.prog 134 c_ah φ_ah := fp (R := []) (tr := false) (E := [(164, 0, c_al)]) (Φ := Φ_ah) (t := t_ah) ⟨has_al, trivial⟩ Tryz.f134 hE (by kernel_rfl)
def c_ey : Con := ⟨[.ro true [.list, kI]], [⟨false, [.val], [.bool], false⟩]⟩
theorem has_ey : Has Tryz.prog 90 c_ey φ_ey := fp (R := []) (tr := false) (E := [(40, 0, c_fj), (134, 1, c_ah)]) (Φ := Φ_ey) (t := t_ey) ⟨has_fj, has_ah, trivial⟩ Tryz.f90 hE (by kernel_rfl)
def c_bv : Con := ⟨[.ro true [.list, kI]], [⟨false, [.val], [.bool], false⟩]⟩
theorem has_bv : Has Tryz.prog 177 c_bv φ_bv := fp (R := []) (tr := false) (E := [(163, 0, c_cg), (40, 1, c_fj)]) (Φ := Φ_bv) (t := t_bv) ⟨has_cg, has_fj, trivial⟩ Tryz.f177 hE (by kernel_rfl)
def c_af : Con := ⟨[.ro false [.list], .fn 177 []], [⟨false, [.val], [kI], false⟩]⟩
def h_af : How := ⟨getH [(0, ⟨[kI], [(4, (.int .i64 (.n 0))), (8, (sI 0))], [], [], 0⟩)],
  getH [],
  getH []⟩
theorem has_af : Has Tryz.prog 179 c_af φ_af := fp (R := []) (tr := false) (E := [(177, 0, c_bv)]) (Φ := Φ_af) (t := t_af) ⟨has_bv, trivial⟩ Tryz.f179 h_af (by kernel_rfl)
def c_ae : Con := ⟨[.ro false [.list], .fn 177 []], [⟨false, [.val], [.bool], false⟩]⟩
theorem has_ae : Has Tryz.prog 178 c_ae φ_ae := fp (R := []) (tr := false) (E := [(179, 0, c_af)]) (Φ := Φ_ae) (t := t_ae) ⟨has_af, trivial⟩ Tryz.f178 hE (by kernel_rfl)
def c_dj : Con := ⟨[.ro false [.list]], [⟨false, [.val], [.bool], false⟩]⟩
theorem has_dj : Has Tryz.prog 175 c_dj φ_dj := fp (R := []) (tr := false) (E := [(178, 0, c_ae)]) (Φ := Φ_dj) (t := t_dj) ⟨has_ae, trivial⟩ Tryz.f175 hE (by kernel_rfl)
def c_df : Con := ⟨[.ro false [.list], .ro false [kI]], [⟨false, [.val], [kI], false⟩]⟩
theorem has_df : Has Tryz.prog 154 c_df φ_df := fp (R := []) (tr := false) (E := [(40, 0, c_fj)]) (Φ := Φ_df) (t := t_df) ⟨has_fj, trivial⟩ Tryz.f154 hE (by kernel_rfl)
def c_cu : Con := ⟨[.ro false [.list], .ro true [kI, kI, .list]], [⟨false, [.val], [.bool], false⟩]⟩
theorem has_cu : Has Tryz.prog 165 c_cu φ_cu := fp (R := []) (tr := false) (E := [(175, 0, c_dj), (133, 1, c_fg), (154, 2, c_df)]) (Φ := Φ_cu) (t := t_cu) ⟨has_dj, has_fg, has_df, trivial⟩ Tryz.f165 hE (by kernel_rfl)
def c_bc : Con := ⟨[.ro false [.list]], [⟨false, [.val], [.list], false⟩]⟩
theorem has_bc : Has Tryz.prog 166 c_bc φ_bc := fp (R := []) (tr := false) (E := []) (Φ := ph []) (t := t_bc) trivial Tryz.f166 hE (by kernel_rfl)
def c_dw : Con := ⟨[.ro false [.list], .ro true [kI, kI, .list]], [⟨false, [.val], [.list], false⟩, ⟨false, [.val], [.bool], false⟩]⟩
def h_dw : How := ⟨getH [(0, ⟨[kI, .list], [(6, (.sl 1000)), (16, (sI 0))], [(1000, .arr 54 [.val, .val] (.v 1))], [], 1⟩)],
  getH [],
  getH []⟩
theorem has_dw : Has Tryz.prog 135 c_dw φ_dw := fp (R := []) (tr := false) (E := [(165, 0, c_cu), (166, 1, c_bc)]) (Φ := Φ_dw) (t := t_dw) ⟨has_cu, has_bc, trivial⟩ Tryz.f135 h_dw (by kernel_rfl)
def c_eb : Con := ⟨[.ro false [.list]], [⟨false, [.val], [.list], false⟩, ⟨false, [.val], [.bool], false⟩]⟩
def h_eb : How := ⟨getH [(0, ⟨[.list, .bool, kI], [(4, (.view true (.v 0))), (5, (.bool (.v 1))), (6, (sI 2))], [], [], 0⟩)],
  getH [],
  getH []⟩
theorem has_eb : Has Tryz.prog 91 c_eb φ_eb := fp (R := []) (tr := false) (E := [(135, 0, c_dw)]) (Φ := Φ_eb) (t := t_eb) ⟨has_dw, trivial⟩ Tryz.f91 h_eb (by kernel_rfl)
def c_dv : Con := ⟨[.ro false [kI]], [⟨false, [.val], [.bool], false⟩]⟩
theorem has_dv : Has Tryz.prog 94 c_dv φ_dv := fp (R := []) (tr := false) (E := [(40, 0, c_fj)]) (Φ := Φ_dv) (t := t_dv) ⟨has_fj, trivial⟩ Tryz.f94 hE (by kernel_rfl)
def c_er : Con := ⟨[.ro true kJ], [⟨false, [.val], [.bool], false⟩]⟩
theorem has_er : Has Tryz.prog 53 c_er φ_er := fp (R := []) (tr := false) (E := [(40, 0, c_fj), (94, 1, c_dv), (64, 2, c_eq)]) (Φ := Φ_er) (t := t_er) ⟨has_fj, has_dv, has_eq, trivial⟩ Tryz.f53 hE (by kernel_rfl)
def c_bd : Con := ⟨[.ro true kJ], [⟨false, [.val], [.bool], false⟩]⟩
theorem has_bd : Has Tryz.prog 92 c_bd φ_bd := fp (R := []) (tr := false) (E := []) (Φ := ph []) (t := t_bd) trivial Tryz.f92 hE (by kernel_rfl)
def c_ar : Con := ⟨[.ro false [.list], .ro true kJ], [⟨false, [.val], [kI], false⟩]⟩
def h_ar : How := ⟨getH [(0, ⟨[kI], [(4, (.int .i64 (.n 0))), (8, (sI 0))], [], [], 0⟩)],
  getH [],
  getH []⟩
theorem has_ar : Has Tryz.prog 136 c_ar φ_ar := fp (R := []) (tr := false) (E := []) (Φ := ph []) (t := t_ar) trivial Tryz.f136 h_ar (by kernel_rfl)
def c_ao : Con := ⟨[.ro false [.list], .ro true kJ], [⟨false, [.val], [.bool], false⟩]⟩
theorem has_ao : Has Tryz.prog 93 c_ao φ_ao := fp (R := []) (tr := false) (E := [(136, 0, c_ar)]) (Φ := Φ_ao) (t := t_ao) ⟨has_ar, trivial⟩ Tryz.f93 hE (by kernel_rfl)
def c_es : Con := ⟨[.ro true kD], [⟨false, [.val], [.bool], false⟩]⟩
def h_es : How := ⟨getH [(0, ⟨[kI], [(2, (.bool (.b false))), (32, (sI 0))], [], [], 0⟩)],
  getH [(3, ⟨[], [(2, (.bool (.b false)))], [], [], 0⟩)],
  getH []⟩
theorem has_es : Has Tryz.prog 49 c_es φ_es := fp (R := []) (tr := false) (E := [(90, 0, c_ey), (91, 1, c_eb), (53, 2, c_er), (92, 3, c_bd), (93, 4, c_ao)]) (Φ := Φ_es) (t := t_es) ⟨has_ey, has_eb, has_er, has_bd, has_ao, trivial⟩ Tryz.f49 h_es (by kernel_rfl)
def c_ck : Con := ⟨[.ro false [kI]], [⟨true, [.val, (.arr 64 [.val, .val])], [kI, .list], false⟩, ⟨false, [.val], [.bool], false⟩]⟩
theorem has_ck : Has Tryz.prog 137 c_ck φ_ck := fp (R := []) (tr := false) (E := [(40, 0, c_fj)]) (Φ := Φ_ck) (t := t_ck) ⟨has_fj, trivial⟩ Tryz.f137 hE (by kernel_rfl)
def c_dc : Con := ⟨[.ro true [kI, kI]], [⟨false, [.val], [.bool], false⟩]⟩
theorem has_dc : Has Tryz.prog 113 c_dc φ_dc := fp (R := []) (tr := false) (E := [(40, 0, c_fj)]) (Φ := Φ_dc) (t := t_dc) ⟨has_fj, trivial⟩ Tryz.f113 hE (by kernel_rfl)
def c_by : Con := ⟨[.ro true [kI, kI]], [⟨false, [.val], [.bool], false⟩]⟩
theorem has_by : Has Tryz.prog 112 c_by φ_by := fp (R := []) (tr := false) (E := [(113, 0, c_dc)]) (Φ := Φ_by) (t := t_by) ⟨has_dc, trivial⟩ Tryz.f112 hE (by kernel_rfl)
def c_ag : Con := ⟨[.ro false [.list], .fn 112 []], [⟨false, [.val], [kI], false⟩]⟩
def h_ag : How := ⟨getH [(0, ⟨[kI], [(4, (.int .i64 (.n 0))), (8, (sI 0))], [], [], 0⟩)],
  getH [],
  getH []⟩
theorem has_ag : Has Tryz.prog 147 c_ag φ_ag := fp (R := []) (tr := false) (E := [(112, 0, c_by)]) (Φ := Φ_ag) (t := t_ag) ⟨has_by, trivial⟩ Tryz.f147 h_ag (by kernel_rfl)
def c_ab : Con := ⟨[.ro false [.list], .fn 112 []], [⟨false, [.val], [.bool], false⟩]⟩
theorem has_ab : Has Tryz.prog 114 c_ab φ_ab := fp (R := []) (tr := false) (E := [(147, 0, c_ag)]) (Φ := Φ_ab) (t := t_ab) ⟨has_ag, trivial⟩ Tryz.f114 hE (by kernel_rfl)
def c_bh : Con := ⟨[.ro true [kI, .list]], [⟨false, [.val], [kI], false⟩]⟩
def h_bh : How := ⟨getH [(0, ⟨[kI, kI], [(3, (sI 0)), (11, (sI 1))], [], [], 0⟩)],
  getH [],
  getH []⟩
theorem has_bh : Has Tryz.prog 60 c_bh φ_bh := fp (R := []) (tr := false) (E := []) (Φ := ph []) (t := t_bh) trivial Tryz.f60 h_bh (by kernel_rfl)
def c_dn : Con := ⟨[.ro true [kI, .list]], [⟨false, [.val], [.bool], false⟩]⟩
theorem has_dn : Has Tryz.prog 59 c_dn φ_dn := fp (R := []) (tr := false) (E := [(40, 0, c_fj), (114, 1, c_ab), (60, 2, c_bh)]) (Φ := Φ_dn) (t := t_dn) ⟨has_fj, has_ab, has_bh, trivial⟩ Tryz.f59 hE (by kernel_rfl)
def c_ci : Con := ⟨[.ro true [kI, .list], .ro true [kI, kI, .list]], [⟨false, [.val], [.bool], false⟩]⟩
theorem has_ci : Has Tryz.prog 150 c_ci φ_ci := fp (R := []) (tr := false) (E := [(59, 0, c_dn), (133, 1, c_fg), (60, 2, c_bh)]) (Φ := Φ_ci) (t := t_ci) ⟨has_dn, has_fg, has_bh, trivial⟩ Tryz.f150 hE (by kernel_rfl)
def c_aq : Con := ⟨[.ro false [.list]], [⟨false, [(.arr 64 [.val, .val])], [.list], false⟩]⟩
theorem has_aq : Has Tryz.prog 167 c_aq φ_aq := fp (R := []) (tr := false) (E := []) (Φ := ph []) (t := t_aq) trivial Tryz.f167 hE (by kernel_rfl)
def c_ds : Con := ⟨[.ro true [kI, .list], .ro true [kI, kI, .list]], [⟨true, [.val, .val], [kI, .list], false⟩, ⟨false, [.val], [.bool], false⟩]⟩
def h_ds : How := ⟨getH [],
  getH [(4, ⟨[.list], [(6, (.ptr 1000 0))], [(1000, .cells [(sI 1000), (.sl 1001)]), (1001, .arr 64 [.val, .val] (.v 0))], [], 2⟩)],
  getH []⟩
theorem has_ds : Has Tryz.prog 138 c_ds φ_ds := fp (R := []) (tr := false) (E := [(150, 0, c_ci), (167, 1, c_aq)]) (Φ := Φ_ds) (t := t_ds) ⟨has_ci, has_aq, trivial⟩ Tryz.f138 h_ds (by kernel_rfl)
def c_du : Con := ⟨[.ro false [kI], .ro false [.list]], [⟨true, [.val, .val], [kI, .list], false⟩, ⟨false, [.val], [.bool], false⟩]⟩
def h_du : How := ⟨getH [(0, ⟨[.bool, kI, kI, .list], [(7, (.bool (.v 0))), (8, (sI 1))], [(2, .cells [(sI 2), (.view true (.v 3))])], [], 0⟩)],
  getH [],
  getH []⟩
theorem has_du : Has Tryz.prog 95 c_du φ_du := fp (R := []) (tr := false) (E := [(137, 0, c_ck), (138, 1, c_ds)]) (Φ := Φ_du) (t := t_du) ⟨has_ck, has_ds, trivial⟩ Tryz.f95 h_du (by kernel_rfl)
def c_dg : Con := ⟨[.ro true kH], [⟨false, [.val], [.bool], false⟩]⟩
theorem has_dg : Has Tryz.prog 50 c_dg φ_dg := fp (R := []) (tr := false) (E := [(94, 0, c_dv), (90, 1, c_ey), (95, 2, c_du)]) (Φ := Φ_dg) (t := t_dg) ⟨has_dv, has_ey, has_du, trivial⟩ Tryz.f50 hE (by kernel_rfl)
def c_cc : Con := ⟨[.ro true kJ], [⟨false, [.val], [.bool], false⟩]⟩
theorem has_cc : Has Tryz.prog 52 c_cc φ_cc := fp (R := []) (tr := false) (E := [(53, 0, c_er)]) (Φ := Φ_cc) (t := t_cc) ⟨has_er, trivial⟩ Tryz.f52 hE (by kernel_rfl)
def c_ai : Con := ⟨[.ro false [.list], .fn 52 []], [⟨false, [.val], [kI], false⟩]⟩
def h_ai : How := ⟨getH [(0, ⟨[kI], [(4, (.int .i64 (.n 0))), (8, (sI 0))], [], [], 0⟩)],
  getH [],
  getH []⟩
theorem has_ai : Has Tryz.prog 96 c_ai φ_ai := fp (R := []) (tr := false) (E := [(52, 0, c_cc)]) (Φ := Φ_ai) (t := t_ai) ⟨has_cc, trivial⟩ Tryz.f96 h_ai (by kernel_rfl)
def c_ad : Con := ⟨[.ro false [.list], .fn 52 []], [⟨false, [.val], [.bool], false⟩]⟩
theorem has_ad : Has Tryz.prog 51 c_ad φ_ad := fp (R := []) (tr := false) (E := [(96, 0, c_ai)]) (Φ := Φ_ad) (t := t_ad) ⟨has_ai, trivial⟩ Tryz.f51 hE (by kernel_rfl)
def c_cy : Con := ⟨[.ro true kW], [⟨false, [.val], [.bool], false⟩]⟩
def h_cy : How := ⟨getH [(0, ⟨[kI], [(2, (.bool (.b false))), (24, (sI 0))], [], [], 0⟩)],
  getH [],
  getH []⟩
theorem has_cy : Has Tryz.prog 20 c_cy φ_cy := fp (R := []) (tr := false) (E := [(49, 0, c_es), (50, 1, c_dg), (51, 2, c_ad)]) (Φ := Φ_cy) (t := t_cy) ⟨has_es, has_dg, has_ad, trivial⟩ Tryz.f20 h_cy (by kernel_rfl)
def c_bi : Con := ⟨[.ro true [kI, kI, .list]], [⟨true, v3, [kI, kI, .list], false⟩]⟩
theorem has_bi : Has Tryz.prog 169 c_bi φ_bi := fp (R := []) (tr := false) (E := [(166, 0, c_bc)]) (Φ := Φ_bi) (t := t_bi) ⟨has_bc, trivial⟩ Tryz.f169 hE (by kernel_rfl)
def c_bw : Con := ⟨[.ro true [.list, kI], .ro false [kI], .ro false [kI]], [⟨true, [(.arr 145 v3), .val], [.list, kI], false⟩]⟩
def h_bw : How := ⟨getH [(0, ⟨[kI, .list], [(17, (sI 0))], [(2, .cells [(.sl 1000), (sI 1003)]), (1000, .arr 145 v3 (.v 1))], [], 1⟩)],
  getH [],
  getH []⟩
theorem has_bw : Has Tryz.prog 149 c_bw φ_bw := fp (R := []) (tr := false) (E := [(169, 0, c_bi)]) (Φ := Φ_bw) (t := t_bw) ⟨has_bi, trivial⟩ Tryz.f149 h_bw (by kernel_rfl)
def c_bn : Con := ⟨[.ro true [.list, kI]], [⟨true, [(.arr 145 v3), .val], [.list, kI], false⟩]⟩
theorem has_bn : Has Tryz.prog 118 c_bn φ_bn := fp (R := []) (tr := false) (E := [(149, 0, c_bw)]) (Φ := Φ_bn) (t := t_bn) ⟨has_bw, trivial⟩ Tryz.f118 hE (by kernel_rfl)
def c_as : Con := ⟨[.ro false [.list]], [⟨false, [(.arr 82 v4)], [.list], false⟩]⟩
theorem has_as : Has Tryz.prog 71 c_as φ_as := fp (R := []) (tr := false) (E := []) (Φ := ph []) (t := t_as) trivial Tryz.f71 hE (by kernel_rfl)
def c_bb : Con := ⟨[.ro true kD], [⟨true, [.val, .val, .val, (.arr 82 v4)], kD, false⟩]⟩
theorem has_bb : Has Tryz.prog 70 c_bb φ_bb := fp (R := []) (tr := false) (E := [(118, 0, c_bn), (71, 1, c_as)]) (Φ := Φ_bb) (t := t_bb) ⟨has_bn, has_as, trivial⟩ Tryz.f70 hE (by kernel_rfl)
def c_az : Con := ⟨[.ro true kH], [⟨true, v5, kH, false⟩]⟩
theorem has_az : Has Tryz.prog 72 c_az φ_az := fp (R := []) (tr := false) (E := [(118, 0, c_bn)]) (Φ := Φ_az) (t := t_az) ⟨has_bn, trivial⟩ Tryz.f72 hE (by kernel_rfl)
def c_ay : Con := ⟨[.ro true kW], [⟨true, [.val, .val, .val, (.arr 82 v4), (.arr 52 v5), (.arr 82 v4)], kW, false⟩]⟩
def h_ay : How := ⟨getH [(0, ⟨[kI, .list], [(16, (sI 0))], [(2, .cells [(.bool (.v 1006)), (.view true (.v 1007)), (sI 1008), (.sl 3), (.sl 1000), (.sl 4)]), (1000, .arr 52 v5 (.v 1))], [], 1⟩)],
  getH [(2, ⟨[.bool, .list, kI, .list, .list], [(3, (.ptr 1000 0))], [(1000, .cells [(.bool (.v 0)), (.view true (.v 1)), (sI 2), (.sl 1001), .nil, (.sl 1002)]), (1001, .arr 82 v4 (.v 3)), (1002, .arr 82 v4 (.v 4))], [], 3⟩)],
  getH []⟩
theorem has_ay : Has Tryz.prog 41 c_ay φ_ay := fp (R := []) (tr := false) (E := [(70, 0, c_bb), (71, 1, c_as), (72, 2, c_az)]) (Φ := Φ_ay) (t := t_ay) ⟨has_bb, has_as, has_az, trivial⟩ Tryz.f41 h_ay (by kernel_rfl)
def c_ch : Con := ⟨[.ro true [.list, kI]], [⟨true, [.val, .val], [.list, kI], false⟩]⟩
theorem has_ch : Has Tryz.prog 122 c_ch φ_ch := fp (R := []) (tr := false) (E := [(90, 0, c_ey), (149, 1, c_bw)]) (Φ := Φ_ch) (t := t_ch) ⟨has_ey, has_bw, trivial⟩ Tryz.f122 hE (by kernel_rfl)
def c_bs : Con := ⟨[.ro true kD], [⟨true, [.val, .val, .val, (.arr 82 v4)], kD, false⟩]⟩
theorem has_bs : Has Tryz.prog 79 c_bs φ_bs := fp (R := []) (tr := false) (E := [(49, 0, c_es), (70, 1, c_bb), (122, 2, c_ch)]) (Φ := Φ_bs) (t := t_bs) ⟨has_es, has_bb, has_ch, trivial⟩ Tryz.f79 hE (by kernel_rfl)
def c_bk : Con := ⟨[.ro true kH], [⟨true, v5, kH, false⟩]⟩
theorem has_bk : Has Tryz.prog 80 c_bk φ_bk := fp (R := []) (tr := false) (E := [(50, 0, c_dg), (72, 1, c_az), (122, 2, c_ch)]) (Φ := Φ_bk) (t := t_bk) ⟨has_dg, has_az, has_ch, trivial⟩ Tryz.f80 hE (by kernel_rfl)
def c_aa : Con := ⟨[.ptr [.val, .val, .val, (.arr 82 v4), (.arr 52 v5), (.arr 82 v4)] kW, .ro false [kI], .fn 79 [], .fn 80 []], []⟩
theorem has_aa : Has Tryz.prog 73 c_aa φ_aa := fp (R := []) (tr := false) (E := [(94, 0, c_dv), (79, 1, c_bs), (80, 2, c_bk)]) (Φ := Φ_aa) (t := t_aa) ⟨has_dv, has_bs, has_bk, trivial⟩ Tryz.f73 hE (by kernel_rfl)
def c_cw : Con := ⟨[.ro true kD], [⟨true, [.val, .val, .val, (.arr 82 v4)], kD, false⟩]⟩
theorem has_cw : Has Tryz.prog 74 c_cw φ_cw := fp (R := []) (tr := false) (E := [(49, 0, c_es), (70, 1, c_bb)]) (Φ := Φ_cw) (t := t_cw) ⟨has_es, has_bb, trivial⟩ Tryz.f74 hE (by kernel_rfl)
def c_bu : Con := ⟨[.ro true kH], [⟨true, v5, kH, false⟩]⟩
theorem has_bu : Has Tryz.prog 75 c_bu φ_bu := fp (R := []) (tr := false) (E := [(50, 0, c_dg), (72, 1, c_az)]) (Φ := Φ_bu) (t := t_bu) ⟨has_dg, has_az, trivial⟩ Tryz.f75 hE (by kernel_rfl)
def c_ac : Con := ⟨[.ptr [.val, .val, .val, (.arr 82 v4), (.arr 52 v5), (.arr 82 v4)] kW, .ro false [kI], .fn 74 [], .fn 75 []], []⟩
theorem has_ac : Has Tryz.prog 73 c_ac φ_ac := fp (R := []) (tr := false) (E := [(94, 0, c_dv), (74, 1, c_cw), (75, 2, c_bu)]) (Φ := Φ_ac) (t := t_ac) ⟨has_dv, has_cw, has_bu, trivial⟩ Tryz.f73 hE (by kernel_rfl)
def c_cb : Con := ⟨[.own true [.val, .val] [.list, kI] false, .ro false [.bool]], [⟨false, [.val], [.list], false⟩]⟩
theorem has_cb : Has Tryz.prog 111 c_cb φ_cb := fp (R := []) (tr := false) (E := []) (Φ := ph []) (t := t_cb) trivial Tryz.f111 hE (by kernel_rfl)
def c_bp : Con := ⟨[.ro true kD, .ro false [.bool]], [⟨false, [.val], [.list], false⟩]⟩
theorem has_bp : Has Tryz.prog 58 c_bp φ_bp := fp (R := []) (tr := false) (E := [(111, 0, c_cb), (91, 1, c_eb)]) (Φ := Φ_bp) (t := t_bp) ⟨has_cb, has_eb, trivial⟩ Tryz.f58 hE (by kernel_rfl)
def c_ce : Con := ⟨[.ro true kD, .ro false [kI], .ro false [kI], .ro false [kI]], [⟨false, [.val], [.bool], false⟩]⟩
theorem has_ce : Has Tryz.prog 115 c_ce φ_ce := fp (R := []) (tr := false) (E := [(93, 0, c_ao)]) (Φ := Φ_ce) (t := t_ce) ⟨has_ao, trivial⟩ Tryz.f115 hE (by kernel_rfl)
def c_bg : Con := ⟨[.ro true kD], [⟨false, [.val], [.list], false⟩]⟩
def h_bg : How := ⟨getH [(0, ⟨[kI, .list], [(4, (.sl 1000)), (23, (sI 0))], [(1000, .arr 82 v4 (.v 1))], [], 1⟩), (2, ⟨[kI, .list], [(4, (.sl 1000)), (38, (sI 0))], [(1000, .arr 82 v4 (.v 1))], [2], 1⟩)],
  getH [],
  getH []⟩
theorem has_bg : Has Tryz.prog 65 c_bg φ_bg := fp (R := []) (tr := false) (E := [(58, 0, c_bp), (115, 1, c_ce)]) (Φ := Φ_bg) (t := t_bg) ⟨has_bp, has_ce, trivial⟩ Tryz.f65 h_bg (by kernel_rfl)
theorem has_at : Has Tryz.prog 119 (growCon 82) φ_at := grow_has (ρ := ⟨fun _ => 119, fun t => match t with | 22 => 26 | 25 => 82 | 3 => 3 | 4 => 4 | 9 => 9 | 20 => 20 | _ => 0, fun x => x⟩) ⟨mixed_ok, ⟨Tryz.f119.name, by kernel_rfl, by kernel_rfl⟩, by kernel_rfl, by kernel_rfl, by kernel_rfl, by kernel_rfl⟩
def c_at : Con := growCon 82
def c_ap : Con := ⟨[.ro false [.list]], [⟨false, [(.arr 82 v4)], [.list], false⟩]⟩
def h_ap : How := ⟨getH [(2, ⟨[kI, .list], [(6, (.sl 1000)), (27, (sI 0))], [(1000, .arr 82 v4 (.v 1))], [0], 1⟩), (0, ⟨[kI, kI], [(3, (sI 0)), (11, (sI 1))], [], [], 0⟩)],
  getH [],
  getH []⟩
theorem has_ap : Has Tryz.prog 76 c_ap φ_ap := fp (R := []) (tr := false) (E := [(119, 0, c_at)]) (Φ := Φ_ap) (t := t_ap) ⟨has_at, trivial⟩ Tryz.f76 h_ap (by kernel_rfl)
def c_bm : Con := ⟨[.ro true kD, .ro false [kI], .ro false [kI], .ro false [.list]], [⟨false, [.val], [.bool], false⟩, ⟨false, [.val], [.bool], false⟩]⟩
def h_bm : How := ⟨getH [(0, ⟨[.bool, .bool, kI], [(8, (.bool (.v 0))), (9, (.bool (.v 1))), (15, (sI 2))], [], [], 0⟩)],
  getH [],
  getH []⟩
theorem has_bm : Has Tryz.prog 153 c_bm φ_bm := fp (R := []) (tr := false) (E := [(115, 0, c_ce)]) (Φ := Φ_bm) (t := t_bm) ⟨has_ce, trivial⟩ Tryz.f153 h_bm (by kernel_rfl)
def c_ei : Con := ⟨[.ro true [.list, kI], .ro true [kI, kI, .list]], [⟨true, [.val, .val], [.list, kI], false⟩, ⟨false, [.val], [.bool], false⟩]⟩
theorem has_ei : Has Tryz.prog 151 c_ei φ_ei := fp (R := []) (tr := false) (E := [(90, 0, c_ey), (133, 1, c_fg), (118, 2, c_bn), (169, 3, c_bi)]) (Φ := Φ_ei) (t := t_ei) ⟨has_ey, has_fg, has_bn, has_bi, trivial⟩ Tryz.f151 hE (by kernel_rfl)
def c_bo : Con := ⟨[.ptr [.val, .val, .val, (.arr 82 v4)] kD, .ro true [kI, kI, .list]], [⟨false, [.val], [.bool], false⟩]⟩
theorem has_bo : Has Tryz.prog 139 c_bo φ_bo := fp (R := []) (tr := false) (E := [(58, 0, c_bp), (165, 1, c_cu), (151, 2, c_ei)]) (Φ := Φ_bo) (t := t_bo) ⟨has_bp, has_cu, has_ei, trivial⟩ Tryz.f139 hE (by kernel_rfl)
def c_be : Con := ⟨[.ptr [.val, .val, .val, (.arr 82 v4)] kD, .ro false [kI]], []⟩
def h_be : How := ⟨getH [],
  getH [(9, ⟨[.bool], [(82, (.bool (.v 0)))], [], [], 0⟩), (7, ⟨[.bool], [(71, (.bool (.v 0)))], [], [], 0⟩)],
  getH []⟩
theorem has_be : Has Tryz.prog 121 c_be φ_be := fp (R := []) (tr := false) (E := [(58, 0, c_bp), (153, 1, c_bm), (154, 2, c_df), (139, 3, c_bo)]) (Φ := Φ_be) (t := t_be) ⟨has_bp, has_bm, has_df, has_bo, trivial⟩ Tryz.f121 h_be (by kernel_rfl)
def c_br : Con := ⟨[.ptr [.val, .val, .val, (.arr 82 v4)] kD, .ro true kJ], []⟩
theorem has_br : Has Tryz.prog 78 c_br φ_br := fp (R := []) (tr := false) (E := [(53, 0, c_er), (92, 1, c_bd), (58, 2, c_bp), (93, 3, c_ao), (121, 4, c_be)]) (Φ := Φ_br) (t := t_br) ⟨has_er, has_bd, has_bp, has_ao, has_be, trivial⟩ Tryz.f78 hE (by kernel_rfl)
def c_ba : Con := ⟨[.ro true kH, .ro false [.bool]], [⟨true, [.val, .val], [kI, .list], false⟩]⟩
theorem has_ba : Has Tryz.prog 61 c_ba φ_ba := fp (R := []) (tr := false) (E := [(111, 0, c_cb), (95, 1, c_du)]) (Φ := Φ_ba) (t := t_ba) ⟨has_cb, has_du, trivial⟩ Tryz.f61 hE (by kernel_rfl)
def c_au : Con := ⟨[.ro true kH, .ro true kJ], [⟨false, [.val], [kI], false⟩]⟩
def h_au : How := ⟨getH [],
  getH [(5, ⟨[.bool], [(33, (.bool (.v 0)))], [], [], 0⟩), (3, ⟨[.bool], [(25, (.bool (.v 0)))], [], [], 0⟩)],
  getH []⟩
theorem has_au : Has Tryz.prog 152 c_au φ_au := fp (R := []) (tr := false) (E := [(61, 0, c_ba)]) (Φ := Φ_au) (t := t_au) ⟨has_ba, trivial⟩ Tryz.f152 h_au (by kernel_rfl)
def c_ca : Con := ⟨[.ro true kH, .ro true kJ], [⟨true, v5, kH, false⟩, ⟨true, v4, kJ, false⟩, ⟨false, [.val], [.bool], false⟩]⟩
def h_ca : How := ⟨getH [],
  getH [(9, ⟨[.list], [], [(5, .cells [(sI 1005), (sI 1007), (.sl 1000)]), (1000, .arr 3 [.val] (.v 0))], [], 1⟩)],
  getH []⟩
theorem has_ca : Has Tryz.prog 120 c_ca φ_ca := fp (R := []) (tr := false) (E := [(50, 0, c_dg), (72, 1, c_az), (53, 2, c_er), (92, 3, c_bd), (61, 4, c_ba), (150, 5, c_ci), (151, 6, c_ei), (152, 7, c_au)]) (Φ := Φ_ca) (t := t_ca) ⟨has_dg, has_az, has_er, has_bd, has_ba, has_ci, has_ei, has_au, trivial⟩ Tryz.f120 h_ca (by kernel_rfl)
def c_av : Con := ⟨[.ptr [.val, .val, .val, (.arr 82 v4), (.arr 52 v5), .val] kW, .ro true kJ], [⟨true, v4, kJ, false⟩, ⟨false, [.val], [.bool], false⟩]⟩
theorem has_av : Has Tryz.prog 77 c_av φ_av := fp (R := []) (tr := false) (E := [(92, 0, c_bd), (78, 1, c_br), (120, 2, c_ca)]) (Φ := Φ_av) (t := t_av) ⟨has_bd, has_br, has_ca, trivial⟩ Tryz.f77 hE (by kernel_rfl)
def c_bj : Con := ⟨[.ptr [.val, .val, .val, (.arr 82 v4), (.arr 52 v5), (.arr 82 v4)] kW], []⟩
def h_bj : How := ⟨getH [(4, ⟨[kI, .bool, .list, kI, .list, .list, .list], [(49, (sI 0))], [(0, .cells [(.bool (.v 1)), (.view true (.v 2)), (sI 3), (.sl 1000), (.sl 1001), (.sl 1002)]), (1000, .arr 82 v4 (.v 4)), (1001, .arr 52 v5 (.v 5)), (1002, .arr 82 v4 (.v 6))], [9, 10], 3⟩), (2, ⟨[kI, .bool, .list, kI, .list, .list, .list], [(29, (sI 0))], [(0, .cells [(.bool (.v 1)), (.view true (.v 2)), (sI 3), (.sl 1000), (.sl 1001), (.view true (.v 4))]), (1000, .arr 82 v4 (.v 5)), (1001, .arr 52 v5 (.v 6))], [4, 5], 2⟩), (0, ⟨[kI, .bool, .list, kI, .list, .list, .list], [(9, (sI 0))], [(0, .cells [(.bool (.v 1)), (.view true (.v 2)), (sI 3), (.sl 1000), (.sl 1001), (.sl 1002)]), (1000, .arr 82 v4 (.v 4)), (1001, .arr 52 v5 (.v 5)), (1002, .arr 82 v4 (.v 6))], [1, 2, 3], 3⟩)],
  getH [],
  getH []⟩
theorem has_bj : Has Tryz.prog 42 c_bj φ_bj := fp (R := []) (tr := false) (E := [(73, 0, c_aa), (73, 1, c_ac), (65, 2, c_bg), (76, 3, c_ap), (77, 4, c_av), (78, 5, c_br)]) (Φ := Φ_bj) (t := t_bj) ⟨has_aa, has_ac, has_bg, has_ap, has_av, has_br, trivial⟩ Tryz.f42 h_bj (by kernel_rfl)
def c_bz : Con := ⟨[.ro true kW, .ro false [kI]], [⟨true, [.val, .val, .val, .val, .val, .val], kW, false⟩]⟩
def h_bz : How := ⟨getH [(0, ⟨[kI, .bool, .list, kI, .list, .list, .list], [(18, (sI 0))], [(5, .cells [(.bool (.v 1)), (.view true (.v 2)), (sI 3), (.sl 1000), (.sl 1001), (.sl 1002)]), (1000, .arr 82 v4 (.v 4)), (1001, .arr 52 v5 (.v 5)), (1002, .arr 82 v4 (.v 6))], [2, 3, 4], 3⟩)],
  getH [],
  getH []⟩
theorem has_bz : Has Tryz.prog 16 c_bz φ_bz := fp (R := []) (tr := false) (E := [(20, 0, c_cy), (40, 1, c_fj), (41, 2, c_ay), (42, 3, c_bj)]) (Φ := Φ_bz) (t := t_bz) ⟨has_cy, has_fj, has_ay, has_bj, trivial⟩ Tryz.f16 h_bz (by kernel_rfl)
def c_ff : Con := ⟨[.ro true [.list, kI]], [⟨false, [.val], [.bool], false⟩]⟩
def h_ff : How := ⟨getH [(0, ⟨[kI], [(2, (.bool (.b false))), (3, (sI 0))], [], [], 0⟩)],
  getH [],
  getH []⟩
theorem has_ff : Has Tryz.prog 87 c_ff φ_ff := fp (R := rowsS) (tr := false) (E := [(126, 0, c_ez), (43, 1, c_fi)]) (Φ := Φ_ff) (t := t_ff) ⟨has_ez, has_fi, trivial⟩ Tryz.f87 h_ff (by kernel_rfl)
def c_et : Con := ⟨[.ro true kD], [⟨false, [.val], [.bool], false⟩]⟩
def h_et : How := ⟨getH [(0, ⟨[kI], [(2, (.bool (.b false))), (5, (sI 0))], [], [], 0⟩)],
  getH [],
  getH []⟩
theorem has_et : Has Tryz.prog 46 c_et φ_et := fp (R := rowsS) (tr := false) (E := [(86, 0, c_fe), (87, 1, c_ff), (48, 2, c_en), (88, 3, c_dk)]) (Φ := Φ_et) (t := t_et) ⟨has_fe, has_ff, has_en, has_dk, trivial⟩ Tryz.f46 h_et (by kernel_rfl)
def c_dq : Con := ⟨[.ro true kH], [⟨false, [.val], [.bool], false⟩]⟩
theorem has_dq : Has Tryz.prog 47 c_dq φ_dq := fp (R := rowsS) (tr := false) (E := [(89, 0, c_fh), (43, 1, c_fi), (87, 2, c_ff)]) (Φ := Φ_dq) (t := t_dq) ⟨has_fh, has_fi, has_ff, trivial⟩ Tryz.f47 hE (by kernel_rfl)
def c_dd : Con := ⟨[.ro true kW], [⟨false, [.val], [.bool], false⟩]⟩
def h_dd : How := ⟨getH [(2, ⟨[kI], [(2, (.bool (.b false))), (4, (sI 0))], [], [], 0⟩), (0, ⟨[kI], [(2, (.bool (.b false))), (3, (sI 0))], [], [], 0⟩)],
  getH [],
  getH []⟩
theorem has_dd : Has Tryz.prog 19 c_dd φ_dd := fp (R := rowsS) (tr := false) (E := [(46, 0, c_et), (47, 1, c_dq), (48, 2, c_en)]) (Φ := Φ_dd) (t := t_dd) ⟨has_et, has_dq, has_en, trivial⟩ Tryz.f19 h_dd (by kernel_rfl)
def c_cf : Con := ⟨[.ro true [kI, kI, .list]], [⟨true, v3, [kI, kI, .list], false⟩]⟩
theorem has_cf : Has Tryz.prog 155 c_cf φ_cf := fp (R := rowsS) (tr := false) (E := []) (Φ := ph []) (t := t_cf) trivial Tryz.f155 hE (by kernel_rfl)
def c_ej : Con := ⟨[.ro true [.list, kI]], [⟨true, [(.arr 145 v3), .val], [.list, kI], false⟩]⟩
def h_ej : How := ⟨getH [(0, ⟨[kI, .list], [(4, (sI 0))], [(3, .cells [(.sl 1000), (sI 1001)]), (1000, .arr 145 v3 (.v 1))], [2], 1⟩)],
  getH [],
  getH []⟩
theorem has_ej : Has Tryz.prog 123 c_ej φ_ej := fp (R := rowsS) (tr := false) (E := [(155, 0, c_cf)]) (Φ := Φ_ej) (t := t_ej) ⟨has_cf, trivial⟩ Tryz.f123 h_ej (by kernel_rfl)
def c_dh : Con := ⟨[.ro true kD], [⟨true, [.val, (.arr 145 v3), .val, (.arr 82 v4)], kD, false⟩]⟩
theorem has_dh : Has Tryz.prog 81 c_dh φ_dh := fp (R := rowsS) (tr := false) (E := [(123, 0, c_ej)]) (Φ := Φ_dh) (t := t_dh) ⟨has_ej, trivial⟩ Tryz.f81 hE (by kernel_rfl)
def c_da : Con := ⟨[.ro true kH], [⟨true, [.val, .val, .val, (.arr 145 v3), .val], kH, false⟩]⟩
theorem has_da : Has Tryz.prog 82 c_da φ_da := fp (R := rowsS) (tr := false) (E := [(123, 0, c_ej)]) (Φ := Φ_da) (t := t_da) ⟨has_ej, trivial⟩ Tryz.f82 hE (by kernel_rfl)
def c_ea : Con := ⟨[.ro true kW], [⟨true, [.val, (.arr 145 v3), .val, (.arr 82 v4), (.arr 52 [.val, .val, .val, (.arr 145 v3), .val]), (.arr 82 v4)], kW, false⟩]⟩
def h_ea : How := ⟨getH [(0, ⟨[kI, .list], [(4, (sI 0))], [(2, .cells [(.bool (.v 1006)), (.sl 3), (sI 1007), (.sl 4), (.sl 1000), (.sl 5)]), (1000, .arr 52 [.val, .val, .val, (.arr 145 v3), .val] (.v 1))], [], 1⟩)],
  getH [(2, ⟨[.bool, kI, .list, .list, .list], [(3, (.ptr 1000 0))], [(1000, .cells [(.bool (.v 0)), (.sl 1001), (sI 1), (.sl 1002), .nil, (.sl 1003)]), (1001, .arr 145 v3 (.v 2)), (1002, .arr 82 v4 (.v 3)), (1003, .arr 82 v4 (.v 4))], [], 4⟩)],
  getH []⟩
theorem has_ea : Has Tryz.prog 44 c_ea φ_ea := fp (R := rowsS) (tr := false) (E := [(81, 0, c_dh), (82, 1, c_da)]) (Φ := Φ_ea) (t := t_ea) ⟨has_dh, has_da, trivial⟩ Tryz.f44 h_ea (by kernel_rfl)
def c_cx : Con := ⟨[.own true [.val, (.arr 145 v3), .val, (.arr 82 v4), (.arr 52 [.val, .val, .val, (.arr 145 v3), .val]), (.arr 82 v4)] kW false], [⟨true, [.val, (.arr 145 v3), .val, (.arr 82 v4), (.arr 52 [.val, .val, .val, (.arr 145 v3), .val]), (.arr 82 v4)], kW, false⟩]⟩
def h_cx : How := ⟨getH [(4, ⟨[kI, .bool, kI, .list, .list, .list, .list], [(12, (sI 0))], [(4, .cells [(.bool (.v 1)), (.sl 1000), (sI 2), (.sl 1001), (.sl 1002), (.sl 1003)]), (1000, .arr 145 v3 (.v 3)), (1001, .arr 82 v4 (.v 4)), (1002, .arr 52 [.val, .val, .val, (.arr 145 v3), .val] (.v 5)), (1003, .arr 82 v4 (.v 6))], [10, 11, 12, 13], 4⟩), (2, ⟨[kI, .bool, kI, .list, .list, .list, .list], [(5, (sI 0))], [(4, .cells [(.bool (.v 1)), (.sl 1000), (sI 2), (.sl 1001), (.sl 1002), (.sl 1003)]), (1000, .arr 145 v3 (.v 3)), (1001, .arr 82 v4 (.v 4)), (1002, .arr 52 [.val, .val, .val, (.arr 145 v3), .val] (.v 5)), (1003, .arr 82 v4 (.v 6))], [9, 2, 0, 1], 4⟩), (0, ⟨[kI, .list], [(3, (sI 0))], [(2, .arr 52 [.val, .val, .val, (.arr 145 v3), .val] (.v 1))], [], 0⟩)],
  getH [],
  getH []⟩
theorem has_cx : Has Tryz.prog 45 c_cx φ_cx := fp (R := rowsS) (tr := false) (E := [(83, 0, c_cs), (84, 1, c_de), (85, 2, c_cl)]) (Φ := Φ_cx) (t := t_cx) ⟨has_cs, has_de, has_cl, trivial⟩ Tryz.f45 h_cx (by kernel_rfl)
def c_bq : Con := ⟨[.ro true kW, .ro false [kI]], [⟨true, [.val, .val, .val, .val, .val, .val], kW, false⟩]⟩
def h_bq : How := ⟨getH [(0, ⟨[kI, .bool, kI, .list, .list, .list, .list], [(6, (sI 0))], [(6, .cells [(.bool (.v 1)), (.sl 1000), (sI 2), (.sl 1001), (.sl 1002), (.sl 1003)]), (1000, .arr 145 v3 (.v 3)), (1001, .arr 82 v4 (.v 4)), (1002, .arr 52 [.val, .val, .val, (.arr 145 v3), .val] (.v 5)), (1003, .arr 82 v4 (.v 6))], [2, 3, 4, 5], 4⟩)],
  getH [],
  getH []⟩
theorem has_bq : Has Tryz.prog 18 c_bq φ_bq := fp (R := rowsS) (tr := false) (E := [(19, 0, c_dd), (43, 1, c_fi), (44, 2, c_ea), (45, 3, c_cx)]) (Φ := Φ_bq) (t := t_bq) ⟨has_dd, has_fi, has_ea, has_cx, trivial⟩ Tryz.f18 h_bq (by kernel_rfl)
def c_ek : Con := ⟨[.ro false [.list], .ro false [.list]], [⟨false, [.val], [.bool], false⟩]⟩
def h_ek : How := ⟨getH [(0, ⟨[kI], [(4, (.bool (.b false))), (5, (sI 0))], [], [], 0⟩)],
  getH [],
  getH []⟩
theorem has_ek : Has Tryz.prog 168 c_ek φ_ek := fp (R := []) (tr := false) (E := []) (Φ := ph []) (t := t_ek) trivial Tryz.f168 h_ek (by kernel_rfl)
def c_ex : Con := ⟨[.ro true [kI, kI, .list], .ro true [kI, kI, .list]], [⟨false, [.val], [.bool], false⟩]⟩
theorem has_ex : Has Tryz.prog 148 c_ex φ_ex := fp (R := []) (tr := false) (E := [(168, 0, c_ek)]) (Φ := Φ_ex) (t := t_ex) ⟨has_ek, trivial⟩ Tryz.f148 hE (by kernel_rfl)
def c_ee : Con := ⟨[.ro false [.list], .ro false [.list]], [⟨false, [.val], [.bool], false⟩]⟩
def h_ee : How := ⟨getH [(0, ⟨[kI], [(4, (.bool (.b false))), (5, (sI 0))], [], [], 0⟩)],
  getH [],
  getH []⟩
theorem has_ee : Has Tryz.prog 117 c_ee φ_ee := fp (R := []) (tr := false) (E := [(148, 0, c_ex)]) (Φ := Φ_ee) (t := t_ee) ⟨has_ex, trivial⟩ Tryz.f117 h_ee (by kernel_rfl)
def c_fd : Con := ⟨[.ro true [.list, kI], .ro true [.list, kI]], [⟨false, [.val], [.bool], false⟩]⟩
theorem has_fd : Has Tryz.prog 68 c_fd φ_fd := fp (R := []) (tr := false) (E := [(117, 0, c_ee)]) (Φ := Φ_fd) (t := t_fd) ⟨has_ee, trivial⟩ Tryz.f68 hE (by kernel_rfl)
def c_ec : Con := ⟨[.ro false [.list], .ro false [.list]], [⟨false, [.val], [.bool], false⟩]⟩
def h_ec : How := ⟨getH [(0, ⟨[kI], [(4, (.bool (.b false))), (5, (sI 0))], [], [], 0⟩)],
  getH [],
  getH []⟩
theorem has_ec : Has Tryz.prog 36 c_ec φ_ec := fp (R := []) (tr := false) (E := []) (Φ := ph []) (t := t_ec) trivial Tryz.f36 h_ec (by kernel_rfl)
def c_eg : Con := ⟨[.ro true kD, .ro true kD], [⟨false, [.val], [.bool], false⟩]⟩
theorem has_eg : Has Tryz.prog 35 c_eg φ_eg := fp (R := []) (tr := false) (E := [(68, 0, c_fd), (36, 1, c_ec)]) (Φ := Φ_eg) (t := t_eg) ⟨has_fd, has_ec, trivial⟩ Tryz.f35 hE (by kernel_rfl)
def c_dp : Con := ⟨[.ro true kH, .ro true kH], [⟨false, [.val], [.bool], false⟩]⟩
theorem has_dp : Has Tryz.prog 34 c_dp φ_dp := fp (R := []) (tr := false) (E := [(68, 0, c_fd)]) (Φ := Φ_dp) (t := t_dp) ⟨has_fd, trivial⟩ Tryz.f34 hE (by kernel_rfl)
def c_do : Con := ⟨[.ro true kW, .ro true kW], [⟨false, [.val], [.bool], false⟩]⟩
def h_do : How := ⟨getH [(0, ⟨[kI], [(4, (.bool (.b false))), (5, (sI 0))], [], [], 0⟩)],
  getH [],
  getH []⟩
theorem has_do : Has Tryz.prog 17 c_do φ_do := fp (R := []) (tr := false) (E := [(35, 0, c_eg), (36, 1, c_ec), (34, 2, c_dp)]) (Φ := Φ_do) (t := t_do) ⟨has_eg, has_ec, has_dp, trivial⟩ Tryz.f17 h_do (by kernel_rfl)
end Dx
