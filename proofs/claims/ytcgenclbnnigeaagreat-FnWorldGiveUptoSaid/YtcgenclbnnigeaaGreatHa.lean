/- The seat: its types, its functions' contracts, and that they answer so. -/
import Derived.Test.YtcgenclbnnigeaaGreatProg
import Derived.Test.YtcgenclbnnigeaaGreatXe
import Derived.Test.YtcgenclbnnigeaaGreatYb
set_option linter.all false
set_option linter.unusedVariables false
set_option linter.unusedSimpArgs false
set_option linter.unnecessarySimpa false
namespace Dx
open Go
def tab : List (Nat × TI) :=
[(3, ⟨.int .i64, 1, false, [.int .i64 (.n 0)], 8⟩),
  (4, ⟨.bool, 1, false, [.bool (.b false)], 1⟩),
  (5, ⟨.int .u8, 1, false, [.int .u8 (.n 0)], 1⟩),
  (22, ⟨.slice 5, 1, false, [.nil], 24⟩),
  (23, ⟨.slice 145, 1, false, [.nil], 24⟩),
  (25, ⟨.struct [(0, 1, false), (1, 1, false)], 2, true, [.nil, .int .i64 (.n 0)], 32⟩),
  (26, ⟨.slice 82, 1, false, [.nil], 24⟩),
  (28, ⟨.struct [(0, 1, false), (1, 2, true), (3, 1, false)], 4, true, [.bool (.b false), .nil, .int .i64 (.n 0), .nil], 64⟩),
  (29, ⟨.slice 52, 1, false, [.nil], 24⟩),
  (31, ⟨.struct [(0, 4, true), (4, 1, false), (5, 1, false)], 6, true, [.bool (.b false), .nil, .int .i64 (.n 0), .nil, .nil, .nil], 112⟩),
  (38, ⟨.slice 3, 1, false, [.nil], 24⟩),
  (39, ⟨.slice 61, 1, false, [.nil], 24⟩),
  (44, ⟨.slice 54, 1, false, [.nil], 24⟩),
  (47, ⟨.slice 64, 1, false, [.nil], 24⟩),
  (49, ⟨.struct [(0, 1, false), (1, 1, false)], 2, true, [.int .i64 (.n 0), .nil], 32⟩),
  (52, ⟨.struct [(0, 1, false), (1, 1, false), (2, 1, false), (3, 2, true)], 5, true, [.int .i64 (.n 0), .bool (.b false), .int .i64 (.n 0), .nil, .int .i64 (.n 0)], 56⟩),
  (54, ⟨.struct [(0, 1, false), (1, 1, false)], 2, true, [.nil, .int .i64 (.n 0)], 32⟩),
  (56, ⟨.slice 38, 1, false, [.nil], 24⟩),
  (57, ⟨.slice 56, 1, false, [.nil], 24⟩),
  (61, ⟨.struct [(0, 1, false), (1, 1, false), (2, 1, false), (3, 1, false)], 4, true, [.int .i64 (.n 0), .int .i64 (.n 0), .int .i64 (.n 0), .nil], 48⟩),
  (64, ⟨.struct [(0, 1, false), (1, 1, false)], 2, true, [.int .i64 (.n 0), .int .i64 (.n 0)], 16⟩),
  (82, ⟨.struct [(0, 1, false), (1, 1, false), (2, 1, false), (3, 1, false)], 4, true, [.int .i64 (.n 0), .int .i64 (.n 0), .int .i64 (.n 0), .int .i64 (.n 0)], 32⟩),
  (100, ⟨.struct [(0, 1, false), (1, 1, false)], 2, true, [.nil, .int .i64 (.n 0)], 32⟩),
  (130, ⟨.arr 2 3, 2, true, [.int .i64 (.n 0), .int .i64 (.n 0)], 16⟩),
  (131, ⟨.map 3 130, 1, false, [.any], 8⟩),
  (135, ⟨.slice 26, 1, false, [.nil], 24⟩),
  (145, ⟨.struct [(0, 1, false), (1, 1, false), (2, 1, false)], 3, true, [.int .i64 (.n 0), .int .i64 (.n 0), .nil], 40⟩)]

def tab' : Tab := getT tab
theorem tab_ok : TabOk Proofs.Tryz.prog (getT tab) := tabB_ok (by kernel_rfl)
end Dx

namespace Dx
open Go Go.Proofs
def eqs : List (Nat × Nat) := [(82, 4), (64, 2)]
theorem eqs_ok : EqOk Tryz.prog (getQ eqs) := eqB_ok (by kernel_rfl)
theorem mixed_ok : Tryz.prog.follows .mixedOrders = true := by kernel_rfl
def rowsS : List (Nat × List Sh) := [(52, [.val, .val, .val, (.arr 145 [.val, .val, .val]), .val])]
def bodyOf (fn : Func) : Code := match fn.body with
  | some b => b
  | none => .skip
def gE (R : List (Nat × List Sh)) (tr : Bool) (E : List (Nat × Nat × Con)) : Env := ⟨getT tab, getQ eqs, getR R, getE E, tr⟩
abbrev hE : How := ⟨getH [], getH [], getH []⟩
abbrev sI (n : Nat) : SV := .int .i64 (.v n)
theorem fo {G : Env} {Φ : Phi} (hG : EnvOk Tryz.prog G Φ) {f : FuncId} (fn : Func) {c : Con} (H : How) {t : Tree} (h : (Tryz.prog.funcs[f]?, fn.body, fn.name == "runtime.NumGoroutine", fnT G H c fn (bodyOf fn)) = (some fn, some (bodyOf fn), false, t)) : Has Tryz.prog f c (fun cs => retOf (den Φ t cs)) := by
  simp only [Prod.mk.injEq] at h
  exact fn_ok hG h.1 h.2.1 h.2.2.1 h.2.2.2
theorem eo {E : Nat -> List (Nat × Con)} {R : Rows} {tr : Bool} {Φ : Phi} (h : ∀ f c, c ∈ E f -> Has Tryz.prog f c.2 (Φ c.1)) : EnvOk Tryz.prog ⟨getT tab, getQ eqs, R, E, tr⟩ Φ := ⟨tab_ok, eqs_ok, h, mixed_ok⟩
theorem fp {E : List (Nat × Nat × Con)} {R : List (Nat × List Sh)} {tr : Bool} {Φ : Phi} (m : hasAll Tryz.prog Φ E) {f : FuncId} (fn : Func) {c : Con} (H : How) {t : Tree} (h : (Tryz.prog.funcs[f]?, fn.body, fn.name == "runtime.NumGoroutine", fnT (gE R tr E) H c fn (bodyOf fn)) = (some fn, some (bodyOf fn), false, t)) : Has Tryz.prog f c (fun cs => retOf (den Φ t cs)) := fo (eo (getE_ok (hasAll_get m))) fn H h
abbrev v5 : List Sh := [.val, .val, .val, .val, .val]
abbrev v4 : List Sh := [.val, .val, .val, .val]
abbrev v3 : List Sh := [.val, .val, .val]
abbrev kW : List CK := [.bool, .list, kI, .list, .list, .list]
abbrev kD : List CK := [.bool, .list, kI, .list]
abbrev kH : List CK := [kI, .bool, kI, .list, kI]
abbrev kJ : List CK := [kI, kI, kI, kI]
def c_fe : Con := ⟨[.own false [.val] [.list] false], [⟨false, [.val, .val], [.list, kI], true⟩]⟩
theorem has_fe : Has Tryz.prog 37 c_fe φ_fe := fp (R := rowsS) (tr := false) (E := []) (Φ := ph []) (t := t_fe) trivial Tryz.f37 hE (by kernel_rfl)
def c_cj : Con := ⟨[.ptr [.val, .val] [.list, kI], .ro false [kI]], [⟨false, [.val], [kI], false⟩]⟩
theorem has_cj : Has Tryz.prog 39 c_cj φ_cj := fp (R := rowsS) (tr := false) (E := []) (Φ := ph []) (t := t_cj) trivial Tryz.f39 hE (by kernel_rfl)
def c_do : Con := ⟨[.ptr [.val, .val] [.list, kI]], [⟨false, [(.arr 3 [.val])], [.list], false⟩]⟩
theorem has_do : Has Tryz.prog 97 c_do φ_do := fp (R := rowsS) (tr := false) (E := [(39, 0, c_cj)]) (Φ := Φ_do) (t := t_do) ⟨has_cj, trivial⟩ Tryz.f97 hE (by kernel_rfl)
def c_eu : Con := ⟨[], [⟨true, [.val, (.arr 145 v3), .val, (.arr 82 v4)], kD, false⟩]⟩
theorem has_eu : Has Tryz.prog 106 c_eu φ_eu := fp (R := rowsS) (tr := false) (E := []) (Φ := ph []) (t := t_eu) trivial Tryz.f106 hE (by kernel_rfl)
def c_gb : Con := ⟨[.ro false [kI], .ro false [kI], .ro false [kI]], [⟨false, [.val], [.bool], false⟩]⟩
theorem has_gb : Has Tryz.prog 43 c_gb φ_gb := fp (R := rowsS) (tr := false) (E := []) (Φ := ph []) (t := t_gb) trivial Tryz.f43 hE (by kernel_rfl)
def c_dl : Con := ⟨[.ro false [kI]], [⟨true, [.val, (.arr 64 [.val, .val])], [kI, .list], false⟩, ⟨false, [.val], [.bool], false⟩]⟩
theorem has_dl : Has Tryz.prog 129 c_dl φ_dl := fp (R := rowsS) (tr := false) (E := [(43, 0, c_gb)]) (Φ := Φ_dl) (t := t_dl) ⟨has_gb, trivial⟩ Tryz.f129 hE (by kernel_rfl)
def c_df : Con := ⟨[.ro false [kI], .ro false [kI]], [⟨true, [.val, .val, .val, (.arr 145 v3), .val], kH, false⟩, ⟨false, [.val], [.bool], false⟩]⟩
theorem has_df : Has Tryz.prog 107 c_df φ_df := fp (R := rowsS) (tr := false) (E := [(129, 0, c_dl), (43, 1, c_gb)]) (Φ := Φ_df) (t := t_df) ⟨has_dl, has_gb, trivial⟩ Tryz.f107 hE (by kernel_rfl)
def c_ds : Con := ⟨[.ro false [.list]], [⟨true, [.val, (.arr 145 v3), .val, (.arr 82 v4), (.arr 52 [.val, .val, .val, (.arr 145 v3), .val]), (.arr 82 v4)], kW, false⟩, ⟨false, [.val], [.bool], false⟩]⟩
def h_ds : How := ⟨getH [(0, ⟨[kI, .list], [(3, (.bool (.b false))), (5, (sI 0))], [(4, .cells [(.bool (.v 1001)), (.sl 1), (sI 1003), (.sl 2), (.sl 1000), (.sl 3)]), (1000, .arr 52 [.val, .val, .val, (.arr 145 v3), .val] (.v 1))], [], 1⟩)],
  getH [],
  getH []⟩
theorem has_ds : Has Tryz.prog 56 c_ds φ_ds := fp (R := rowsS) (tr := false) (E := [(106, 0, c_eu), (107, 1, c_df)]) (Φ := Φ_ds) (t := t_ds) ⟨has_eu, has_df, trivial⟩ Tryz.f56 h_ds (by kernel_rfl)
def c_fq : Con := ⟨[.ro false [.list]], [⟨false, [.val], [.bool], false⟩]⟩
def h_fq : How := ⟨getH [(0, ⟨[kI, kI], [(2, (.bool (.b false))), (3, (sI 0)), (4, (sI 1))], [], [], 0⟩)],
  getH [],
  getH []⟩
theorem has_fq : Has Tryz.prog 161 c_fq φ_fq := fp (R := rowsS) (tr := false) (E := [(43, 0, c_gb)]) (Φ := Φ_fq) (t := t_fq) ⟨has_gb, trivial⟩ Tryz.f161 h_fq (by kernel_rfl)
def c_fr : Con := ⟨[.ro true [kI, kI, .list]], [⟨false, [.val], [.bool], false⟩]⟩
theorem has_fr : Has Tryz.prog 126 c_fr φ_fr := fp (R := rowsS) (tr := false) (E := [(43, 0, c_gb), (161, 1, c_fq)]) (Φ := Φ_fr) (t := t_fr) ⟨has_gb, has_fq, trivial⟩ Tryz.f126 hE (by kernel_rfl)
def c_fk : Con := ⟨[.ro false [.list], .ro true [kI, kI, .list]], [⟨false, [.val], [.bool], false⟩]⟩
theorem has_fk : Has Tryz.prog 127 c_fk φ_fk := fp (R := rowsS) (tr := false) (E := []) (Φ := ph []) (t := t_fk) trivial Tryz.f127 hE (by kernel_rfl)
def c_spec_l12Do : Con := ⟨[.own false [(.arr 54 [.val, .val])] [.list] false, .ro true [kI, kI, .list]], [⟨false, [(.arr 54 [.val, .val])], [.list], false⟩]⟩
theorem has_spec_l12Do : Has Tryz.prog 128 c_spec_l12Do φ_spec_l12Do := fp (R := rowsS) (tr := false) (E := []) (Φ := ph []) (t := t_spec_l12Do) trivial Tryz.f128 hE (by kernel_rfl)
def c_fs : Con := ⟨[.ro false [.list]], [⟨false, [.val], [.list], false⟩, ⟨false, [.val], [.bool], false⟩]⟩
def h_fs : How := ⟨getH [(0, ⟨[kI, .list], [(2, .nil), (3, (.bool (.b false))), (4, (.sl 1000)), (5, (sI 0))], [(1000, .arr 54 [.val, .val] (.v 1))], [0], 1⟩)],
  getH [],
  getH []⟩
theorem has_fs : Has Tryz.prog 86 c_fs φ_fs := fp (R := rowsS) (tr := false) (E := [(126, 0, c_fr), (127, 1, c_fk), (128, 2, c_spec_l12Do)]) (Φ := Φ_fs) (t := t_fs) ⟨has_fr, has_fk, has_spec_l12Do, trivial⟩ Tryz.f86 h_fs (by kernel_rfl)
def c_dq : Con := ⟨[.ro true kD, .ro false [.bool]], [⟨false, [.val], [.list], false⟩]⟩
theorem has_dq : Has Tryz.prog 116 c_dq φ_dq := fp (R := rowsS) (tr := false) (E := [(86, 0, c_fs)]) (Φ := Φ_dq) (t := t_dq) ⟨has_fs, trivial⟩ Tryz.f116 hE (by kernel_rfl)
def c_fz : Con := ⟨[.own true [(.arr 145 v3), .val] [.list, kI] false, .own true v3 [kI, kI, .list] false], [⟨true, [(.arr 145 v3), .val], [.list, kI], false⟩, ⟨false, [.val], [.bool], false⟩]⟩
theorem has_fz : Has Tryz.prog 159 c_fz φ_fz := fp (R := rowsS) (tr := false) (E := []) (Φ := ph []) (t := t_fz) trivial Tryz.f159 hE (by kernel_rfl)
def c_dt : Con := ⟨[.own true [.val, (.arr 145 v3), .val, (.arr 82 v4)] kD false, .own true v3 [kI, kI, .list] false], [⟨true, [.val, (.arr 145 v3), .val, (.arr 82 v4)], kD, false⟩, ⟨false, [.val], [.bool], false⟩]⟩
theorem has_dt : Has Tryz.prog 142 c_dt φ_dt := fp (R := rowsS) (tr := false) (E := [(116, 0, c_dq), (127, 1, c_fk), (159, 2, c_fz)]) (Φ := Φ_dt) (t := t_dt) ⟨has_dq, has_fk, has_fz, trivial⟩ Tryz.f142 hE (by kernel_rfl)
def c_eo : Con := ⟨[.ro false [.list], .ro true kJ], [⟨false, [.val], [.bool], false⟩]⟩
def h_eo : How := ⟨getH [(0, ⟨[kI], [(4, (.bool (.b false))), (5, (sI 0))], [], [], 0⟩)],
  getH [],
  getH []⟩
theorem has_eo : Has Tryz.prog 88 c_eo φ_eo := fp (R := rowsS) (tr := false) (E := []) (Φ := ph []) (t := t_eo) trivial Tryz.f88 h_eo (by kernel_rfl)
def c_dc : Con := ⟨[.ro true kD], [⟨false, [.val], [.list], false⟩]⟩
def h_dc : How := ⟨getH [(0, ⟨[kI, .list], [(3, (.sl 1000)), (5, (sI 0))], [(1000, .arr 82 v4 (.v 1))], [1], 1⟩), (2, ⟨[kI, .list], [(3, (.sl 1000)), (6, (sI 0))], [(1000, .arr 82 v4 (.v 1))], [2], 1⟩)],
  getH [],
  getH []⟩
theorem has_dc : Has Tryz.prog 83 c_dc φ_dc := fp (R := rowsS) (tr := false) (E := [(116, 0, c_dq), (88, 1, c_eo)]) (Φ := Φ_dc) (t := t_dc) ⟨has_dq, has_eo, trivial⟩ Tryz.f83 h_dc (by kernel_rfl)
def c_fo : Con := ⟨[.own true [.val, (.arr 145 v3), .val, (.arr 82 v4), (.arr 52 [.val, .val, .val, (.arr 145 v3), .val]), (.arr 82 v4)] kW false, .ro true kJ], [⟨true, [.val, (.arr 145 v3), .val, (.arr 82 v4), (.arr 52 [.val, .val, .val, (.arr 145 v3), .val]), (.arr 82 v4)], kW, false⟩]⟩
theorem has_fo : Has Tryz.prog 143 c_fo φ_fo := fp (R := rowsS) (tr := false) (E := []) (Φ := ph []) (t := t_fo) trivial Tryz.f143 hE (by kernel_rfl)
def c_ey : Con := ⟨[.own true [.val, (.arr 145 v3), .val, (.arr 82 v4), (.arr 52 [.val, .val, .val, (.arr 145 v3), .val]), (.arr 82 v4)] kW false, .ro true [kI, kI, kI, .list]], [⟨true, [.val, (.arr 145 v3), .val, (.arr 82 v4), (.arr 52 [.val, .val, .val, (.arr 145 v3), .val]), (.arr 82 v4)], kW, false⟩]⟩
theorem has_ey : Has Tryz.prog 108 c_ey φ_ey := fp (R := rowsS) (tr := false) (E := [(116, 0, c_dq), (126, 1, c_fr), (142, 2, c_dt), (43, 3, c_gb), (83, 4, c_dc), (143, 5, c_fo)]) (Φ := Φ_ey) (t := t_ey) ⟨has_dq, has_fr, has_dt, has_gb, has_dc, has_fo, trivial⟩ Tryz.f108 hE (by kernel_rfl)
def c_ep : Con := ⟨[.own true [.val, (.arr 145 v3), .val, (.arr 82 v4), (.arr 52 [.val, .val, .val, (.arr 145 v3), .val]), (.arr 82 v4)] kW false, .ro false [kI]], [⟨true, [.val, (.arr 145 v3), .val, (.arr 82 v4), (.arr 52 [.val, .val, .val, (.arr 145 v3), .val]), (.arr 82 v4)], kW, false⟩]⟩
theorem has_ep : Has Tryz.prog 144 c_ep φ_ep := fp (R := rowsS) (tr := false) (E := []) (Φ := ph []) (t := t_ep) trivial Tryz.f144 hE (by kernel_rfl)
def c_ff : Con := ⟨[.ro true kJ], [⟨false, [.val], [.bool], false⟩]⟩
theorem has_ff : Has Tryz.prog 48 c_ff φ_ff := fp (R := rowsS) (tr := false) (E := [(43, 0, c_gb)]) (Φ := Φ_ff) (t := t_ff) ⟨has_gb, trivial⟩ Tryz.f48 hE (by kernel_rfl)
def c_fc : Con := ⟨[.ro true kD, .ro false [kI], .ro false [.list], .ro false [kI]], [⟨false, [.val], [.bool], false⟩]⟩
def h_fc : How := ⟨getH [(0, ⟨[kI], [(8, (.bool (.b false))), (9, (sI 0))], [], [], 0⟩)],
  getH [],
  getH []⟩
theorem has_fc : Has Tryz.prog 170 c_fc φ_fc := fp (R := rowsS) (tr := false) (E := [(88, 0, c_eo)]) (Φ := Φ_fc) (t := t_fc) ⟨has_eo, trivial⟩ Tryz.f170 h_fc (by kernel_rfl)
def c_fj : Con := ⟨[.ro true kD, .ro false [kI], .ro false [.list], .ro false [kI]], [⟨false, [.val], [.bool], false⟩]⟩
def h_fj : How := ⟨getH [(0, ⟨[kI], [(8, (.bool (.b false))), (9, (sI 0))], [], [], 0⟩)],
  getH [],
  getH []⟩
theorem has_fj : Has Tryz.prog 171 c_fj φ_fj := fp (R := rowsS) (tr := false) (E := [(88, 0, c_eo)]) (Φ := Φ_fj) (t := t_fj) ⟨has_eo, trivial⟩ Tryz.f171 h_fj (by kernel_rfl)
def c_ci : Con := ⟨[.own true [.val, (.arr 145 v3), .val, (.arr 82 v4)] kD false, .ro false [kI]], [⟨true, [.val, (.arr 145 v3), .val, (.arr 82 v4)], kD, false⟩]⟩
def h_ci : How := ⟨getH [],
  getH [(9, ⟨[.bool], [(47, (.bool (.v 0)))], [], [], 0⟩), (7, ⟨[.bool], [(36, (.bool (.v 0)))], [], [], 0⟩), (5, ⟨[.bool], [(8, (.bool (.v 0)))], [], [], 0⟩)],
  getH []⟩
theorem has_ci : Has Tryz.prog 156 c_ci φ_ci := fp (R := rowsS) (tr := false) (E := [(116, 0, c_dq), (170, 1, c_fc), (171, 2, c_fj), (142, 3, c_dt)]) (Φ := Φ_ci) (t := t_ci) ⟨has_dq, has_fc, has_fj, has_dt, trivial⟩ Tryz.f156 h_ci (by kernel_rfl)
def c_dy : Con := ⟨[.own true [.val, (.arr 145 v3), .val, (.arr 82 v4)] kD false, .ro true kJ], [⟨true, [.val, (.arr 145 v3), .val, (.arr 82 v4)], kD, false⟩]⟩
theorem has_dy : Has Tryz.prog 124 c_dy φ_dy := fp (R := rowsS) (tr := false) (E := [(48, 0, c_ff), (116, 1, c_dq), (88, 2, c_eo), (156, 3, c_ci)]) (Φ := Φ_dy) (t := t_dy) ⟨has_ff, has_dq, has_eo, has_ci, trivial⟩ Tryz.f124 hE (by kernel_rfl)
def c_ez : Con := ⟨[.ro true [kI, .list]], [⟨false, [.val], [kI], false⟩]⟩
def h_ez : How := ⟨getH [(0, ⟨[kI, kI], [(3, (sI 0)), (4, (sI 1))], [], [], 0⟩)],
  getH [],
  getH []⟩
theorem has_ez : Has Tryz.prog 162 c_ez φ_ez := fp (R := rowsS) (tr := false) (E := []) (Φ := ph []) (t := t_ez) trivial Tryz.f162 h_ez (by kernel_rfl)
def c_fy : Con := ⟨[.ro true [kI, .list], .ro true [kI, kI, .list]], [⟨false, [.val], [.bool], false⟩]⟩
theorem has_fy : Has Tryz.prog 130 c_fy φ_fy := fp (R := rowsS) (tr := false) (E := [(162, 0, c_ez)]) (Φ := Φ_fy) (t := t_fy) ⟨has_ez, trivial⟩ Tryz.f130 hE (by kernel_rfl)
def c_spec_l2Do : Con := ⟨[.own true [.val, (.arr 64 [.val, .val])] [kI, .list] false, .ro true [kI, kI, .list]], [⟨true, [.val, (.arr 64 [.val, .val])], [kI, .list], false⟩]⟩
theorem has_spec_l2Do : Has Tryz.prog 131 c_spec_l2Do φ_spec_l2Do := fp (R := rowsS) (tr := false) (E := []) (Φ := ph []) (t := t_spec_l2Do) trivial Tryz.f131 hE (by kernel_rfl)
def c_gc : Con := ⟨[.ro false [kI], .ro false [.list]], [⟨true, [.val, .val], [kI, .list], false⟩, ⟨false, [.val], [.bool], false⟩]⟩
def h_gc : How := ⟨getH [(0, ⟨[kI, kI, .list], [(5, (.bool (.b false))), (8, (sI 0))], [(2, .cells [(sI 1), (.sl 1000)]), (1000, .arr 64 [.val, .val] (.v 2))], [1], 1⟩)],
  getH [],
  getH []⟩
theorem has_gc : Has Tryz.prog 89 c_gc φ_gc := fp (R := rowsS) (tr := false) (E := [(129, 0, c_dl), (126, 1, c_fr), (130, 2, c_fy), (131, 3, c_spec_l2Do)]) (Φ := Φ_gc) (t := t_gc) ⟨has_dl, has_fr, has_fy, has_spec_l2Do, trivial⟩ Tryz.f89 h_gc (by kernel_rfl)
def c_dj : Con := ⟨[.ro true kH, .ro false [.bool]], [⟨true, [.val, .val], [kI, .list], false⟩]⟩
theorem has_dj : Has Tryz.prog 157 c_dj φ_dj := fp (R := rowsS) (tr := false) (E := [(89, 0, c_gc)]) (Φ := Φ_dj) (t := t_dj) ⟨has_gc, trivial⟩ Tryz.f157 hE (by kernel_rfl)
def c_fi : Con := ⟨[.ro true kJ], [⟨true, v3, [kI, kI, .list], false⟩]⟩
theorem has_fi : Has Tryz.prog 158 c_fi φ_fi := fp (R := rowsS) (tr := false) (E := []) (Φ := ph []) (t := t_fi) trivial Tryz.f158 hE (by kernel_rfl)
def c_cx : Con := ⟨[.ro true kH, .ro true kJ, .ro false [kI]], [⟨true, v4, kJ, false⟩, ⟨false, [.val], [.bool], false⟩]⟩
def h_cx : How := ⟨getH [],
  getH [(6, ⟨[.bool], [(28, (.bool (.v 0)))], [], [], 0⟩), (4, ⟨[.bool], [(15, (.bool (.v 0)))], [], [], 0⟩)],
  getH []⟩
theorem has_cx : Has Tryz.prog 160 c_cx φ_cx := fp (R := rowsS) (tr := false) (E := []) (Φ := ph []) (t := t_cx) trivial Tryz.f160 h_cx (by kernel_rfl)
def c_ei : Con := ⟨[.own true [.val, .val, .val, (.arr 145 v3), .val] kH false, .ro true kJ], [⟨true, [.val, .val, .val, (.arr 145 v3), .val], kH, false⟩, ⟨true, v4, kJ, false⟩, ⟨false, [.val], [.bool], false⟩]⟩
theorem has_ei : Has Tryz.prog 125 c_ei φ_ei := fp (R := rowsS) (tr := false) (E := [(48, 0, c_ff), (157, 1, c_dj), (158, 2, c_fi), (130, 3, c_fy), (159, 4, c_fz), (160, 5, c_cx)]) (Φ := Φ_ei) (t := t_ei) ⟨has_ff, has_dj, has_fi, has_fy, has_fz, has_cx, trivial⟩ Tryz.f125 hE (by kernel_rfl)
def c_eb : Con := ⟨[.own true [.val, (.arr 145 v3), .val, (.arr 82 v4), (.arr 52 [.val, .val, .val, (.arr 145 v3), .val]), (.arr 82 v4)] kW false, .ro true kJ], [⟨true, [.val, (.arr 145 v3), .val, (.arr 82 v4), (.arr 52 [.val, .val, .val, (.arr 145 v3), .val]), (.arr 82 v4)], kW, false⟩, ⟨true, v4, kJ, false⟩, ⟨false, [.val], [.bool], false⟩]⟩
theorem has_eb : Has Tryz.prog 84 c_eb φ_eb := fp (R := rowsS) (tr := false) (E := [(124, 0, c_dy), (125, 1, c_ei)]) (Φ := Φ_eb) (t := t_eb) ⟨has_dy, has_ei, trivial⟩ Tryz.f84 hE (by kernel_rfl)
def c_fg : Con := ⟨[.own true [.val, (.arr 145 v3), .val, (.arr 82 v4), (.arr 52 [.val, .val, .val, (.arr 145 v3), .val]), (.arr 82 v4)] kW false, .ro true [kI, kI, kI, .list]], [⟨true, [.val, (.arr 145 v3), .val, (.arr 82 v4), (.arr 52 [.val, .val, .val, (.arr 145 v3), .val]), (.arr 82 v4)], kW, false⟩]⟩
theorem has_fg : Has Tryz.prog 109 c_fg φ_fg := fp (R := rowsS) (tr := false) (E := [(43, 0, c_gb), (144, 1, c_ep), (143, 2, c_fo), (84, 3, c_eb)]) (Φ := Φ_fg) (t := t_fg) ⟨has_gb, has_ep, has_fo, has_eb, trivial⟩ Tryz.f109 hE (by kernel_rfl)
def c_dg : Con := ⟨[.own true [.val, (.arr 145 v3), .val, (.arr 82 v4), (.arr 52 [.val, .val, .val, (.arr 145 v3), .val]), (.arr 82 v4)] kW false, .ro false [kI]], [⟨true, [.val, (.arr 145 v3), .val, (.arr 82 v4), (.arr 52 [.val, .val, .val, (.arr 145 v3), .val]), (.arr 82 v4)], kW, false⟩]⟩
def h_dg : How := ⟨getH [],
  getH [(3, ⟨[kI], [], [(4, .cells [(.bool (.v 1000)), (.sl 0), (sI 0), (.sl 1), (.sl 2), (.sl 3)])], [], 0⟩)],
  getH []⟩
theorem has_dg : Has Tryz.prog 85 c_dg φ_dg := fp (R := rowsS) (tr := false) (E := [(43, 0, c_gb)]) (Φ := Φ_dg) (t := t_dg) ⟨has_gb, trivial⟩ Tryz.f85 h_dg (by kernel_rfl)
def c_fn : Con := ⟨[.own true [(.arr 145 v3), .val] [.list, kI] false, .ro false [kI]], [⟨true, [(.arr 145 v3), .val], [.list, kI], false⟩]⟩
theorem has_fn : Has Tryz.prog 146 c_fn φ_fn := fp (R := rowsS) (tr := true) (E := []) (Φ := ph []) (t := t_fn) trivial Tryz.f146 hE (by kernel_rfl)
def c_ee : Con := ⟨[.own true [.val, (.arr 145 v3), .val, (.arr 82 v4)] kD false, .ro false [kI]], [⟨true, [.val, (.arr 145 v3), .val, (.arr 82 v4)], kD, false⟩]⟩
theorem has_ee : Has Tryz.prog 145 c_ee φ_ee := fp (R := rowsS) (tr := false) (E := [(146, 0, c_fn)]) (Φ := Φ_ee) (t := t_ee) ⟨has_fn, trivial⟩ Tryz.f145 hE (by kernel_rfl)
def c_el : Con := ⟨[.own true [.val, (.arr 145 v3), .val, (.arr 82 v4), (.arr 52 [.val, .val, .val, (.arr 145 v3), .val]), (.arr 82 v4)] kW false, .ro true [kI, kI, kI, .list]], [⟨true, [.val, (.arr 145 v3), .val, (.arr 82 v4), (.arr 52 [.val, .val, .val, (.arr 145 v3), .val]), (.arr 82 v4)], kW, false⟩]⟩
theorem has_el : Has Tryz.prog 110 c_el φ_el := fp (R := rowsS) (tr := false) (E := [(43, 0, c_gb), (85, 1, c_dg), (145, 2, c_ee), (146, 3, c_fn)]) (Φ := Φ_el) (t := t_el) ⟨has_gb, has_dg, has_ee, has_fn, trivial⟩ Tryz.f110 hE (by kernel_rfl)
def c_ft : Con := ⟨[.own true [.val, (.arr 145 v3), .val, (.arr 82 v4), (.arr 52 [.val, .val, .val, (.arr 145 v3), .val]), (.arr 82 v4)] kW false, .ro true [kI, kI, kI, .list]], [⟨true, [.val, (.arr 145 v3), .val, (.arr 82 v4), (.arr 52 [.val, .val, .val, (.arr 145 v3), .val]), (.arr 82 v4)], kW, false⟩]⟩
def h_ft : How := ⟨getH [],
  getH [(5, ⟨[.bool], [(7, (.bool (.v 0)))], [], [], 0⟩)],
  getH []⟩
theorem has_ft : Has Tryz.prog 57 c_ft φ_ft := fp (R := rowsS) (tr := false) (E := [(108, 0, c_ey), (109, 1, c_fg), (110, 2, c_el)]) (Φ := Φ_ft) (t := t_ft) ⟨has_ey, has_fg, has_el, trivial⟩ Tryz.f57 h_ft (by kernel_rfl)
def c_dh : Con := ⟨[.ptr [.val, .val] [.list, kI], .ro true kW], [⟨true, v4, [kI, kI, kI, .list], false⟩]⟩
def h_dh : How := ⟨getH [],
  getH [(25, ⟨[.bool], [(77, (.bool (.v 0)))], [], [], 0⟩), (17, ⟨[.bool], [(52, (.bool (.v 0)))], [], [], 0⟩), (9, ⟨[.bool], [(32, (.bool (.v 0)))], [], [], 0⟩), (6, ⟨[.list, kI], [], [(0, .cells [(.view true (.v 0)), (sI 1)])], [], 0⟩)],
  getH []⟩
theorem has_dh : Has Tryz.prog 66 c_dh φ_dh := fp (R := rowsS) (tr := false) (E := [(116, 0, c_dq), (83, 1, c_dc), (39, 2, c_cj)]) (Φ := Φ_dh) (t := t_dh) ⟨has_dq, has_dc, has_cj, trivial⟩ Tryz.f66 h_dh (by kernel_rfl)
def c_ea : Con := ⟨[.ptr [.val, .val] [.list, kI]], [⟨false, [(.arr 3 [.val])], [.list], false⟩, ⟨false, [(.arr 61 v4)], [.list], false⟩, ⟨true, [.val, (.arr 145 v3), .val, (.arr 82 v4), (.arr 52 [.val, .val, .val, (.arr 145 v3), .val]), (.arr 82 v4)], kW, false⟩]⟩
def h_ea : How := ⟨getH [(2, ⟨[kI, .list, kI, .bool, kI, .list, .list, .list, .list, .list], [(8, (.sl 1000)), (11, (sI 0))], [(0, .cells [(.view true (.v 1)), (sI 2)]), (7, .cells [(.bool (.v 3)), (.sl 1001), (sI 4), (.sl 1002), (.sl 1003), (.sl 1004)]), (1000, .arr 61 v4 (.v 5)), (1001, .arr 145 v3 (.v 6)), (1002, .arr 82 v4 (.v 7)), (1003, .arr 52 [.val, .val, .val, (.arr 145 v3), .val] (.v 8)), (1004, .arr 82 v4 (.v 9))], [9, 10, 11, 12, 13], 5⟩), (0, ⟨[kI, .bool, kI, .list, .list, .list, .list, .list], [(8, (.sl 1000)), (29, (sI 0))], [(7, .cells [(.bool (.v 1)), (.sl 1001), (sI 2), (.sl 1002), (.sl 1003), (.sl 1004)]), (1000, .arr 61 v4 (.v 3)), (1001, .arr 145 v3 (.v 4)), (1002, .arr 82 v4 (.v 5)), (1003, .arr 52 [.val, .val, .val, (.arr 145 v3), .val] (.v 6)), (1004, .arr 82 v4 (.v 7))], [8, 3, 4, 5, 6], 5⟩)],
  getH [(11, ⟨[.bool, kI, .list, kI, .list, .list, .list, .list, .list], [(8, (.sl 1000))], [(7, .cells [(.bool (.v 0)), (.sl 1001), (sI 1), (.sl 1002), (.sl 1003), (.sl 1004)]), (0, .cells [(.view true (.v 2)), (sI 3)]), (1000, .arr 61 v4 (.v 4)), (1001, .arr 145 v3 (.v 5)), (1002, .arr 82 v4 (.v 6)), (1003, .arr 52 [.val, .val, .val, (.arr 145 v3), .val] (.v 7)), (1004, .arr 82 v4 (.v 8))], [8, 3, 4, 5, 6], 5⟩)],
  getH []⟩
theorem has_ea : Has Tryz.prog 54 c_ea φ_ea := fp (R := rowsS) (tr := false) (E := [(97, 0, c_do), (56, 1, c_ds), (39, 2, c_cj), (57, 3, c_ft), (66, 4, c_dh)]) (Φ := Φ_ea) (t := t_ea) ⟨has_do, has_ds, has_cj, has_ft, has_dh, trivial⟩ Tryz.f54 h_ea (by kernel_rfl)
def c_ax : Con := ⟨[.own false [.val] [.list] false], [⟨false, [.val], [.list], false⟩, ⟨false, [.val], [.list], false⟩]⟩
def h_ax : How := ⟨getH [(1, ⟨[.list], [(6, (.sl 1000))], [(1000, .arr 61 v4 (.v 0))], [2], 1⟩)],
  getH [],
  getH []⟩
theorem has_ax : Has Tryz.prog 21 c_ax φ_ax := fp (R := rowsS) (tr := false) (E := [(37, 0, c_fe), (54, 1, c_ea), (39, 2, c_cj)]) (Φ := Φ_ax) (t := t_ax) ⟨has_fe, has_ea, has_cj, trivial⟩ Tryz.f21 h_ax (by kernel_rfl)
def c_eq : Con := ⟨[], [⟨true, [.val, .val, .val, (.arr 82 v4)], kD, false⟩]⟩
theorem has_eq : Has Tryz.prog 62 c_eq φ_eq := fp (R := []) (tr := false) (E := []) (Φ := ph []) (t := t_eq) trivial Tryz.f62 hE (by kernel_rfl)
def c_gd : Con := ⟨[.ro false [kI], .ro false [kI], .ro false [kI]], [⟨false, [.val], [.bool], false⟩]⟩
theorem has_gd : Has Tryz.prog 40 c_gd φ_gd := fp (R := []) (tr := false) (E := []) (Φ := ph []) (t := t_gd) trivial Tryz.f40 hE (by kernel_rfl)
def c_ec : Con := ⟨[.ro false [kI]], [⟨false, [.val], [.bool], false⟩]⟩
theorem has_ec : Has Tryz.prog 94 c_ec φ_ec := fp (R := []) (tr := false) (E := [(40, 0, c_gd)]) (Φ := Φ_ec) (t := t_ec) ⟨has_gd, trivial⟩ Tryz.f94 hE (by kernel_rfl)
def c_dr : Con := ⟨[.ro false [kI], .ro false [kI]], [⟨true, v5, kH, false⟩, ⟨false, [.val], [.bool], false⟩]⟩
theorem has_dr : Has Tryz.prog 63 c_dr φ_dr := fp (R := []) (tr := false) (E := [(94, 0, c_ec), (40, 1, c_gd)]) (Φ := Φ_dr) (t := t_dr) ⟨has_ec, has_gd, trivial⟩ Tryz.f63 hE (by kernel_rfl)
def c_dk : Con := ⟨[.ro false [.list]], [⟨true, [.val, .val, .val, (.arr 82 v4), (.arr 52 v5), (.arr 82 v4)], kW, false⟩, ⟨false, [.val], [.bool], false⟩]⟩
def h_dk : How := ⟨getH [(0, ⟨[kI, .list], [(3, (.bool (.b false))), (17, (sI 0))], [(2, .cells [(.bool (.v 1003)), (.view true (.v 1004)), (sI 1005), (.sl 1), (.sl 1000), .nil]), (1000, .arr 52 v5 (.v 1))], [], 1⟩)],
  getH [],
  getH []⟩
theorem has_dk : Has Tryz.prog 27 c_dk φ_dk := fp (R := []) (tr := false) (E := [(62, 0, c_eq), (63, 1, c_dr)]) (Φ := Φ_dk) (t := t_dk) ⟨has_eq, has_dr, trivial⟩ Tryz.f27 h_dk (by kernel_rfl)
def c_bw : Con := ⟨[.ro false [kI]], [⟨false, [.val], [.bool], false⟩]⟩
theorem has_bw : Has Tryz.prog 172 c_bw φ_bw := fp (R := []) (tr := false) (E := [(40, 0, c_gd)]) (Φ := Φ_bw) (t := t_bw) ⟨has_gd, trivial⟩ Tryz.f172 hE (by kernel_rfl)
def c_an : Con := ⟨[.ro false [.list], .fn 172 []], [⟨false, [.val], [kI], false⟩]⟩
def h_an : How := ⟨getH [(0, ⟨[kI], [(4, (.int .i64 (.n 0))), (8, (sI 0))], [], [], 0⟩)],
  getH [],
  getH []⟩
theorem has_an : Has Tryz.prog 176 c_an φ_an := fp (R := []) (tr := false) (E := [(172, 0, c_bw)]) (Φ := Φ_an) (t := t_an) ⟨has_bw, trivial⟩ Tryz.f176 h_an (by kernel_rfl)
def c_ak : Con := ⟨[.ro false [.list], .fn 172 []], [⟨false, [.val], [.bool], false⟩]⟩
theorem has_ak : Has Tryz.prog 174 c_ak φ_ak := fp (R := []) (tr := false) (E := [(176, 0, c_an)]) (Φ := Φ_ak) (t := t_ak) ⟨has_an, trivial⟩ Tryz.f174 hE (by kernel_rfl)
def c_cf : Con := ⟨[.ro false [kI]], [⟨false, [.val], [.bool], false⟩]⟩
theorem has_cf : Has Tryz.prog 173 c_cf φ_cf := fp (R := []) (tr := false) (E := []) (Φ := ph []) (t := t_cf) trivial Tryz.f173 hE (by kernel_rfl)
def c_ao : Con := ⟨[.ro false [.list], .fn 173 []], [⟨false, [.val], [kI], false⟩]⟩
def h_ao : How := ⟨getH [(0, ⟨[kI], [(4, (.int .i64 (.n 0))), (8, (sI 0))], [], [], 0⟩)],
  getH [],
  getH []⟩
theorem has_ao : Has Tryz.prog 176 c_ao φ_ao := fp (R := []) (tr := false) (E := [(173, 0, c_cf)]) (Φ := Φ_ao) (t := t_ao) ⟨has_cf, trivial⟩ Tryz.f176 h_ao (by kernel_rfl)
def c_al : Con := ⟨[.ro false [.list], .fn 173 []], [⟨false, [.val], [.bool], false⟩]⟩
theorem has_al : Has Tryz.prog 174 c_al φ_al := fp (R := []) (tr := false) (E := [(176, 0, c_ao)]) (Φ := Φ_al) (t := t_al) ⟨has_ao, trivial⟩ Tryz.f174 hE (by kernel_rfl)
def c_dn : Con := ⟨[.ro false [.list]], [⟨false, [.val], [.bool], false⟩]⟩
theorem has_dn : Has Tryz.prog 163 c_dn φ_dn := fp (R := []) (tr := false) (E := [(174, 0, c_ak), (174, 1, c_al)]) (Φ := Φ_dn) (t := t_dn) ⟨has_ak, has_al, trivial⟩ Tryz.f163 hE (by kernel_rfl)
def c_fl : Con := ⟨[.ro false [kI]], [⟨false, [.val], [.bool], false⟩]⟩
theorem has_fl : Has Tryz.prog 64 c_fl φ_fl := fp (R := []) (tr := false) (E := [(40, 0, c_gd)]) (Φ := Φ_fl) (t := t_fl) ⟨has_gd, trivial⟩ Tryz.f64 hE (by kernel_rfl)
def c_fu : Con := ⟨[.ro true [kI, kI, .list]], [⟨false, [.val], [.bool], false⟩]⟩
theorem has_fu : Has Tryz.prog 133 c_fu φ_fu := fp (R := []) (tr := false) (E := [(40, 0, c_gd), (163, 1, c_dn), (64, 2, c_fl)]) (Φ := Φ_fu) (t := t_fu) ⟨has_gd, has_dn, has_fl, trivial⟩ Tryz.f133 hE (by kernel_rfl)
def c_ef : Con := ⟨[.ro true [kI, kI, .list]], [⟨false, [.val], [.bool], false⟩]⟩
theorem has_ef : Has Tryz.prog 132 c_ef φ_ef := fp (R := []) (tr := false) (E := [(133, 0, c_fu)]) (Φ := Φ_ef) (t := t_ef) ⟨has_fu, trivial⟩ Tryz.f132 hE (by kernel_rfl)
def c_am : Con := ⟨[.ro false [.list], .fn 132 []], [⟨false, [.val], [kI], false⟩]⟩
def h_am : How := ⟨getH [(0, ⟨[kI], [(4, (.int .i64 (.n 0))), (8, (sI 0))], [], [], 0⟩)],
  getH [],
  getH []⟩
theorem has_am : Has Tryz.prog 164 c_am φ_am := fp (R := []) (tr := false) (E := [(132, 0, c_ef)]) (Φ := Φ_am) (t := t_am) ⟨has_ef, trivial⟩ Tryz.f164 h_am (by kernel_rfl)
def c_aj : Con := ⟨[.ro false [.list], .fn 132 []], [⟨false, [.val], [.bool], false⟩]⟩
theorem has_aj : Has Tryz.prog 134 c_aj φ_aj := fp (R := []) (tr := false) (E := [(164, 0, c_am)]) (Φ := Φ_aj) (t := t_aj) ⟨has_am, trivial⟩ Tryz.f134 hE (by kernel_rfl)
def c_fw : Con := ⟨[.ro true [.list, kI]], [⟨false, [.val], [.bool], false⟩]⟩
theorem has_fw : Has Tryz.prog 90 c_fw φ_fw := fp (R := []) (tr := false) (E := [(40, 0, c_gd), (134, 1, c_aj)]) (Φ := Φ_fw) (t := t_fw) ⟨has_gd, has_aj, trivial⟩ Tryz.f90 hE (by kernel_rfl)
def c_cv : Con := ⟨[.ro true [.list, kI]], [⟨false, [.val], [.bool], false⟩]⟩
theorem has_cv : Has Tryz.prog 177 c_cv φ_cv := fp (R := []) (tr := false) (E := [(163, 0, c_dn), (40, 1, c_gd)]) (Φ := Φ_cv) (t := t_cv) ⟨has_dn, has_gd, trivial⟩ Tryz.f177 hE (by kernel_rfl)
def c_ai : Con := ⟨[.ro false [.list], .fn 177 []], [⟨false, [.val], [kI], false⟩]⟩
def h_ai : How := ⟨getH [(0, ⟨[kI], [(4, (.int .i64 (.n 0))), (8, (sI 0))], [], [], 0⟩)],
  getH [],
  getH []⟩
theorem has_ai : Has Tryz.prog 179 c_ai φ_ai := fp (R := []) (tr := false) (E := [(177, 0, c_cv)]) (Φ := Φ_ai) (t := t_ai) ⟨has_cv, trivial⟩ Tryz.f179 h_ai (by kernel_rfl)
def c_ad : Con := ⟨[.ro false [.list], .fn 177 []], [⟨false, [.val], [.bool], false⟩]⟩
theorem has_ad : Has Tryz.prog 178 c_ad φ_ad := fp (R := []) (tr := false) (E := [(179, 0, c_ai)]) (Φ := Φ_ad) (t := t_ad) ⟨has_ai, trivial⟩ Tryz.f178 hE (by kernel_rfl)
def c_ed : Con := ⟨[.ro false [.list]], [⟨false, [.val], [.bool], false⟩]⟩
theorem has_ed : Has Tryz.prog 175 c_ed φ_ed := fp (R := []) (tr := false) (E := [(178, 0, c_ad)]) (Φ := Φ_ed) (t := t_ed) ⟨has_ad, trivial⟩ Tryz.f175 hE (by kernel_rfl)
def c_en : Con := ⟨[.ro false [.list], .ro false [kI]], [⟨false, [.val], [kI], false⟩]⟩
theorem has_en : Has Tryz.prog 154 c_en φ_en := fp (R := []) (tr := false) (E := [(40, 0, c_gd)]) (Φ := Φ_en) (t := t_en) ⟨has_gd, trivial⟩ Tryz.f154 hE (by kernel_rfl)
def c_dv : Con := ⟨[.ro false [.list], .ro true [kI, kI, .list]], [⟨false, [.val], [.bool], false⟩]⟩
theorem has_dv : Has Tryz.prog 165 c_dv φ_dv := fp (R := []) (tr := false) (E := [(175, 0, c_ed), (133, 1, c_fu), (154, 2, c_en)]) (Φ := Φ_dv) (t := t_dv) ⟨has_ed, has_fu, has_en, trivial⟩ Tryz.f165 hE (by kernel_rfl)
def c_bp : Con := ⟨[.ro false [.list]], [⟨false, [.val], [.list], false⟩]⟩
theorem has_bp : Has Tryz.prog 166 c_bp φ_bp := fp (R := []) (tr := false) (E := []) (Φ := ph []) (t := t_bp) trivial Tryz.f166 hE (by kernel_rfl)
def c_et : Con := ⟨[.ro false [.list], .ro true [kI, kI, .list]], [⟨false, [.val], [.list], false⟩, ⟨false, [.val], [.bool], false⟩]⟩
def h_et : How := ⟨getH [(0, ⟨[kI, .list], [(6, (.sl 1000)), (16, (sI 0))], [(1000, .arr 54 [.val, .val] (.v 1))], [], 1⟩)],
  getH [],
  getH []⟩
theorem has_et : Has Tryz.prog 135 c_et φ_et := fp (R := []) (tr := false) (E := [(165, 0, c_dv), (166, 1, c_bp)]) (Φ := Φ_et) (t := t_et) ⟨has_dv, has_bp, trivial⟩ Tryz.f135 h_et (by kernel_rfl)
def c_es : Con := ⟨[.ro false [.list]], [⟨false, [.val], [.list], false⟩, ⟨false, [.val], [.bool], false⟩]⟩
def h_es : How := ⟨getH [(0, ⟨[.list, .bool, kI], [(4, (.view true (.v 0))), (5, (.bool (.v 1))), (6, (sI 2))], [], [], 0⟩)],
  getH [],
  getH []⟩
theorem has_es : Has Tryz.prog 91 c_es φ_es := fp (R := []) (tr := false) (E := [(135, 0, c_et)]) (Φ := Φ_es) (t := t_es) ⟨has_et, trivial⟩ Tryz.f91 h_es (by kernel_rfl)
def c_fd : Con := ⟨[.ro true kJ], [⟨false, [.val], [.bool], false⟩]⟩
theorem has_fd : Has Tryz.prog 53 c_fd φ_fd := fp (R := []) (tr := false) (E := [(40, 0, c_gd), (94, 1, c_ec), (64, 2, c_fl)]) (Φ := Φ_fd) (t := t_fd) ⟨has_gd, has_ec, has_fl, trivial⟩ Tryz.f53 hE (by kernel_rfl)
def c_bo : Con := ⟨[.ro true kJ], [⟨false, [.val], [.bool], false⟩]⟩
theorem has_bo : Has Tryz.prog 92 c_bo φ_bo := fp (R := []) (tr := false) (E := []) (Φ := ph []) (t := t_bo) trivial Tryz.f92 hE (by kernel_rfl)
def c_as : Con := ⟨[.ro false [.list], .ro true kJ], [⟨false, [.val], [kI], false⟩]⟩
def h_as : How := ⟨getH [(0, ⟨[kI], [(4, (.int .i64 (.n 0))), (8, (sI 0))], [], [], 0⟩)],
  getH [],
  getH []⟩
theorem has_as : Has Tryz.prog 136 c_as φ_as := fp (R := []) (tr := false) (E := []) (Φ := ph []) (t := t_as) trivial Tryz.f136 h_as (by kernel_rfl)
def c_ap : Con := ⟨[.ro false [.list], .ro true kJ], [⟨false, [.val], [.bool], false⟩]⟩
theorem has_ap : Has Tryz.prog 93 c_ap φ_ap := fp (R := []) (tr := false) (E := [(136, 0, c_as)]) (Φ := Φ_ap) (t := t_ap) ⟨has_as, trivial⟩ Tryz.f93 hE (by kernel_rfl)
def c_fm : Con := ⟨[.ro true kD], [⟨false, [.val], [.bool], false⟩]⟩
def h_fm : How := ⟨getH [(0, ⟨[kI], [(2, (.bool (.b false))), (32, (sI 0))], [], [], 0⟩)],
  getH [(3, ⟨[], [(2, (.bool (.b false)))], [], [], 0⟩)],
  getH []⟩
theorem has_fm : Has Tryz.prog 49 c_fm φ_fm := fp (R := []) (tr := false) (E := [(90, 0, c_fw), (91, 1, c_es), (53, 2, c_fd), (92, 3, c_bo), (93, 4, c_ap)]) (Φ := Φ_fm) (t := t_fm) ⟨has_fw, has_es, has_fd, has_bo, has_ap, trivial⟩ Tryz.f49 h_fm (by kernel_rfl)
def c_bt : Con := ⟨[.ro true [kI, kI, .list]], [⟨true, v3, [kI, kI, .list], false⟩]⟩
theorem has_bt : Has Tryz.prog 169 c_bt φ_bt := fp (R := []) (tr := false) (E := [(166, 0, c_bp)]) (Φ := Φ_bt) (t := t_bt) ⟨has_bp, trivial⟩ Tryz.f169 hE (by kernel_rfl)
def c_ck : Con := ⟨[.ro true [.list, kI], .ro false [kI], .ro false [kI]], [⟨true, [(.arr 145 v3), .val], [.list, kI], false⟩]⟩
def h_ck : How := ⟨getH [(0, ⟨[kI, .list], [(17, (sI 0))], [(2, .cells [(.sl 1000), (sI 1003)]), (1000, .arr 145 v3 (.v 1))], [], 1⟩)],
  getH [],
  getH []⟩
theorem has_ck : Has Tryz.prog 149 c_ck φ_ck := fp (R := []) (tr := false) (E := [(169, 0, c_bt)]) (Φ := Φ_ck) (t := t_ck) ⟨has_bt, trivial⟩ Tryz.f149 h_ck (by kernel_rfl)
def c_br : Con := ⟨[.ro true [.list, kI]], [⟨true, [(.arr 145 v3), .val], [.list, kI], false⟩]⟩
theorem has_br : Has Tryz.prog 118 c_br φ_br := fp (R := []) (tr := false) (E := [(149, 0, c_ck)]) (Φ := Φ_br) (t := t_br) ⟨has_ck, trivial⟩ Tryz.f118 hE (by kernel_rfl)
def c_at : Con := ⟨[.ro false [.list]], [⟨false, [(.arr 82 v4)], [.list], false⟩]⟩
theorem has_at : Has Tryz.prog 71 c_at φ_at := fp (R := []) (tr := false) (E := []) (Φ := ph []) (t := t_at) trivial Tryz.f71 hE (by kernel_rfl)
def c_bg : Con := ⟨[.ro true kD], [⟨true, [.val, .val, .val, (.arr 82 v4)], kD, false⟩]⟩
theorem has_bg : Has Tryz.prog 70 c_bg φ_bg := fp (R := []) (tr := false) (E := [(118, 0, c_br), (71, 1, c_at)]) (Φ := Φ_bg) (t := t_bg) ⟨has_br, has_at, trivial⟩ Tryz.f70 hE (by kernel_rfl)
def c_da : Con := ⟨[.own true [.val, .val] [.list, kI] false, .ro false [.bool]], [⟨false, [.val], [.list], false⟩]⟩
theorem has_da : Has Tryz.prog 111 c_da φ_da := fp (R := []) (tr := false) (E := []) (Φ := ph []) (t := t_da) trivial Tryz.f111 hE (by kernel_rfl)
def c_ce : Con := ⟨[.ro true kD, .ro false [.bool]], [⟨false, [.val], [.list], false⟩]⟩
theorem has_ce : Has Tryz.prog 58 c_ce φ_ce := fp (R := []) (tr := false) (E := [(111, 0, c_da), (91, 1, c_es)]) (Φ := Φ_ce) (t := t_ce) ⟨has_da, has_es, trivial⟩ Tryz.f58 hE (by kernel_rfl)
def c_fb : Con := ⟨[.ro true [.list, kI], .ro true [kI, kI, .list]], [⟨true, [.val, .val], [.list, kI], false⟩, ⟨false, [.val], [.bool], false⟩]⟩
theorem has_fb : Has Tryz.prog 151 c_fb φ_fb := fp (R := []) (tr := false) (E := [(90, 0, c_fw), (133, 1, c_fu), (118, 2, c_br), (169, 3, c_bt)]) (Φ := Φ_fb) (t := t_fb) ⟨has_fw, has_fu, has_br, has_bt, trivial⟩ Tryz.f151 hE (by kernel_rfl)
def c_ca : Con := ⟨[.ptr [.val, .val, .val, (.arr 82 v4)] kD, .ro true [kI, kI, .list]], [⟨false, [.val], [.bool], false⟩]⟩
theorem has_ca : Has Tryz.prog 139 c_ca φ_ca := fp (R := []) (tr := false) (E := [(58, 0, c_ce), (165, 1, c_dv), (151, 2, c_fb)]) (Φ := Φ_ca) (t := t_ca) ⟨has_ce, has_dv, has_fb, trivial⟩ Tryz.f139 hE (by kernel_rfl)
def c_cl : Con := ⟨[.ro true kD, .ro false [.list]], [⟨true, [.val, .val, .val, (.arr 82 v4)], kD, false⟩, ⟨false, [.val], [.bool], false⟩]⟩
theorem has_cl : Has Tryz.prog 98 c_cl φ_cl := fp (R := []) (tr := false) (E := [(49, 0, c_fm), (70, 1, c_bg), (58, 2, c_ce), (133, 3, c_fu), (139, 4, c_ca)]) (Φ := Φ_cl) (t := t_cl) ⟨has_fm, has_bg, has_ce, has_fu, has_ca, trivial⟩ Tryz.f98 hE (by kernel_rfl)
def c_dp : Con := ⟨[.ro true kD, .ro false [kI]], [⟨true, [.val, .val, .val, (.arr 82 v4)], kD, false⟩, ⟨false, [.val], [.bool], false⟩]⟩
theorem has_dp : Has Tryz.prog 99 c_dp φ_dp := fp (R := []) (tr := false) (E := [(49, 0, c_fm), (64, 1, c_fl), (70, 2, c_bg), (139, 3, c_ca)]) (Φ := Φ_dp) (t := t_dp) ⟨has_fm, has_fl, has_bg, has_ca, trivial⟩ Tryz.f99 hE (by kernel_rfl)
def c_cz : Con := ⟨[.ro true kD, .ro false [kI], .ro false [kI], .ro false [kI]], [⟨false, [.val], [.bool], false⟩]⟩
theorem has_cz : Has Tryz.prog 115 c_cz φ_cz := fp (R := []) (tr := false) (E := [(93, 0, c_ap)]) (Φ := Φ_cz) (t := t_cz) ⟨has_ap, trivial⟩ Tryz.f115 hE (by kernel_rfl)
def c_bz : Con := ⟨[.ro true kD], [⟨false, [.val], [.list], false⟩]⟩
def h_bz : How := ⟨getH [(0, ⟨[kI, .list], [(4, (.sl 1000)), (23, (sI 0))], [(1000, .arr 82 v4 (.v 1))], [], 1⟩), (2, ⟨[kI, .list], [(4, (.sl 1000)), (38, (sI 0))], [(1000, .arr 82 v4 (.v 1))], [2], 1⟩)],
  getH [],
  getH []⟩
theorem has_bz : Has Tryz.prog 65 c_bz φ_bz := fp (R := []) (tr := false) (E := [(58, 0, c_ce), (115, 1, c_cz)]) (Φ := Φ_bz) (t := t_bz) ⟨has_ce, has_cz, trivial⟩ Tryz.f65 h_bz (by kernel_rfl)
def c_bu : Con := ⟨[.ptr [.val, .val, .val, (.arr 82 v4), (.arr 52 v5), (.arr 82 v4)] kW, .ro true kJ], []⟩
theorem has_bu : Has Tryz.prog 100 c_bu φ_bu := fp (R := []) (tr := false) (E := []) (Φ := ph []) (t := t_bu) trivial Tryz.f100 hE (by kernel_rfl)
theorem has_ar : Has Tryz.prog 140 (delCon 82) φ_ar := delete_has (ρ := ⟨fun _ => 140, fun t => match t with | 22 => 26 | 23 => 82 | 3 => 3 | 4 => 4 | _ => 0, fun x => x⟩) ⟨mixed_ok, ⟨Tryz.f140.name, by kernel_rfl, by kernel_rfl⟩, by kernel_rfl, by kernel_rfl, by kernel_rfl, by kernel_rfl⟩
def c_ar : Con := delCon 82
def c_cd : Con := ⟨[.ro true kD, .ro false [kI], .ro false [kI], .ro false [.list]], [⟨false, [.val], [.bool], false⟩, ⟨false, [.val], [.bool], false⟩]⟩
def h_cd : How := ⟨getH [(0, ⟨[.bool, .bool, kI], [(8, (.bool (.v 0))), (9, (.bool (.v 1))), (15, (sI 2))], [], [], 0⟩)],
  getH [],
  getH []⟩
theorem has_cd : Has Tryz.prog 153 c_cd φ_cd := fp (R := []) (tr := false) (E := [(115, 0, c_cz)]) (Φ := Φ_cd) (t := t_cd) ⟨has_cz, trivial⟩ Tryz.f153 h_cd (by kernel_rfl)
def c_bl : Con := ⟨[.ptr [.val, .val, .val, (.arr 82 v4)] kD, .ro false [kI]], []⟩
def h_bl : How := ⟨getH [],
  getH [(9, ⟨[.bool], [(82, (.bool (.v 0)))], [], [], 0⟩), (7, ⟨[.bool], [(71, (.bool (.v 0)))], [], [], 0⟩)],
  getH []⟩
theorem has_bl : Has Tryz.prog 121 c_bl φ_bl := fp (R := []) (tr := false) (E := [(58, 0, c_ce), (153, 1, c_cd), (154, 2, c_en), (139, 3, c_ca)]) (Φ := Φ_bl) (t := t_bl) ⟨has_ce, has_cd, has_en, has_ca, trivial⟩ Tryz.f121 h_bl (by kernel_rfl)
def c_cq : Con := ⟨[.ptr [.val, .val, .val, (.arr 82 v4)] kD, .ro true kJ], []⟩
theorem has_cq : Has Tryz.prog 78 c_cq φ_cq := fp (R := []) (tr := false) (E := [(53, 0, c_fd), (92, 1, c_bo), (58, 2, c_ce), (93, 3, c_ap), (121, 4, c_bl)]) (Φ := Φ_cq) (t := t_cq) ⟨has_fd, has_bo, has_ce, has_ap, has_bl, trivial⟩ Tryz.f78 hE (by kernel_rfl)
def c_dd : Con := ⟨[.ro false [kI]], [⟨true, [.val, (.arr 64 [.val, .val])], [kI, .list], false⟩, ⟨false, [.val], [.bool], false⟩]⟩
theorem has_dd : Has Tryz.prog 137 c_dd φ_dd := fp (R := []) (tr := false) (E := [(40, 0, c_gd)]) (Φ := Φ_dd) (t := t_dd) ⟨has_gd, trivial⟩ Tryz.f137 hE (by kernel_rfl)
def c_ek : Con := ⟨[.ro true [kI, kI]], [⟨false, [.val], [.bool], false⟩]⟩
theorem has_ek : Has Tryz.prog 113 c_ek φ_ek := fp (R := []) (tr := false) (E := [(40, 0, c_gd)]) (Φ := Φ_ek) (t := t_ek) ⟨has_gd, trivial⟩ Tryz.f113 hE (by kernel_rfl)
def c_cp : Con := ⟨[.ro true [kI, kI]], [⟨false, [.val], [.bool], false⟩]⟩
theorem has_cp : Has Tryz.prog 112 c_cp φ_cp := fp (R := []) (tr := false) (E := [(113, 0, c_ek)]) (Φ := Φ_cp) (t := t_cp) ⟨has_ek, trivial⟩ Tryz.f112 hE (by kernel_rfl)
def c_ag : Con := ⟨[.ro false [.list], .fn 112 []], [⟨false, [.val], [kI], false⟩]⟩
def h_ag : How := ⟨getH [(0, ⟨[kI], [(4, (.int .i64 (.n 0))), (8, (sI 0))], [], [], 0⟩)],
  getH [],
  getH []⟩
theorem has_ag : Has Tryz.prog 147 c_ag φ_ag := fp (R := []) (tr := false) (E := [(112, 0, c_cp)]) (Φ := Φ_ag) (t := t_ag) ⟨has_cp, trivial⟩ Tryz.f147 h_ag (by kernel_rfl)
def c_af : Con := ⟨[.ro false [.list], .fn 112 []], [⟨false, [.val], [.bool], false⟩]⟩
theorem has_af : Has Tryz.prog 114 c_af φ_af := fp (R := []) (tr := false) (E := [(147, 0, c_ag)]) (Φ := Φ_af) (t := t_af) ⟨has_ag, trivial⟩ Tryz.f114 hE (by kernel_rfl)
def c_bs : Con := ⟨[.ro true [kI, .list]], [⟨false, [.val], [kI], false⟩]⟩
def h_bs : How := ⟨getH [(0, ⟨[kI, kI], [(3, (sI 0)), (11, (sI 1))], [], [], 0⟩)],
  getH [],
  getH []⟩
theorem has_bs : Has Tryz.prog 60 c_bs φ_bs := fp (R := []) (tr := false) (E := []) (Φ := ph []) (t := t_bs) trivial Tryz.f60 h_bs (by kernel_rfl)
def c_ej : Con := ⟨[.ro true [kI, .list]], [⟨false, [.val], [.bool], false⟩]⟩
theorem has_ej : Has Tryz.prog 59 c_ej φ_ej := fp (R := []) (tr := false) (E := [(40, 0, c_gd), (114, 1, c_af), (60, 2, c_bs)]) (Φ := Φ_ej) (t := t_ej) ⟨has_gd, has_af, has_bs, trivial⟩ Tryz.f59 hE (by kernel_rfl)
def c_dm : Con := ⟨[.ro true [kI, .list], .ro true [kI, kI, .list]], [⟨false, [.val], [.bool], false⟩]⟩
theorem has_dm : Has Tryz.prog 150 c_dm φ_dm := fp (R := []) (tr := false) (E := [(59, 0, c_ej), (133, 1, c_fu), (60, 2, c_bs)]) (Φ := Φ_dm) (t := t_dm) ⟨has_ej, has_fu, has_bs, trivial⟩ Tryz.f150 hE (by kernel_rfl)
def c_au : Con := ⟨[.ro false [.list]], [⟨false, [(.arr 64 [.val, .val])], [.list], false⟩]⟩
theorem has_au : Has Tryz.prog 167 c_au φ_au := fp (R := []) (tr := false) (E := []) (Φ := ph []) (t := t_au) trivial Tryz.f167 hE (by kernel_rfl)
def c_eg : Con := ⟨[.ro true [kI, .list], .ro true [kI, kI, .list]], [⟨true, [.val, .val], [kI, .list], false⟩, ⟨false, [.val], [.bool], false⟩]⟩
def h_eg : How := ⟨getH [],
  getH [(4, ⟨[.list], [(6, (.ptr 1000 0))], [(1000, .cells [(sI 1000), (.sl 1001)]), (1001, .arr 64 [.val, .val] (.v 0))], [], 2⟩)],
  getH []⟩
theorem has_eg : Has Tryz.prog 138 c_eg φ_eg := fp (R := []) (tr := false) (E := [(150, 0, c_dm), (167, 1, c_au)]) (Φ := Φ_eg) (t := t_eg) ⟨has_dm, has_au, trivial⟩ Tryz.f138 h_eg (by kernel_rfl)
def c_er : Con := ⟨[.ro false [kI], .ro false [.list]], [⟨true, [.val, .val], [kI, .list], false⟩, ⟨false, [.val], [.bool], false⟩]⟩
def h_er : How := ⟨getH [(0, ⟨[.bool, kI, kI, .list], [(7, (.bool (.v 0))), (8, (sI 1))], [(2, .cells [(sI 2), (.view true (.v 3))])], [], 0⟩)],
  getH [],
  getH []⟩
theorem has_er : Has Tryz.prog 95 c_er φ_er := fp (R := []) (tr := false) (E := [(137, 0, c_dd), (138, 1, c_eg)]) (Φ := Φ_er) (t := t_er) ⟨has_dd, has_eg, trivial⟩ Tryz.f95 h_er (by kernel_rfl)
def c_dz : Con := ⟨[.ro true kH], [⟨false, [.val], [.bool], false⟩]⟩
theorem has_dz : Has Tryz.prog 50 c_dz φ_dz := fp (R := []) (tr := false) (E := [(94, 0, c_ec), (90, 1, c_fw), (95, 2, c_er)]) (Φ := Φ_dz) (t := t_dz) ⟨has_ec, has_fw, has_er, trivial⟩ Tryz.f50 hE (by kernel_rfl)
def c_bb : Con := ⟨[.ro true kH], [⟨true, v5, kH, false⟩]⟩
theorem has_bb : Has Tryz.prog 72 c_bb φ_bb := fp (R := []) (tr := false) (E := [(118, 0, c_br)]) (Φ := Φ_bb) (t := t_bb) ⟨has_br, trivial⟩ Tryz.f72 hE (by kernel_rfl)
def c_bi : Con := ⟨[.ro true kH, .ro false [.bool]], [⟨true, [.val, .val], [kI, .list], false⟩]⟩
theorem has_bi : Has Tryz.prog 61 c_bi φ_bi := fp (R := []) (tr := false) (E := [(111, 0, c_da), (95, 1, c_er)]) (Φ := Φ_bi) (t := t_bi) ⟨has_da, has_er, trivial⟩ Tryz.f61 hE (by kernel_rfl)
def c_aw : Con := ⟨[.ro true kH, .ro true kJ], [⟨false, [.val], [kI], false⟩]⟩
def h_aw : How := ⟨getH [],
  getH [(5, ⟨[.bool], [(33, (.bool (.v 0)))], [], [], 0⟩), (3, ⟨[.bool], [(25, (.bool (.v 0)))], [], [], 0⟩)],
  getH []⟩
theorem has_aw : Has Tryz.prog 152 c_aw φ_aw := fp (R := []) (tr := false) (E := [(61, 0, c_bi)]) (Φ := Φ_aw) (t := t_aw) ⟨has_bi, trivial⟩ Tryz.f152 h_aw (by kernel_rfl)
def c_ct : Con := ⟨[.ro true kH, .ro true kJ], [⟨true, v5, kH, false⟩, ⟨true, v4, kJ, false⟩, ⟨false, [.val], [.bool], false⟩]⟩
def h_ct : How := ⟨getH [],
  getH [(9, ⟨[.list], [], [(5, .cells [(sI 1005), (sI 1007), (.sl 1000)]), (1000, .arr 3 [.val] (.v 0))], [], 1⟩)],
  getH []⟩
theorem has_ct : Has Tryz.prog 120 c_ct φ_ct := fp (R := []) (tr := false) (E := [(50, 0, c_dz), (72, 1, c_bb), (53, 2, c_fd), (92, 3, c_bo), (61, 4, c_bi), (150, 5, c_dm), (151, 6, c_fb), (152, 7, c_aw)]) (Φ := Φ_ct) (t := t_ct) ⟨has_dz, has_bb, has_fd, has_bo, has_bi, has_dm, has_fb, has_aw, trivial⟩ Tryz.f120 h_ct (by kernel_rfl)
def c_bf : Con := ⟨[.ptr [.val, .val, .val, (.arr 82 v4), (.arr 52 v5), (.arr 82 v4)] kW, .ro true kJ], [⟨true, v4, kJ, false⟩, ⟨false, [.val], [.bool], false⟩]⟩
theorem has_bf : Has Tryz.prog 77 c_bf φ_bf := fp (R := []) (tr := false) (E := [(92, 0, c_bo), (78, 1, c_cq), (120, 2, c_ct)]) (Φ := Φ_bf) (t := t_bf) ⟨has_bo, has_cq, has_ct, trivial⟩ Tryz.f77 hE (by kernel_rfl)
def c_cn : Con := ⟨[.ptr [.val, .val, .val, (.arr 82 v4), (.arr 52 v5), (.arr 82 v4)] kW, .ro true [kI, kI, kI, .list]], []⟩
def h_cn : How := ⟨getH [],
  getH [(3, ⟨kJ, [(4, (.ptr 1000 0))], [(1000, .cells [(sI 0), (sI 1), (sI 2), (sI 3)])], [], 1⟩)],
  getH []⟩
theorem has_cn : Has Tryz.prog 101 c_cn φ_cn := fp (R := []) (tr := false) (E := [(40, 0, c_gd), (100, 1, c_bu), (140, 2, c_ar), (77, 3, c_bf)]) (Φ := Φ_cn) (t := t_cn) ⟨has_gd, has_bu, has_ar, has_bf, trivial⟩ Tryz.f101 h_cn (by kernel_rfl)
def c_di : Con := ⟨[.ro true [.list, kI]], [⟨true, [.val, .val], [.list, kI], false⟩]⟩
theorem has_di : Has Tryz.prog 122 c_di φ_di := fp (R := []) (tr := false) (E := [(90, 0, c_fw), (149, 1, c_ck)]) (Φ := Φ_di) (t := t_di) ⟨has_fw, has_ck, trivial⟩ Tryz.f122 hE (by kernel_rfl)
def c_cr : Con := ⟨[.ro true kD], [⟨true, [.val, .val, .val, (.arr 82 v4)], kD, false⟩]⟩
theorem has_cr : Has Tryz.prog 79 c_cr φ_cr := fp (R := []) (tr := false) (E := [(49, 0, c_fm), (70, 1, c_bg), (122, 2, c_di)]) (Φ := Φ_cr) (t := t_cr) ⟨has_fm, has_bg, has_di, trivial⟩ Tryz.f79 hE (by kernel_rfl)
def c_bx : Con := ⟨[.ro true kH], [⟨true, v5, kH, false⟩]⟩
theorem has_bx : Has Tryz.prog 80 c_bx φ_bx := fp (R := []) (tr := false) (E := [(50, 0, c_dz), (72, 1, c_bb), (122, 2, c_di)]) (Φ := Φ_bx) (t := t_bx) ⟨has_dz, has_bb, has_di, trivial⟩ Tryz.f80 hE (by kernel_rfl)
def c_ab : Con := ⟨[.ptr [.val, .val, .val, (.arr 82 v4), (.arr 52 v5), (.arr 82 v4)] kW, .ro false [kI], .fn 79 [], .fn 80 []], []⟩
theorem has_ab : Has Tryz.prog 73 c_ab φ_ab := fp (R := []) (tr := false) (E := [(94, 0, c_ec), (79, 1, c_cr), (80, 2, c_bx)]) (Φ := Φ_ab) (t := t_ab) ⟨has_ec, has_cr, has_bx, trivial⟩ Tryz.f73 hE (by kernel_rfl)
def c_ex : Con := ⟨[.ro true [.list, kI], .ro false [kI]], [⟨true, [.val, .val], [.list, kI], false⟩]⟩
theorem has_ex : Has Tryz.prog 141 c_ex φ_ex := fp (R := []) (tr := false) (E := [(90, 0, c_fw), (149, 1, c_ck)]) (Φ := Φ_ex) (t := t_ex) ⟨has_fw, has_ck, trivial⟩ Tryz.f141 hE (by kernel_rfl)
def c_du : Con := ⟨[.ro true kD, .ro false [kI]], [⟨true, [.val, .val, .val, (.arr 82 v4)], kD, false⟩]⟩
theorem has_du : Has Tryz.prog 103 c_du φ_du := fp (R := []) (tr := false) (E := [(49, 0, c_fm), (141, 1, c_ex)]) (Φ := Φ_du) (t := t_du) ⟨has_fm, has_ex, trivial⟩ Tryz.f103 hE (by kernel_rfl)
def c_bv : Con := ⟨[.ro true kD, .rptr [kI, kI, kI, .list]], [⟨true, [.val, .val, .val, (.arr 82 v4)], kD, false⟩]⟩
theorem has_bv : Has Tryz.prog 102 c_bv φ_bv := fp (R := []) (tr := false) (E := [(103, 0, c_du)]) (Φ := Φ_bv) (t := t_bv) ⟨has_du, trivial⟩ Tryz.f102 hE (by kernel_rfl)
def c_co : Con := ⟨[.ro true kH, .ro false [kI]], [⟨true, v5, kH, false⟩]⟩
theorem has_co : Has Tryz.prog 105 c_co φ_co := fp (R := []) (tr := false) (E := [(50, 0, c_dz), (141, 1, c_ex)]) (Φ := Φ_co) (t := t_co) ⟨has_dz, has_ex, trivial⟩ Tryz.f105 hE (by kernel_rfl)
def c_bq : Con := ⟨[.ro true kH, .rptr [kI, kI, kI, .list]], [⟨true, v5, kH, false⟩]⟩
theorem has_bq : Has Tryz.prog 104 c_bq φ_bq := fp (R := []) (tr := false) (E := [(105, 0, c_co)]) (Φ := Φ_bq) (t := t_bq) ⟨has_co, trivial⟩ Tryz.f104 hE (by kernel_rfl)
def c_aa : Con := ⟨[.ptr [.val, .val, .val, (.arr 82 v4), (.arr 52 v5), (.arr 82 v4)] kW, .ro false [kI], .fn 102 [[kI, kI, kI, .list]], .fn 104 [[kI, kI, kI, .list]]], []⟩
theorem has_aa : Has Tryz.prog 73 c_aa φ_aa := fp (R := []) (tr := false) (E := [(94, 0, c_ec), (102, 1, c_bv), (104, 2, c_bq)]) (Φ := Φ_aa) (t := t_aa) ⟨has_ec, has_bv, has_bq, trivial⟩ Tryz.f73 hE (by kernel_rfl)
def c_de : Con := ⟨[.ro true kD], [⟨true, [.val, .val, .val, (.arr 82 v4)], kD, false⟩]⟩
theorem has_de : Has Tryz.prog 74 c_de φ_de := fp (R := []) (tr := false) (E := [(49, 0, c_fm), (70, 1, c_bg)]) (Φ := Φ_de) (t := t_de) ⟨has_fm, has_bg, trivial⟩ Tryz.f74 hE (by kernel_rfl)
def c_cw : Con := ⟨[.ro true kH], [⟨true, v5, kH, false⟩]⟩
theorem has_cw : Has Tryz.prog 75 c_cw φ_cw := fp (R := []) (tr := false) (E := [(50, 0, c_dz), (72, 1, c_bb)]) (Φ := Φ_cw) (t := t_cw) ⟨has_dz, has_bb, trivial⟩ Tryz.f75 hE (by kernel_rfl)
def c_ac : Con := ⟨[.ptr [.val, .val, .val, (.arr 82 v4), (.arr 52 v5), (.arr 82 v4)] kW, .ro false [kI], .fn 74 [], .fn 75 []], []⟩
theorem has_ac : Has Tryz.prog 73 c_ac φ_ac := fp (R := []) (tr := false) (E := [(94, 0, c_ec), (74, 1, c_de), (75, 2, c_cw)]) (Φ := Φ_ac) (t := t_ac) ⟨has_ec, has_de, has_cw, trivial⟩ Tryz.f73 hE (by kernel_rfl)
def c_dw : Con := ⟨[.ptr [.val, .val, .val, (.arr 82 v4), (.arr 52 v5), (.arr 82 v4)] kW, .ro true [kI, kI, kI, .list]], []⟩
def h_dw : How := ⟨getH [],
  getH [(17, ⟨[.bool], [(65, (.bool (.v 0)))], [], [], 0⟩)],
  getH []⟩
theorem has_dw : Has Tryz.prog 55 c_dw φ_dw := fp (R := []) (tr := false) (E := [(98, 0, c_cl), (99, 1, c_dp), (65, 2, c_bz), (40, 3, c_gd), (100, 4, c_bu), (101, 5, c_cn), (73, 6, c_ab), (73, 7, c_aa), (73, 8, c_ac)]) (Φ := Φ_dw) (t := t_dw) ⟨has_cl, has_dp, has_bz, has_gd, has_bu, has_cn, has_ab, has_aa, has_ac, trivial⟩ Tryz.f55 h_dw (by kernel_rfl)
def c_cg : Con := ⟨[.ro false [.list], .ro false [.list]], [⟨true, [.val, .val, .val, .val, .val, .val], kW, false⟩, ⟨false, [.val], [.bool], false⟩]⟩
def h_cg : How := ⟨getH [(0, ⟨[kI, .bool, .list, kI, .list, .list, .list], [(25, (sI 0))], [(4, .cells [(.bool (.v 1)), (.view true (.v 2)), (sI 3), (.sl 1000), (.sl 1001), (.sl 1002)]), (1000, .arr 82 v4 (.v 4)), (1001, .arr 52 v5 (.v 5)), (1002, .arr 82 v4 (.v 6))], [1, 2, 3], 3⟩)],
  getH [],
  getH []⟩
theorem has_cg : Has Tryz.prog 22 c_cg φ_cg := fp (R := []) (tr := false) (E := [(27, 0, c_dk), (55, 1, c_dw)]) (Φ := Φ_cg) (t := t_cg) ⟨has_dk, has_dw, trivial⟩ Tryz.f22 h_cg (by kernel_rfl)
def c_cm : Con := ⟨[.ro false [.list], .ro false [.list]], [⟨true, [.val, .val, .val, .val, .val, .val], kW, false⟩, ⟨false, [.val], [.bool], false⟩]⟩
def h_cm : How := ⟨getH [(0, ⟨[kI, .bool, kI, .list, .list, .list, .list], [(8, (sI 0))], [(5, .cells [(.bool (.v 1)), (.sl 1000), (sI 2), (.sl 1001), (.sl 1002), (.sl 1003)]), (1000, .arr 145 v3 (.v 3)), (1001, .arr 82 v4 (.v 4)), (1002, .arr 52 [.val, .val, .val, (.arr 145 v3), .val] (.v 5)), (1003, .arr 82 v4 (.v 6))], [1, 2, 3, 4], 4⟩)],
  getH [],
  getH []⟩
theorem has_cm : Has Tryz.prog 23 c_cm φ_cm := fp (R := rowsS) (tr := false) (E := [(56, 0, c_ds), (57, 1, c_ft)]) (Φ := Φ_cm) (t := t_cm) ⟨has_ds, has_ft, trivial⟩ Tryz.f23 h_cm (by kernel_rfl)
def c_fp : Con := ⟨[.ro false [.list], .ro false [.list]], [⟨false, [.val], [.bool], false⟩]⟩
def h_fp : How := ⟨getH [(0, ⟨[kI], [(4, (.bool (.b false))), (5, (sI 0))], [], [], 0⟩)],
  getH [],
  getH []⟩
theorem has_fp : Has Tryz.prog 168 c_fp φ_fp := fp (R := []) (tr := false) (E := []) (Φ := ph []) (t := t_fp) trivial Tryz.f168 h_fp (by kernel_rfl)
def c_ga : Con := ⟨[.ro true [kI, kI, .list], .ro true [kI, kI, .list]], [⟨false, [.val], [.bool], false⟩]⟩
theorem has_ga : Has Tryz.prog 148 c_ga φ_ga := fp (R := []) (tr := false) (E := [(168, 0, c_fp)]) (Φ := Φ_ga) (t := t_ga) ⟨has_fp, trivial⟩ Tryz.f148 hE (by kernel_rfl)
def c_fa : Con := ⟨[.ro false [.list], .ro false [.list]], [⟨false, [.val], [.bool], false⟩]⟩
def h_fa : How := ⟨getH [(0, ⟨[kI], [(4, (.bool (.b false))), (5, (sI 0))], [], [], 0⟩)],
  getH [],
  getH []⟩
theorem has_fa : Has Tryz.prog 117 c_fa φ_fa := fp (R := []) (tr := false) (E := [(148, 0, c_ga)]) (Φ := Φ_fa) (t := t_fa) ⟨has_ga, trivial⟩ Tryz.f117 h_fa (by kernel_rfl)
def c_fx : Con := ⟨[.ro true [.list, kI], .ro true [.list, kI]], [⟨false, [.val], [.bool], false⟩]⟩
theorem has_fx : Has Tryz.prog 68 c_fx φ_fx := fp (R := []) (tr := false) (E := [(117, 0, c_fa)]) (Φ := Φ_fx) (t := t_fx) ⟨has_fa, trivial⟩ Tryz.f68 hE (by kernel_rfl)
def c_em : Con := ⟨[.ro false [.list], .ro false [.list]], [⟨false, [.val], [.bool], false⟩]⟩
def h_em : How := ⟨getH [(0, ⟨[kI], [(4, (.bool (.b false))), (5, (sI 0))], [], [], 0⟩)],
  getH [],
  getH []⟩
theorem has_em : Has Tryz.prog 36 c_em φ_em := fp (R := []) (tr := false) (E := []) (Φ := ph []) (t := t_em) trivial Tryz.f36 h_em (by kernel_rfl)
def c_fh : Con := ⟨[.ro true kD, .ro true kD], [⟨false, [.val], [.bool], false⟩]⟩
theorem has_fh : Has Tryz.prog 35 c_fh φ_fh := fp (R := []) (tr := false) (E := [(68, 0, c_fx), (36, 1, c_em)]) (Φ := Φ_fh) (t := t_fh) ⟨has_fx, has_em, trivial⟩ Tryz.f35 hE (by kernel_rfl)
def c_eh : Con := ⟨[.ro true kH, .ro true kH], [⟨false, [.val], [.bool], false⟩]⟩
theorem has_eh : Has Tryz.prog 34 c_eh φ_eh := fp (R := []) (tr := false) (E := [(68, 0, c_fx)]) (Φ := Φ_eh) (t := t_eh) ⟨has_fx, trivial⟩ Tryz.f34 hE (by kernel_rfl)
def c_ev : Con := ⟨[.ro true kW, .ro true kW], [⟨false, [.val], [.bool], false⟩]⟩
def h_ev : How := ⟨getH [(0, ⟨[kI], [(4, (.bool (.b false))), (5, (sI 0))], [], [], 0⟩)],
  getH [],
  getH []⟩
theorem has_ev : Has Tryz.prog 17 c_ev φ_ev := fp (R := []) (tr := false) (E := [(35, 0, c_fh), (36, 1, c_em), (34, 2, c_eh)]) (Φ := Φ_ev) (t := t_ev) ⟨has_fh, has_em, has_eh, trivial⟩ Tryz.f17 h_ev (by kernel_rfl)
def c_ch : Con := ⟨[.ro true kJ], [⟨false, [.val], [.bool], false⟩]⟩
theorem has_ch : Has Tryz.prog 52 c_ch φ_ch := fp (R := []) (tr := false) (E := [(53, 0, c_fd)]) (Φ := Φ_ch) (t := t_ch) ⟨has_fd, trivial⟩ Tryz.f52 hE (by kernel_rfl)
def c_ah : Con := ⟨[.ro false [.list], .fn 52 []], [⟨false, [.val], [kI], false⟩]⟩
def h_ah : How := ⟨getH [(0, ⟨[kI], [(4, (.int .i64 (.n 0))), (8, (sI 0))], [], [], 0⟩)],
  getH [],
  getH []⟩
theorem has_ah : Has Tryz.prog 96 c_ah φ_ah := fp (R := []) (tr := false) (E := [(52, 0, c_ch)]) (Φ := Φ_ah) (t := t_ah) ⟨has_ch, trivial⟩ Tryz.f96 h_ah (by kernel_rfl)
def c_ae : Con := ⟨[.ro false [.list], .fn 52 []], [⟨false, [.val], [.bool], false⟩]⟩
theorem has_ae : Has Tryz.prog 51 c_ae φ_ae := fp (R := []) (tr := false) (E := [(96, 0, c_ah)]) (Φ := Φ_ae) (t := t_ae) ⟨has_ah, trivial⟩ Tryz.f51 hE (by kernel_rfl)
def c_dx : Con := ⟨[.ro true kW], [⟨false, [.val], [.bool], false⟩]⟩
def h_dx : How := ⟨getH [(0, ⟨[kI], [(2, (.bool (.b false))), (24, (sI 0))], [], [], 0⟩)],
  getH [],
  getH []⟩
theorem has_dx : Has Tryz.prog 20 c_dx φ_dx := fp (R := []) (tr := false) (E := [(49, 0, c_fm), (50, 1, c_dz), (51, 2, c_ae)]) (Φ := Φ_dx) (t := t_dx) ⟨has_fm, has_dz, has_ae, trivial⟩ Tryz.f20 h_dx (by kernel_rfl)
def c_ba : Con := ⟨[.ro true kW], [⟨true, [.val, .val, .val, (.arr 82 v4), (.arr 52 v5), (.arr 82 v4)], kW, false⟩]⟩
def h_ba : How := ⟨getH [(0, ⟨[kI, .list], [(16, (sI 0))], [(2, .cells [(.bool (.v 1006)), (.view true (.v 1007)), (sI 1008), (.sl 3), (.sl 1000), (.sl 4)]), (1000, .arr 52 v5 (.v 1))], [], 1⟩)],
  getH [(2, ⟨[.bool, .list, kI, .list, .list], [(3, (.ptr 1000 0))], [(1000, .cells [(.bool (.v 0)), (.view true (.v 1)), (sI 2), (.sl 1001), .nil, (.sl 1002)]), (1001, .arr 82 v4 (.v 3)), (1002, .arr 82 v4 (.v 4))], [], 3⟩)],
  getH []⟩
theorem has_ba : Has Tryz.prog 41 c_ba φ_ba := fp (R := []) (tr := false) (E := [(70, 0, c_bg), (71, 1, c_at), (72, 2, c_bb)]) (Φ := Φ_ba) (t := t_ba) ⟨has_bg, has_at, has_bb, trivial⟩ Tryz.f41 h_ba (by kernel_rfl)
theorem has_av : Has Tryz.prog 119 (growCon 82) φ_av := grow_has (ρ := ⟨fun _ => 119, fun t => match t with | 22 => 26 | 25 => 82 | 3 => 3 | 4 => 4 | 9 => 9 | 20 => 20 | _ => 0, fun x => x⟩) ⟨mixed_ok, ⟨Tryz.f119.name, by kernel_rfl, by kernel_rfl⟩, by kernel_rfl, by kernel_rfl, by kernel_rfl, by kernel_rfl⟩
def c_av : Con := growCon 82
def c_aq : Con := ⟨[.ro false [.list]], [⟨false, [(.arr 82 v4)], [.list], false⟩]⟩
def h_aq : How := ⟨getH [(2, ⟨[kI, .list], [(6, (.sl 1000)), (27, (sI 0))], [(1000, .arr 82 v4 (.v 1))], [0], 1⟩), (0, ⟨[kI, kI], [(3, (sI 0)), (11, (sI 1))], [], [], 0⟩)],
  getH [],
  getH []⟩
theorem has_aq : Has Tryz.prog 76 c_aq φ_aq := fp (R := []) (tr := false) (E := [(119, 0, c_av)]) (Φ := Φ_aq) (t := t_aq) ⟨has_av, trivial⟩ Tryz.f76 h_aq (by kernel_rfl)
def c_az : Con := ⟨[.ptr [.val, .val, .val, (.arr 82 v4), (.arr 52 v5), .val] kW, .ro true kJ], [⟨true, v4, kJ, false⟩, ⟨false, [.val], [.bool], false⟩]⟩
theorem has_az : Has Tryz.prog 77 c_az φ_az := fp (R := []) (tr := false) (E := [(92, 0, c_bo), (78, 1, c_cq), (120, 2, c_ct)]) (Φ := Φ_az) (t := t_az) ⟨has_bo, has_cq, has_ct, trivial⟩ Tryz.f77 hE (by kernel_rfl)
def c_cc : Con := ⟨[.ptr [.val, .val, .val, (.arr 82 v4), (.arr 52 v5), (.arr 82 v4)] kW], []⟩
def h_cc : How := ⟨getH [(4, ⟨[kI, .bool, .list, kI, .list, .list, .list], [(49, (sI 0))], [(0, .cells [(.bool (.v 1)), (.view true (.v 2)), (sI 3), (.sl 1000), (.sl 1001), (.sl 1002)]), (1000, .arr 82 v4 (.v 4)), (1001, .arr 52 v5 (.v 5)), (1002, .arr 82 v4 (.v 6))], [9, 10], 3⟩), (2, ⟨[kI, .bool, .list, kI, .list, .list, .list], [(29, (sI 0))], [(0, .cells [(.bool (.v 1)), (.view true (.v 2)), (sI 3), (.sl 1000), (.sl 1001), (.view true (.v 4))]), (1000, .arr 82 v4 (.v 5)), (1001, .arr 52 v5 (.v 6))], [4, 5], 2⟩), (0, ⟨[kI, .bool, .list, kI, .list, .list, .list], [(9, (sI 0))], [(0, .cells [(.bool (.v 1)), (.view true (.v 2)), (sI 3), (.sl 1000), (.sl 1001), (.sl 1002)]), (1000, .arr 82 v4 (.v 4)), (1001, .arr 52 v5 (.v 5)), (1002, .arr 82 v4 (.v 6))], [1, 2, 3], 3⟩)],
  getH [],
  getH []⟩
theorem has_cc : Has Tryz.prog 42 c_cc φ_cc := fp (R := []) (tr := false) (E := [(73, 0, c_ab), (73, 1, c_ac), (65, 2, c_bz), (76, 3, c_aq), (77, 4, c_az), (78, 5, c_cq)]) (Φ := Φ_cc) (t := t_cc) ⟨has_ab, has_ac, has_bz, has_aq, has_az, has_cq, trivial⟩ Tryz.f42 h_cc (by kernel_rfl)
def c_cu : Con := ⟨[.ro true kW, .ro false [kI]], [⟨true, [.val, .val, .val, .val, .val, .val], kW, false⟩]⟩
def h_cu : How := ⟨getH [(0, ⟨[kI, .bool, .list, kI, .list, .list, .list], [(18, (sI 0))], [(5, .cells [(.bool (.v 1)), (.view true (.v 2)), (sI 3), (.sl 1000), (.sl 1001), (.sl 1002)]), (1000, .arr 82 v4 (.v 4)), (1001, .arr 52 v5 (.v 5)), (1002, .arr 82 v4 (.v 6))], [2, 3, 4], 3⟩)],
  getH [],
  getH []⟩
theorem has_cu : Has Tryz.prog 16 c_cu φ_cu := fp (R := []) (tr := false) (E := [(20, 0, c_dx), (40, 1, c_gd), (41, 2, c_ba), (42, 3, c_cc)]) (Φ := Φ_cu) (t := t_cu) ⟨has_dx, has_gd, has_ba, has_cc, trivial⟩ Tryz.f16 h_cu (by kernel_rfl)
def c_cs : Con := ⟨[.ro true kD, .ro false [.bool]], [⟨false, [.val], [.list], false⟩]⟩
theorem has_cs : Has Tryz.prog 24 c_cs φ_cs := fp (R := []) (tr := false) (E := [(49, 0, c_fm), (58, 1, c_ce)]) (Φ := Φ_cs) (t := t_cs) ⟨has_fm, has_ce, trivial⟩ Tryz.f24 hE (by kernel_rfl)
def c_by : Con := ⟨[.ro true kH, .ro false [.bool]], [⟨true, [.val, .val], [kI, .list], false⟩]⟩
theorem has_by : Has Tryz.prog 26 c_by φ_by := fp (R := []) (tr := false) (E := [(50, 0, c_dz), (61, 1, c_bi)]) (Φ := Φ_by) (t := t_by) ⟨has_dz, has_bi, trivial⟩ Tryz.f26 hE (by kernel_rfl)
def c_db : Con := ⟨[.ro true [kI, .list]], [⟨false, [.val], [kI], false⟩]⟩
theorem has_db : Has Tryz.prog 25 c_db φ_db := fp (R := []) (tr := false) (E := [(59, 0, c_ej), (60, 1, c_bs)]) (Φ := Φ_db) (t := t_db) ⟨has_ej, has_bs, trivial⟩ Tryz.f25 hE (by kernel_rfl)
def c_ew : Con := ⟨[.ro true kW, .ro true [kI, kI, kI, .list]], [⟨true, [.val, .val, .val, .val, .val, .val], kW, false⟩]⟩
theorem has_ew : Has Tryz.prog 28 c_ew φ_ew := fp (R := []) (tr := false) (E := [(20, 0, c_dx), (41, 1, c_ba), (55, 2, c_dw)]) (Φ := Φ_ew) (t := t_ew) ⟨has_dx, has_ba, has_dw, trivial⟩ Tryz.f28 hE (by kernel_rfl)
def c_cb : Con := ⟨[.ro true kW, .ro false [kI]], [⟨false, [.val], [.list], false⟩]⟩
def h_cb : How := ⟨getH [(0, ⟨[kI, .list], [(5, (.sl 1000)), (19, (sI 0))], [(1000, .arr 64 [.val, .val] (.v 1))], [], 1⟩)],
  getH [],
  getH []⟩
theorem has_cb : Has Tryz.prog 29 c_cb φ_cb := fp (R := []) (tr := false) (E := [(20, 0, c_dx), (64, 1, c_fl), (61, 2, c_bi)]) (Φ := Φ_cb) (t := t_cb) ⟨has_dx, has_fl, has_bi, trivial⟩ Tryz.f29 h_cb (by kernel_rfl)
def c_fv : Con := ⟨[.ro true kW], [⟨false, [.val], [.bool], false⟩]⟩
def h_fv : How := ⟨getH [(0, ⟨[kI], [(2, (.bool (.b false))), (4, (sI 0))], [], [], 0⟩), (2, ⟨[kI], [(2, (.bool (.b false))), (7, (sI 0))], [], [], 0⟩)],
  getH [(21, ⟨[], [(2, (.bool (.b false)))], [], [], 0⟩), (19, ⟨[], [(2, (.bool (.b false)))], [], [], 0⟩), (17, ⟨[], [(2, (.bool (.b false)))], [], [], 0⟩), (11, ⟨[kI], [(6, (sI 0))], [], [], 0⟩)],
  getH []⟩
theorem has_fv : Has Tryz.prog 30 c_fv φ_fv := fp (R := []) (tr := false) (E := [(24, 0, c_cs), (29, 1, c_cb)]) (Φ := Φ_fv) (t := t_fv) ⟨has_cs, has_cb, trivial⟩ Tryz.f30 h_fv (by kernel_rfl)
def c_cy : Con := ⟨[.ro true kD], [⟨false, [.val], [.list], false⟩]⟩
theorem has_cy : Has Tryz.prog 31 c_cy φ_cy := fp (R := []) (tr := false) (E := [(49, 0, c_fm), (65, 1, c_bz)]) (Φ := Φ_cy) (t := t_cy) ⟨has_fm, has_bz, trivial⟩ Tryz.f31 hE (by kernel_rfl)
end Dx
