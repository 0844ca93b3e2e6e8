/- The seat: its types, its functions' contracts, and that they answer so. -/
import Derived.Test.YtcgenclbnnigeabGreatProg
import Derived.Test.YtcgenclbnnigeabGreatXe
import Derived.Test.YtcgenclbnnigeabGreatYb
set_option linter.all false
set_option linter.unusedVariables false
set_option linter.unusedSimpArgs false
set_option linter.unnecessarySimpa false
namespace Dx
open Go
def tab : List (Nat × TI) :=
[(3, ⟨.int .i64, 1, false, [.int .i64 (.n 0)], 8⟩),
  (4, ⟨.bool, 1, false, [.bool (.b false)], 1⟩),
  (5, ⟨.int .u8, 1, false, [.int .u8 (.n 0)], 1⟩),
  (22, ⟨.slice 5, 1, false, [.nil], 24⟩),
  (23, ⟨.slice 82, 1, false, [.nil], 24⟩),
  (25, ⟨.struct [(0, 1, false), (1, 1, false)], 2, true, [.nil, .int .i64 (.n 0)], 32⟩),
  (26, ⟨.slice 49, 1, false, [.nil], 24⟩),
  (28, ⟨.struct [(0, 1, false), (1, 2, true), (3, 1, false)], 4, true, [.bool (.b false), .nil, .int .i64 (.n 0), .nil], 64⟩),
  (29, ⟨.slice 42, 1, false, [.nil], 24⟩),
  (31, ⟨.struct [(0, 4, true), (4, 1, false), (5, 1, false)], 6, true, [.bool (.b false), .nil, .int .i64 (.n 0), .nil, .nil, .nil], 112⟩),
  (32, ⟨.slice 3, 1, false, [.nil], 24⟩),
  (34, ⟨.struct [(0, 1, false), (1, 1, false), (2, 1, false), (3, 1, false)], 4, true, [.int .i64 (.n 0), .int .i64 (.n 0), .int .i64 (.n 0), .nil], 48⟩),
  (42, ⟨.struct [(0, 1, false), (1, 1, false), (2, 1, false), (3, 2, true)], 5, true, [.int .i64 (.n 0), .bool (.b false), .int .i64 (.n 0), .nil, .int .i64 (.n 0)], 56⟩),
  (49, ⟨.struct [(0, 1, false), (1, 1, false), (2, 1, false), (3, 1, false)], 4, true, [.int .i64 (.n 0), .int .i64 (.n 0), .int .i64 (.n 0), .int .i64 (.n 0)], 32⟩),
  (50, ⟨.slice 54, 1, false, [.nil], 24⟩),
  (54, ⟨.struct [(0, 1, false), (1, 1, false)], 2, true, [.nil, .int .i64 (.n 0)], 32⟩),
  (82, ⟨.struct [(0, 1, false), (1, 1, false), (2, 1, false)], 3, true, [.int .i64 (.n 0), .int .i64 (.n 0), .nil], 40⟩),
  (102, ⟨.struct [(0, 1, false), (1, 1, false)], 2, true, [.nil, .int .i64 (.n 0)], 32⟩),
  (103, ⟨.slice 34, 1, false, [.nil], 24⟩),
  (113, ⟨.slice 166, 1, false, [.nil], 24⟩),
  (115, ⟨.struct [(0, 1, false), (1, 1, false)], 2, true, [.int .i64 (.n 0), .nil], 32⟩),
  (119, ⟨.arr 2 3, 2, true, [.int .i64 (.n 0), .int .i64 (.n 0)], 16⟩),
  (120, ⟨.map 3 119, 1, false, [.any], 8⟩),
  (166, ⟨.struct [(0, 1, false), (1, 1, false)], 2, true, [.int .i64 (.n 0), .int .i64 (.n 0)], 16⟩)]

def tab' : Tab := getT tab
theorem tab_ok : TabOk Proofs.Tryz.prog (getT tab) := tabB_ok (by kernel_rfl)
end Dx

namespace Dx
open Go Go.Proofs
def eqs : List (Nat × Nat) := [(49, 4), (166, 2)]
theorem eqs_ok : EqOk Tryz.prog (getQ eqs) := eqB_ok (by kernel_rfl)
theorem mixed_ok : Tryz.prog.follows .mixedOrders = true := by kernel_rfl
def rowsS : List (Nat × List Sh) := [(42, [.val, .val, .val, (.arr 82 [.val, .val, .val]), .val])]
def bodyOf (fn : Func) : Code := match fn.body with
  | some b => b
  | none => .skip
def gE (R : List (Nat × List Sh)) (tr : Bool) (E : List (Nat × Nat × Con)) : Env := ⟨getT tab, getQ eqs, getR R, getE E, tr⟩
abbrev hE : How := ⟨getH [], getH [], getH []⟩
abbrev sI (n : Nat) : SV := .int .i64 (.v n)
theorem fo {G : Env} {Φ : Phi} (hG : EnvOk Tryz.prog G Φ) {f : FuncId} (fn : Func) {c : Con} (H : How) {t : Tree} (h : (Tryz.prog.funcs[f]?, fn.body, fn.name == "runtime.NumGoroutine", fnT G H c fn (bodyOf fn)) = (some fn, some (bodyOf fn), false, t)) : Has Tryz.prog f c (fun cs => retOf (den Φ t cs)) := by
  simp only [Prod.mk.injEq] at h
  exact fn_ok hG h.1 h.2.1 h.2.2.1 h.2.2.2
theorem eo {E : Nat -> List (Nat × Con)} {R : Rows} {tr : Bool} {Φ : Phi} (h : ∀ f c, c ∈ E f -> Has Tryz.prog f c.2 (Φ c.1)) : EnvOk Tryz.prog ⟨getT tab, getQ eqs, R, E, tr⟩ Φ := ⟨tab_ok, eqs_ok, h, mixed_ok⟩
theorem fp {E : List (Nat × Nat × Con)} {R : List (Nat × List Sh)} {tr : Bool} {Φ : Phi} (m : hasAll Tryz.prog Φ E) {f : FuncId} (fn : Func) {c : Con} (H : How) {t : Tree} (h : (Tryz.prog.funcs[f]?, fn.body, fn.name == "runtime.NumGoroutine", fnT (gE R tr E) H c fn (bodyOf fn)) = (some fn, some (bodyOf fn), false, t)) : Has Tryz.prog f c (fun cs => retOf (den Φ t cs)) := fo (eo (getE_ok (hasAll_get m))) fn H h
abbrev v5 : List Sh := [.val, .val, .val, .val, .val]
abbrev v4 : List Sh := [.val, .val, .val, .val]
abbrev v3 : List Sh := [.val, .val, .val]
abbrev kW : List CK := [.bool, .list, kI, .list, .list, .list]
abbrev kD : List CK := [.bool, .list, kI, .list]
abbrev kH : List CK := [kI, .bool, kI, .list, kI]
abbrev kJ : List CK := [kI, kI, kI, kI]
def c_df : Con := ⟨[.own false [.val] [.list] false], [⟨false, [.val, .val], [.list, kI], true⟩]⟩
theorem has_df : Has Tryz.prog 42 c_df φ_df := fp (R := rowsS) (tr := false) (E := []) (Φ := ph []) (t := t_df) trivial Tryz.f42 hE (by kernel_rfl)
def c_bi : Con := ⟨[.ptr [.val, .val] [.list, kI], .ro false [kI]], [⟨false, [.val], [kI], false⟩]⟩
theorem has_bi : Has Tryz.prog 45 c_bi φ_bi := fp (R := rowsS) (tr := false) (E := []) (Φ := ph []) (t := t_bi) trivial Tryz.f45 hE (by kernel_rfl)
def c_bk : Con := ⟨[.ptr [.val, .val] [.list, kI]], [⟨false, [(.arr 3 [.val])], [.list], false⟩]⟩
theorem has_bk : Has Tryz.prog 126 c_bk φ_bk := fp (R := rowsS) (tr := false) (E := [(45, 0, c_bi)]) (Φ := Φ_bk) (t := t_bk) ⟨has_bi, trivial⟩ Tryz.f126 hE (by kernel_rfl)
def c_cb : Con := ⟨[], [⟨true, [.val, (.arr 82 v3), .val, (.arr 49 v4)], kD, false⟩]⟩
theorem has_cb : Has Tryz.prog 154 c_cb φ_cb := fp (R := rowsS) (tr := false) (E := []) (Φ := ph []) (t := t_cb) trivial Tryz.f154 hE (by kernel_rfl)
def c_ea : Con := ⟨[.ro false [kI], .ro false [kI], .ro false [kI]], [⟨false, [.val], [.bool], false⟩]⟩
theorem has_ea : Has Tryz.prog 104 c_ea φ_ea := fp (R := rowsS) (tr := false) (E := []) (Φ := ph []) (t := t_ea) trivial Tryz.f104 hE (by kernel_rfl)
def c_bw : Con := ⟨[.ro false [kI]], [⟨true, [.val, (.arr 166 [.val, .val])], [kI, .list], false⟩, ⟨false, [.val], [.bool], false⟩]⟩
theorem has_bw : Has Tryz.prog 137 c_bw φ_bw := fp (R := rowsS) (tr := false) (E := [(104, 0, c_ea)]) (Φ := Φ_bw) (t := t_bw) ⟨has_ea, trivial⟩ Tryz.f137 hE (by kernel_rfl)
def c_bl : Con := ⟨[.ro false [kI], .ro false [kI]], [⟨true, [.val, .val, .val, (.arr 82 v3), .val], kH, false⟩, ⟨false, [.val], [.bool], false⟩]⟩
theorem has_bl : Has Tryz.prog 155 c_bl φ_bl := fp (R := rowsS) (tr := false) (E := [(137, 0, c_bw), (104, 1, c_ea)]) (Φ := Φ_bl) (t := t_bl) ⟨has_bw, has_ea, trivial⟩ Tryz.f155 hE (by kernel_rfl)
def c_bq : Con := ⟨[.ro false [.list]], [⟨true, [.val, (.arr 82 v3), .val, (.arr 49 v4), (.arr 42 [.val, .val, .val, (.arr 82 v3), .val]), (.arr 49 v4)], kW, false⟩, ⟨false, [.val], [.bool], false⟩]⟩
def h_bq : How := ⟨getH [(0, ⟨[kI, .list], [(3, (.bool (.b false))), (5, (sI 0))], [(4, .cells [(.bool (.v 1001)), (.sl 1), (sI 1003), (.sl 2), (.sl 1000), (.sl 3)]), (1000, .arr 42 [.val, .val, .val, (.arr 82 v3), .val] (.v 1))], [], 1⟩)],
  getH [],
  getH []⟩
theorem has_bq : Has Tryz.prog 127 c_bq φ_bq := fp (R := rowsS) (tr := false) (E := [(154, 0, c_cb), (155, 1, c_bl)]) (Φ := Φ_bq) (t := t_bq) ⟨has_cb, has_bl, trivial⟩ Tryz.f127 h_bq (by kernel_rfl)
def c_dc : Con := ⟨[.ro false [.list]], [⟨false, [.val], [.bool], false⟩]⟩
def h_dc : How := ⟨getH [(0, ⟨[kI, kI], [(2, (.bool (.b false))), (3, (sI 0)), (4, (sI 1))], [], [], 0⟩)],
  getH [],
  getH []⟩
theorem has_dc : Has Tryz.prog 110 c_dc φ_dc := fp (R := rowsS) (tr := false) (E := [(104, 0, c_ea)]) (Φ := Φ_dc) (t := t_dc) ⟨has_ea, trivial⟩ Tryz.f110 h_dc (by kernel_rfl)
def c_dx : Con := ⟨[.ro true [kI, kI, .list]], [⟨false, [.val], [.bool], false⟩]⟩
theorem has_dx : Has Tryz.prog 62 c_dx φ_dx := fp (R := rowsS) (tr := false) (E := [(104, 0, c_ea), (110, 1, c_dc)]) (Φ := Φ_dx) (t := t_dx) ⟨has_ea, has_dc, trivial⟩ Tryz.f62 hE (by kernel_rfl)
def c_do : Con := ⟨[.ro false [.list], .ro true [kI, kI, .list]], [⟨false, [.val], [.bool], false⟩]⟩
theorem has_do : Has Tryz.prog 111 c_do φ_do := fp (R := rowsS) (tr := false) (E := []) (Φ := ph []) (t := t_do) trivial Tryz.f111 hE (by kernel_rfl)
def c_spec_l12Do : Con := ⟨[.own false [(.arr 54 [.val, .val])] [.list] false, .ro true [kI, kI, .list]], [⟨false, [(.arr 54 [.val, .val])], [.list], false⟩]⟩
theorem has_spec_l12Do : Has Tryz.prog 124 c_spec_l12Do φ_spec_l12Do := fp (R := rowsS) (tr := false) (E := []) (Φ := ph []) (t := t_spec_l12Do) trivial Tryz.f124 hE (by kernel_rfl)
def c_dr : Con := ⟨[.ro false [.list]], [⟨false, [.val], [.list], false⟩, ⟨false, [.val], [.bool], false⟩]⟩
def h_dr : How := ⟨getH [(0, ⟨[kI, .list], [(2, .nil), (3, (.bool (.b false))), (4, (.sl 1000)), (5, (sI 0))], [(1000, .arr 54 [.val, .val] (.v 1))], [0], 1⟩)],
  getH [],
  getH []⟩
theorem has_dr : Has Tryz.prog 76 c_dr φ_dr := fp (R := rowsS) (tr := false) (E := [(62, 0, c_dx), (111, 1, c_do), (124, 2, c_spec_l12Do)]) (Φ := Φ_dr) (t := t_dr) ⟨has_dx, has_do, has_spec_l12Do, trivial⟩ Tryz.f76 h_dr (by kernel_rfl)
def c_bv : Con := ⟨[.ro true kD, .ro false [.bool]], [⟨false, [.val], [.list], false⟩]⟩
theorem has_bv : Has Tryz.prog 84 c_bv φ_bv := fp (R := rowsS) (tr := false) (E := [(76, 0, c_dr)]) (Φ := Φ_bv) (t := t_bv) ⟨has_dr, trivial⟩ Tryz.f84 hE (by kernel_rfl)
def c_ds : Con := ⟨[.own true [(.arr 82 v3), .val] [.list, kI] false, .own true v3 [kI, kI, .list] false], [⟨true, [(.arr 82 v3), .val], [.list, kI], false⟩, ⟨false, [.val], [.bool], false⟩]⟩
theorem has_ds : Has Tryz.prog 112 c_ds φ_ds := fp (R := rowsS) (tr := false) (E := []) (Φ := ph []) (t := t_ds) trivial Tryz.f112 hE (by kernel_rfl)
def c_bo : Con := ⟨[.own true [.val, (.arr 82 v3), .val, (.arr 49 v4)] kD false, .own true v3 [kI, kI, .list] false], [⟨true, [.val, (.arr 82 v3), .val, (.arr 49 v4)], kD, false⟩, ⟨false, [.val], [.bool], false⟩]⟩
theorem has_bo : Has Tryz.prog 63 c_bo φ_bo := fp (R := rowsS) (tr := false) (E := [(84, 0, c_bv), (111, 1, c_do), (112, 2, c_ds)]) (Φ := Φ_bo) (t := t_bo) ⟨has_bv, has_do, has_ds, trivial⟩ Tryz.f63 hE (by kernel_rfl)
def c_cf : Con := ⟨[.ro false [.list], .ro true kJ], [⟨false, [.val], [.bool], false⟩]⟩
def h_cf : How := ⟨getH [(0, ⟨[kI], [(4, (.bool (.b false))), (5, (sI 0))], [], [], 0⟩)],
  getH [],
  getH []⟩
theorem has_cf : Has Tryz.prog 78 c_cf φ_cf := fp (R := rowsS) (tr := false) (E := []) (Φ := ph []) (t := t_cf) trivial Tryz.f78 h_cf (by kernel_rfl)
def c_bm : Con := ⟨[.ro true kD], [⟨false, [.val], [.list], false⟩]⟩
def h_bm : How := ⟨getH [(0, ⟨[kI, .list], [(3, (.sl 1000)), (5, (sI 0))], [(1000, .arr 49 v4 (.v 1))], [1], 1⟩), (2, ⟨[kI, .list], [(3, (.sl 1000)), (6, (sI 0))], [(1000, .arr 49 v4 (.v 1))], [2], 1⟩)],
  getH [],
  getH []⟩
theorem has_bm : Has Tryz.prog 85 c_bm φ_bm := fp (R := rowsS) (tr := false) (E := [(84, 0, c_bv), (78, 1, c_cf)]) (Φ := Φ_bm) (t := t_bm) ⟨has_bv, has_cf, trivial⟩ Tryz.f85 h_bm (by kernel_rfl)
def c_dd : Con := ⟨[.own true [.val, (.arr 82 v3), .val, (.arr 49 v4), (.arr 42 [.val, .val, .val, (.arr 82 v3), .val]), (.arr 49 v4)] kW false, .ro true kJ], [⟨true, [.val, (.arr 82 v3), .val, (.arr 49 v4), (.arr 42 [.val, .val, .val, (.arr 82 v3), .val]), (.arr 49 v4)], kW, false⟩]⟩
theorem has_dd : Has Tryz.prog 131 c_dd φ_dd := fp (R := rowsS) (tr := false) (E := []) (Φ := ph []) (t := t_dd) trivial Tryz.f131 hE (by kernel_rfl)
def c_cn : Con := ⟨[.own true [.val, (.arr 82 v3), .val, (.arr 49 v4), (.arr 42 [.val, .val, .val, (.arr 82 v3), .val]), (.arr 49 v4)] kW false, .ro true [kI, kI, kI, .list]], [⟨true, [.val, (.arr 82 v3), .val, (.arr 49 v4), (.arr 42 [.val, .val, .val, (.arr 82 v3), .val]), (.arr 49 v4)], kW, false⟩]⟩
theorem has_cn : Has Tryz.prog 99 c_cn φ_cn := fp (R := rowsS) (tr := false) (E := [(84, 0, c_bv), (62, 1, c_dx), (63, 2, c_bo), (104, 3, c_ea), (85, 4, c_bm), (131, 5, c_dd)]) (Φ := Φ_cn) (t := t_cn) ⟨has_bv, has_dx, has_bo, has_ea, has_bm, has_dd, trivial⟩ Tryz.f99 hE (by kernel_rfl)
def c_co : Con := ⟨[.own true [.val, (.arr 82 v3), .val, (.arr 49 v4), (.arr 42 [.val, .val, .val, (.arr 82 v3), .val]), (.arr 49 v4)] kW false, .ro false [kI]], [⟨true, [.val, (.arr 82 v3), .val, (.arr 49 v4), (.arr 42 [.val, .val, .val, (.arr 82 v3), .val]), (.arr 49 v4)], kW, false⟩]⟩
theorem has_co : Has Tryz.prog 132 c_co φ_co := fp (R := rowsS) (tr := false) (E := []) (Φ := ph []) (t := t_co) trivial Tryz.f132 hE (by kernel_rfl)
def c_de : Con := ⟨[.ro true kJ], [⟨false, [.val], [.bool], false⟩]⟩
theorem has_de : Has Tryz.prog 52 c_de φ_de := fp (R := rowsS) (tr := false) (E := [(104, 0, c_ea)]) (Φ := Φ_de) (t := t_de) ⟨has_ea, trivial⟩ Tryz.f52 hE (by kernel_rfl)
def c_dj : Con := ⟨[.ro true kD, .ro false [kI], .ro false [.list], .ro false [kI]], [⟨false, [.val], [.bool], false⟩]⟩
def h_dj : How := ⟨getH [(0, ⟨[kI], [(8, (.bool (.b false))), (9, (sI 0))], [], [], 0⟩)],
  getH [],
  getH []⟩
theorem has_dj : Has Tryz.prog 152 c_dj φ_dj := fp (R := rowsS) (tr := false) (E := [(78, 0, c_cf)]) (Φ := Φ_dj) (t := t_dj) ⟨has_cf, trivial⟩ Tryz.f152 h_dj (by kernel_rfl)
def c_dm : Con := ⟨[.ro true kD, .ro false [kI], .ro false [.list], .ro false [kI]], [⟨false, [.val], [.bool], false⟩]⟩
def h_dm : How := ⟨getH [(0, ⟨[kI], [(8, (.bool (.b false))), (9, (sI 0))], [], [], 0⟩)],
  getH [],
  getH []⟩
theorem has_dm : Has Tryz.prog 153 c_dm φ_dm := fp (R := rowsS) (tr := false) (E := [(78, 0, c_cf)]) (Φ := Φ_dm) (t := t_dm) ⟨has_cf, trivial⟩ Tryz.f153 h_dm (by kernel_rfl)
def c_ay : Con := ⟨[.own true [.val, (.arr 82 v3), .val, (.arr 49 v4)] kD false, .ro false [kI]], [⟨true, [.val, (.arr 82 v3), .val, (.arr 49 v4)], kD, false⟩]⟩
def h_ay : How := ⟨getH [],
  getH [(9, ⟨[.bool], [(47, (.bool (.v 0)))], [], [], 0⟩), (7, ⟨[.bool], [(36, (.bool (.v 0)))], [], [], 0⟩), (5, ⟨[.bool], [(8, (.bool (.v 0)))], [], [], 0⟩)],
  getH []⟩
theorem has_ay : Has Tryz.prog 123 c_ay φ_ay := fp (R := rowsS) (tr := false) (E := [(84, 0, c_bv), (152, 1, c_dj), (153, 2, c_dm), (63, 3, c_bo)]) (Φ := Φ_ay) (t := t_ay) ⟨has_bv, has_dj, has_dm, has_bo, trivial⟩ Tryz.f123 h_ay (by kernel_rfl)
def c_by : Con := ⟨[.own true [.val, (.arr 82 v3), .val, (.arr 49 v4)] kD false, .ro true kJ], [⟨true, [.val, (.arr 82 v3), .val, (.arr 49 v4)], kD, false⟩]⟩
theorem has_by : Has Tryz.prog 75 c_by φ_by := fp (R := rowsS) (tr := false) (E := [(52, 0, c_de), (84, 1, c_bv), (78, 2, c_cf), (123, 3, c_ay)]) (Φ := Φ_by) (t := t_by) ⟨has_de, has_bv, has_cf, has_ay, trivial⟩ Tryz.f75 hE (by kernel_rfl)
def c_cu : Con := ⟨[.ro true [kI, .list]], [⟨false, [.val], [kI], false⟩]⟩
def h_cu : How := ⟨getH [(0, ⟨[kI, kI], [(3, (sI 0)), (4, (sI 1))], [], [], 0⟩)],
  getH [],
  getH []⟩
theorem has_cu : Has Tryz.prog 158 c_cu φ_cu := fp (R := rowsS) (tr := false) (E := []) (Φ := ph []) (t := t_cu) trivial Tryz.f158 h_cu (by kernel_rfl)
def c_dw : Con := ⟨[.ro true [kI, .list], .ro true [kI, kI, .list]], [⟨false, [.val], [.bool], false⟩]⟩
theorem has_dw : Has Tryz.prog 138 c_dw φ_dw := fp (R := rowsS) (tr := false) (E := [(158, 0, c_cu)]) (Φ := Φ_dw) (t := t_dw) ⟨has_cu, trivial⟩ Tryz.f138 hE (by kernel_rfl)
def c_spec_l2Do : Con := ⟨[.own true [.val, (.arr 166 [.val, .val])] [kI, .list] false, .ro true [kI, kI, .list]], [⟨true, [.val, (.arr 166 [.val, .val])], [kI, .list], false⟩]⟩
theorem has_spec_l2Do : Has Tryz.prog 139 c_spec_l2Do φ_spec_l2Do := fp (R := rowsS) (tr := false) (E := []) (Φ := ph []) (t := t_spec_l2Do) trivial Tryz.f139 hE (by kernel_rfl)
def c_eb : Con := ⟨[.ro false [kI], .ro false [.list]], [⟨true, [.val, .val], [kI, .list], false⟩, ⟨false, [.val], [.bool], false⟩]⟩
def h_eb : How := ⟨getH [(0, ⟨[kI, kI, .list], [(5, (.bool (.b false))), (8, (sI 0))], [(2, .cells [(sI 1), (.sl 1000)]), (1000, .arr 166 [.val, .val] (.v 2))], [1], 1⟩)],
  getH [],
  getH []⟩
theorem has_eb : Has Tryz.prog 103 c_eb φ_eb := fp (R := rowsS) (tr := false) (E := [(137, 0, c_bw), (62, 1, c_dx), (138, 2, c_dw), (139, 3, c_spec_l2Do)]) (Φ := Φ_eb) (t := t_eb) ⟨has_bw, has_dx, has_dw, has_spec_l2Do, trivial⟩ Tryz.f103 h_eb (by kernel_rfl)
def c_bp : Con := ⟨[.ro true kH, .ro false [.bool]], [⟨true, [.val, .val], [kI, .list], false⟩]⟩
theorem has_bp : Has Tryz.prog 166 c_bp φ_bp := fp (R := rowsS) (tr := false) (E := [(103, 0, c_eb)]) (Φ := Φ_bp) (t := t_bp) ⟨has_eb, trivial⟩ Tryz.f166 hE (by kernel_rfl)
def c_dl : Con := ⟨[.ro true kJ], [⟨true, v3, [kI, kI, .list], false⟩]⟩
theorem has_dl : Has Tryz.prog 167 c_dl φ_dl := fp (R := rowsS) (tr := false) (E := []) (Φ := ph []) (t := t_dl) trivial Tryz.f167 hE (by kernel_rfl)
def c_ax : Con := ⟨[.ro true kH, .ro true kJ, .ro false [kI]], [⟨true, v4, kJ, false⟩, ⟨false, [.val], [.bool], false⟩]⟩
def h_ax : How := ⟨getH [],
  getH [(6, ⟨[.bool], [(28, (.bool (.v 0)))], [], [], 0⟩), (4, ⟨[.bool], [(15, (.bool (.v 0)))], [], [], 0⟩)],
  getH []⟩
theorem has_ax : Has Tryz.prog 168 c_ax φ_ax := fp (R := rowsS) (tr := false) (E := []) (Φ := ph []) (t := t_ax) trivial Tryz.f168 h_ax (by kernel_rfl)
def c_ce : Con := ⟨[.own true [.val, .val, .val, (.arr 82 v3), .val] kH false, .ro true kJ], [⟨true, [.val, .val, .val, (.arr 82 v3), .val], kH, false⟩, ⟨true, v4, kJ, false⟩, ⟨false, [.val], [.bool], false⟩]⟩
theorem has_ce : Has Tryz.prog 157 c_ce φ_ce := fp (R := rowsS) (tr := false) (E := [(52, 0, c_de), (166, 1, c_bp), (167, 2, c_dl), (138, 3, c_dw), (112, 4, c_ds), (168, 5, c_ax)]) (Φ := Φ_ce) (t := t_ce) ⟨has_de, has_bp, has_dl, has_dw, has_ds, has_ax, trivial⟩ Tryz.f157 hE (by kernel_rfl)
def c_cq : Con := ⟨[.own true [.val, (.arr 82 v3), .val, (.arr 49 v4), (.arr 42 [.val, .val, .val, (.arr 82 v3), .val]), (.arr 49 v4)] kW false, .ro true kJ], [⟨true, [.val, (.arr 82 v3), .val, (.arr 49 v4), (.arr 42 [.val, .val, .val, (.arr 82 v3), .val]), (.arr 49 v4)], kW, false⟩, ⟨true, v4, kJ, false⟩, ⟨false, [.val], [.bool], false⟩]⟩
theorem has_cq : Has Tryz.prog 133 c_cq φ_cq := fp (R := rowsS) (tr := false) (E := [(75, 0, c_by), (157, 1, c_ce)]) (Φ := Φ_cq) (t := t_cq) ⟨has_by, has_ce, trivial⟩ Tryz.f133 hE (by kernel_rfl)
def c_cw : Con := ⟨[.own true [.val, (.arr 82 v3), .val, (.arr 49 v4), (.arr 42 [.val, .val, .val, (.arr 82 v3), .val]), (.arr 49 v4)] kW false, .ro true [kI, kI, kI, .list]], [⟨true, [.val, (.arr 82 v3), .val, (.arr 49 v4), (.arr 42 [.val, .val, .val, (.arr 82 v3), .val]), (.arr 49 v4)], kW, false⟩]⟩
theorem has_cw : Has Tryz.prog 100 c_cw φ_cw := fp (R := rowsS) (tr := false) (E := [(104, 0, c_ea), (132, 1, c_co), (131, 2, c_dd), (133, 3, c_cq)]) (Φ := Φ_cw) (t := t_cw) ⟨has_ea, has_co, has_dd, has_cq, trivial⟩ Tryz.f100 hE (by kernel_rfl)
def c_bu : Con := ⟨[.own true [.val, (.arr 82 v3), .val, (.arr 49 v4), (.arr 42 [.val, .val, .val, (.arr 82 v3), .val]), (.arr 49 v4)] kW false, .ro false [kI]], [⟨true, [.val, (.arr 82 v3), .val, (.arr 49 v4), (.arr 42 [.val, .val, .val, (.arr 82 v3), .val]), (.arr 49 v4)], kW, false⟩]⟩
def h_bu : How := ⟨getH [],
  getH [(3, ⟨[kI], [], [(4, .cells [(.bool (.v 1000)), (.sl 0), (sI 0), (.sl 1), (.sl 2), (.sl 3)])], [], 0⟩)],
  getH []⟩
theorem has_bu : Has Tryz.prog 134 c_bu φ_bu := fp (R := rowsS) (tr := false) (E := [(104, 0, c_ea)]) (Φ := Φ_bu) (t := t_bu) ⟨has_ea, trivial⟩ Tryz.f134 h_bu (by kernel_rfl)
def c_cv : Con := ⟨[.own true [(.arr 82 v3), .val] [.list, kI] false, .ro false [kI]], [⟨true, [(.arr 82 v3), .val], [.list, kI], false⟩]⟩
theorem has_cv : Has Tryz.prog 136 c_cv φ_cv := fp (R := rowsS) (tr := true) (E := []) (Φ := ph []) (t := t_cv) trivial Tryz.f136 hE (by kernel_rfl)
def c_cl : Con := ⟨[.own true [.val, (.arr 82 v3), .val, (.arr 49 v4)] kD false, .ro false [kI]], [⟨true, [.val, (.arr 82 v3), .val, (.arr 49 v4)], kD, false⟩]⟩
theorem has_cl : Has Tryz.prog 135 c_cl φ_cl := fp (R := rowsS) (tr := false) (E := [(136, 0, c_cv)]) (Φ := Φ_cl) (t := t_cl) ⟨has_cv, trivial⟩ Tryz.f135 hE (by kernel_rfl)
def c_cj : Con := ⟨[.own true [.val, (.arr 82 v3), .val, (.arr 49 v4), (.arr 42 [.val, .val, .val, (.arr 82 v3), .val]), (.arr 49 v4)] kW false, .ro true [kI, kI, kI, .list]], [⟨true, [.val, (.arr 82 v3), .val, (.arr 49 v4), (.arr 42 [.val, .val, .val, (.arr 82 v3), .val]), (.arr 49 v4)], kW, false⟩]⟩
theorem has_cj : Has Tryz.prog 101 c_cj φ_cj := fp (R := rowsS) (tr := false) (E := [(104, 0, c_ea), (134, 1, c_bu), (135, 2, c_cl), (136, 3, c_cv)]) (Φ := Φ_cj) (t := t_cj) ⟨has_ea, has_bu, has_cl, has_cv, trivial⟩ Tryz.f101 hE (by kernel_rfl)
def c_du : Con := ⟨[.own true [.val, (.arr 82 v3), .val, (.arr 49 v4), (.arr 42 [.val, .val, .val, (.arr 82 v3), .val]), (.arr 49 v4)] kW false, .ro true [kI, kI, kI, .list]], [⟨true, [.val, (.arr 82 v3), .val, (.arr 49 v4), (.arr 42 [.val, .val, .val, (.arr 82 v3), .val]), (.arr 49 v4)], kW, false⟩]⟩
def h_du : How := ⟨getH [],
  getH [(5, ⟨[.bool], [(7, (.bool (.v 0)))], [], [], 0⟩)],
  getH []⟩
theorem has_du : Has Tryz.prog 49 c_du φ_du := fp (R := rowsS) (tr := false) (E := [(99, 0, c_cn), (100, 1, c_cw), (101, 2, c_cj)]) (Φ := Φ_du) (t := t_du) ⟨has_cn, has_cw, has_cj, trivial⟩ Tryz.f49 h_du (by kernel_rfl)
def c_bn : Con := ⟨[.ptr [.val, .val] [.list, kI], .ro true kW], [⟨true, v4, [kI, kI, kI, .list], false⟩]⟩
def h_bn : How := ⟨getH [],
  getH [(25, ⟨[.bool], [(77, (.bool (.v 0)))], [], [], 0⟩), (17, ⟨[.bool], [(52, (.bool (.v 0)))], [], [], 0⟩), (9, ⟨[.bool], [(32, (.bool (.v 0)))], [], [], 0⟩), (6, ⟨[.list, kI], [], [(0, .cells [(.view true (.v 0)), (sI 1)])], [], 0⟩)],
  getH []⟩
theorem has_bn : Has Tryz.prog 44 c_bn φ_bn := fp (R := rowsS) (tr := false) (E := [(84, 0, c_bv), (85, 1, c_bm), (45, 2, c_bi)]) (Φ := Φ_bn) (t := t_bn) ⟨has_bv, has_bm, has_bi, trivial⟩ Tryz.f44 h_bn (by kernel_rfl)
def c_cg : Con := ⟨[.ptr [.val, .val] [.list, kI]], [⟨false, [(.arr 3 [.val])], [.list], false⟩, ⟨false, [(.arr 34 v4)], [.list], false⟩, ⟨true, [.val, (.arr 82 v3), .val, (.arr 49 v4), (.arr 42 [.val, .val, .val, (.arr 82 v3), .val]), (.arr 49 v4)], kW, false⟩]⟩
def h_cg : How := ⟨getH [(2, ⟨[kI, .list, kI, .bool, kI, .list, .list, .list, .list, .list], [(8, (.sl 1000)), (11, (sI 0))], [(0, .cells [(.view true (.v 1)), (sI 2)]), (7, .cells [(.bool (.v 3)), (.sl 1001), (sI 4), (.sl 1002), (.sl 1003), (.sl 1004)]), (1000, .arr 34 v4 (.v 5)), (1001, .arr 82 v3 (.v 6)), (1002, .arr 49 v4 (.v 7)), (1003, .arr 42 [.val, .val, .val, (.arr 82 v3), .val] (.v 8)), (1004, .arr 49 v4 (.v 9))], [9, 10, 11, 12, 13], 5⟩), (0, ⟨[kI, .bool, kI, .list, .list, .list, .list, .list], [(8, (.sl 1000)), (29, (sI 0))], [(7, .cells [(.bool (.v 1)), (.sl 1001), (sI 2), (.sl 1002), (.sl 1003), (.sl 1004)]), (1000, .arr 34 v4 (.v 3)), (1001, .arr 82 v3 (.v 4)), (1002, .arr 49 v4 (.v 5)), (1003, .arr 42 [.val, .val, .val, (.arr 82 v3), .val] (.v 6)), (1004, .arr 49 v4 (.v 7))], [8, 3, 4, 5, 6], 5⟩)],
  getH [(11, ⟨[.bool, kI, .list, kI, .list, .list, .list, .list, .list], [(8, (.sl 1000))], [(7, .cells [(.bool (.v 0)), (.sl 1001), (sI 1), (.sl 1002), (.sl 1003), (.sl 1004)]), (0, .cells [(.view true (.v 2)), (sI 3)]), (1000, .arr 34 v4 (.v 4)), (1001, .arr 82 v3 (.v 5)), (1002, .arr 49 v4 (.v 6)), (1003, .arr 42 [.val, .val, .val, (.arr 82 v3), .val] (.v 7)), (1004, .arr 49 v4 (.v 8))], [8, 3, 4, 5, 6], 5⟩)],
  getH []⟩
theorem has_cg : Has Tryz.prog 83 c_cg φ_cg := fp (R := rowsS) (tr := false) (E := [(126, 0, c_bk), (127, 1, c_bq), (45, 2, c_bi), (49, 3, c_du), (44, 4, c_bn)]) (Φ := Φ_cg) (t := t_cg) ⟨has_bk, has_bq, has_bi, has_du, has_bn, trivial⟩ Tryz.f83 h_cg (by kernel_rfl)
def c_cs : Con := ⟨[.ptr [.val, .val] [.list, kI]], [⟨false, [(.arr 1000003 [.val])], [.list], false⟩]⟩
def h_cs : How := ⟨getH [],
  getH [(4, ⟨[.list, .list, kI], [], [(1, .arr 3 [.val] (.v 0)), (0, .cells [(.view true (.v 1)), (sI 2)])], [], 0⟩)],
  getH []⟩
theorem has_cs : Has Tryz.prog 46 c_cs φ_cs := fp (R := rowsS) (tr := true) (E := [(45, 0, c_bi)]) (Φ := Φ_cs) (t := t_cs) ⟨has_bi, trivial⟩ Tryz.f46 h_cs (by kernel_rfl)
def c_da : Con := ⟨[.ptr [.val, .val] [.list, kI]], [⟨true, v3, [kI, kI, .list], false⟩]⟩
def h_da : How := ⟨getH [],
  getH [(7, ⟨kD, [(14, (.bool (.v 0)))], [(3, .cells [(sI 1005), (sI 1009), (.sl 1000)]), (0, .cells [(.view true (.v 1)), (sI 2)]), (1000, .arr 1000003 [.val] (.v 3))], [2], 1⟩)],
  getH []⟩
theorem has_da : Has Tryz.prog 109 c_da φ_da := fp (R := rowsS) (tr := false) (E := [(45, 0, c_bi), (46, 1, c_cs)]) (Φ := Φ_da) (t := t_da) ⟨has_bi, has_cs, trivial⟩ Tryz.f109 h_da (by kernel_rfl)
def c_bz : Con := ⟨[.ptr [.val, .val] [.list, kI]], [⟨true, v4, kJ, false⟩]⟩
def h_bz : How := ⟨getH [],
  getH [(4, ⟨[kI, .list, kI], [], [(2, .cells [(sI 1005), (sI 1009), (sI 1013), (sI 0)]), (0, .cells [(.view true (.v 1)), (sI 2)])], [], 0⟩)],
  getH []⟩
theorem has_bz : Has Tryz.prog 72 c_bz φ_bz := fp (R := rowsS) (tr := false) (E := [(45, 0, c_bi)]) (Φ := Φ_bz) (t := t_bz) ⟨has_bi, trivial⟩ Tryz.f72 h_bz (by kernel_rfl)
def c_cp : Con := ⟨[.ptr [.val, .val] [.list, kI]], [⟨true, v4, kD, false⟩, ⟨true, [.val, .val, .val, .val, .val, .val], [.bool, .hole, kI, .hole, .list, .list], false⟩]⟩
theorem has_cp : Has Tryz.prog 60 c_cp φ_cp := fp (R := rowsS) (tr := false) (E := [(83, 0, c_cg), (45, 1, c_bi), (109, 2, c_da), (72, 3, c_bz)]) (Φ := Φ_cp) (t := t_cp) ⟨has_cg, has_bi, has_da, has_bz, trivial⟩ Tryz.f60 hE (by kernel_rfl)
def c_dt : Con := ⟨[.ro true [.list, kI]], [⟨false, [.val], [.bool], false⟩]⟩
def h_dt : How := ⟨getH [(0, ⟨[kI], [(2, (.bool (.b false))), (3, (sI 0))], [], [], 0⟩)],
  getH [],
  getH []⟩
theorem has_dt : Has Tryz.prog 77 c_dt φ_dt := fp (R := rowsS) (tr := false) (E := [(62, 0, c_dx), (104, 1, c_ea)]) (Φ := Φ_dt) (t := t_dt) ⟨has_dx, has_ea, trivial⟩ Tryz.f77 h_dt (by kernel_rfl)
def c_ct : Con := ⟨[.ro true kD], [⟨false, [.val], [.bool], false⟩]⟩
def h_ct : How := ⟨getH [(0, ⟨[kI], [(2, (.bool (.b false))), (5, (sI 0))], [], [], 0⟩)],
  getH [],
  getH []⟩
theorem has_ct : Has Tryz.prog 36 c_ct φ_ct := fp (R := rowsS) (tr := false) (E := [(76, 0, c_dr), (77, 1, c_dt), (52, 2, c_de), (78, 3, c_cf)]) (Φ := Φ_ct) (t := t_ct) ⟨has_dr, has_dt, has_de, has_cf, trivial⟩ Tryz.f36 h_ct (by kernel_rfl)
def c_bj : Con := ⟨[.ro true kD], [⟨false, [.val], [.list], false⟩]⟩
theorem has_bj : Has Tryz.prog 73 c_bj φ_bj := fp (R := rowsS) (tr := false) (E := [(36, 0, c_ct), (85, 1, c_bm)]) (Φ := Φ_bj) (t := t_bj) ⟨has_ct, has_bm, trivial⟩ Tryz.f73 hE (by kernel_rfl)
def c_al : Con := ⟨[.own false [.val] [.list] false], [⟨true, v4, kD, false⟩, ⟨true, v4, kJ, false⟩]⟩
def h_al : How := ⟨getH [],
  getH [(6, ⟨[.bool, .list, kI], [(28, (.bool (.v 0)))], [(2, .cells [(.view true (.v 1)), (sI 2)])], [], 0⟩)],
  getH []⟩
theorem has_al : Has Tryz.prog 33 c_al φ_al := fp (R := rowsS) (tr := false) (E := [(42, 0, c_df), (60, 1, c_cp), (72, 2, c_bz), (73, 3, c_bj), (45, 4, c_bi)]) (Φ := Φ_al) (t := t_al) ⟨has_df, has_cp, has_bz, has_bj, has_bi, trivial⟩ Tryz.f33 h_al (by kernel_rfl)
def c_ec : Con := ⟨[.ro false [kI], .ro false [kI], .ro false [kI]], [⟨false, [.val], [.bool], false⟩]⟩
theorem has_ec : Has Tryz.prog 79 c_ec φ_ec := fp (R := []) (tr := false) (E := []) (Φ := ph []) (t := t_ec) trivial Tryz.f79 hE (by kernel_rfl)
def c_aq : Con := ⟨[.ro false [kI]], [⟨false, [.val], [.bool], false⟩]⟩
theorem has_aq : Has Tryz.prog 143 c_aq φ_aq := fp (R := []) (tr := false) (E := [(79, 0, c_ec)]) (Φ := Φ_aq) (t := t_aq) ⟨has_ec, trivial⟩ Tryz.f143 hE (by kernel_rfl)
def c_ag : Con := ⟨[.ro false [.list], .fn 143 []], [⟨false, [.val], [kI], false⟩]⟩
def h_ag : How := ⟨getH [(0, ⟨[kI], [(4, (.int .i64 (.n 0))), (8, (sI 0))], [], [], 0⟩)],
  getH [],
  getH []⟩
theorem has_ag : Has Tryz.prog 161 c_ag φ_ag := fp (R := []) (tr := false) (E := [(143, 0, c_aq)]) (Φ := Φ_ag) (t := t_ag) ⟨has_aq, trivial⟩ Tryz.f161 h_ag (by kernel_rfl)
def c_ae : Con := ⟨[.ro false [.list], .fn 143 []], [⟨false, [.val], [.bool], false⟩]⟩
theorem has_ae : Has Tryz.prog 145 c_ae φ_ae := fp (R := []) (tr := false) (E := [(161, 0, c_ag)]) (Φ := Φ_ae) (t := t_ae) ⟨has_ag, trivial⟩ Tryz.f145 hE (by kernel_rfl)
def c_ar : Con := ⟨[.ro false [kI]], [⟨false, [.val], [.bool], false⟩]⟩
theorem has_ar : Has Tryz.prog 144 c_ar φ_ar := fp (R := []) (tr := false) (E := []) (Φ := ph []) (t := t_ar) trivial Tryz.f144 hE (by kernel_rfl)
def c_ah : Con := ⟨[.ro false [.list], .fn 144 []], [⟨false, [.val], [kI], false⟩]⟩
def h_ah : How := ⟨getH [(0, ⟨[kI], [(4, (.int .i64 (.n 0))), (8, (sI 0))], [], [], 0⟩)],
  getH [],
  getH []⟩
theorem has_ah : Has Tryz.prog 161 c_ah φ_ah := fp (R := []) (tr := false) (E := [(144, 0, c_ar)]) (Φ := Φ_ah) (t := t_ah) ⟨has_ar, trivial⟩ Tryz.f161 h_ah (by kernel_rfl)
def c_ad : Con := ⟨[.ro false [.list], .fn 144 []], [⟨false, [.val], [.bool], false⟩]⟩
theorem has_ad : Has Tryz.prog 145 c_ad φ_ad := fp (R := []) (tr := false) (E := [(161, 0, c_ah)]) (Φ := Φ_ad) (t := t_ad) ⟨has_ah, trivial⟩ Tryz.f145 hE (by kernel_rfl)
def c_br : Con := ⟨[.ro false [.list]], [⟨false, [.val], [.bool], false⟩]⟩
theorem has_br : Has Tryz.prog 115 c_br φ_br := fp (R := []) (tr := false) (E := [(145, 0, c_ae), (145, 1, c_ad)]) (Φ := Φ_br) (t := t_br) ⟨has_ae, has_ad, trivial⟩ Tryz.f115 hE (by kernel_rfl)
def c_cy : Con := ⟨[.ro false [kI]], [⟨false, [.val], [.bool], false⟩]⟩
theorem has_cy : Has Tryz.prog 81 c_cy φ_cy := fp (R := []) (tr := false) (E := [(79, 0, c_ec)]) (Φ := Φ_cy) (t := t_cy) ⟨has_ec, trivial⟩ Tryz.f81 hE (by kernel_rfl)
def c_dy : Con := ⟨[.ro true [kI, kI, .list]], [⟨false, [.val], [.bool], false⟩]⟩
theorem has_dy : Has Tryz.prog 66 c_dy φ_dy := fp (R := []) (tr := false) (E := [(79, 0, c_ec), (115, 1, c_br), (81, 2, c_cy)]) (Φ := Φ_dy) (t := t_dy) ⟨has_ec, has_br, has_cy, trivial⟩ Tryz.f66 hE (by kernel_rfl)
def c_cd : Con := ⟨[.ro true [kI, kI, .list]], [⟨false, [.val], [.bool], false⟩]⟩
theorem has_cd : Has Tryz.prog 118 c_cd φ_cd := fp (R := []) (tr := false) (E := [(66, 0, c_dy)]) (Φ := Φ_cd) (t := t_cd) ⟨has_dy, trivial⟩ Tryz.f118 hE (by kernel_rfl)
def c_af : Con := ⟨[.ro false [.list], .fn 118 []], [⟨false, [.val], [kI], false⟩]⟩
def h_af : How := ⟨getH [(0, ⟨[kI], [(4, (.int .i64 (.n 0))), (8, (sI 0))], [], [], 0⟩)],
  getH [],
  getH []⟩
theorem has_af : Has Tryz.prog 149 c_af φ_af := fp (R := []) (tr := false) (E := [(118, 0, c_cd)]) (Φ := Φ_af) (t := t_af) ⟨has_cd, trivial⟩ Tryz.f149 h_af (by kernel_rfl)
def c_ac : Con := ⟨[.ro false [.list], .fn 118 []], [⟨false, [.val], [.bool], false⟩]⟩
theorem has_ac : Has Tryz.prog 119 c_ac φ_ac := fp (R := []) (tr := false) (E := [(149, 0, c_af)]) (Φ := Φ_ac) (t := t_ac) ⟨has_af, trivial⟩ Tryz.f119 hE (by kernel_rfl)
def c_dp : Con := ⟨[.ro true [.list, kI]], [⟨false, [.val], [.bool], false⟩]⟩
theorem has_dp : Has Tryz.prog 68 c_dp φ_dp := fp (R := []) (tr := false) (E := [(79, 0, c_ec), (119, 1, c_ac)]) (Φ := Φ_dp) (t := t_dp) ⟨has_ec, has_ac, trivial⟩ Tryz.f68 hE (by kernel_rfl)
def c_bh : Con := ⟨[.ro true [.list, kI]], [⟨false, [.val], [.bool], false⟩]⟩
theorem has_bh : Has Tryz.prog 162 c_bh φ_bh := fp (R := []) (tr := false) (E := [(115, 0, c_br), (79, 1, c_ec)]) (Φ := Φ_bh) (t := t_bh) ⟨has_br, has_ec, trivial⟩ Tryz.f162 hE (by kernel_rfl)
def c_ab : Con := ⟨[.ro false [.list], .fn 162 []], [⟨false, [.val], [kI], false⟩]⟩
def h_ab : How := ⟨getH [(0, ⟨[kI], [(4, (.int .i64 (.n 0))), (8, (sI 0))], [], [], 0⟩)],
  getH [],
  getH []⟩
theorem has_ab : Has Tryz.prog 171 c_ab φ_ab := fp (R := []) (tr := false) (E := [(162, 0, c_bh)]) (Φ := Φ_ab) (t := t_ab) ⟨has_bh, trivial⟩ Tryz.f171 h_ab (by kernel_rfl)
def c_aa : Con := ⟨[.ro false [.list], .fn 162 []], [⟨false, [.val], [.bool], false⟩]⟩
theorem has_aa : Has Tryz.prog 163 c_aa φ_aa := fp (R := []) (tr := false) (E := [(171, 0, c_ab)]) (Φ := Φ_aa) (t := t_aa) ⟨has_ab, trivial⟩ Tryz.f163 hE (by kernel_rfl)
def c_ck : Con := ⟨[.ro false [.list]], [⟨false, [.val], [.bool], false⟩]⟩
theorem has_ck : Has Tryz.prog 146 c_ck φ_ck := fp (R := []) (tr := false) (E := [(163, 0, c_aa)]) (Φ := Φ_ck) (t := t_ck) ⟨has_aa, trivial⟩ Tryz.f146 hE (by kernel_rfl)
def c_cr : Con := ⟨[.ro false [.list], .ro false [kI]], [⟨false, [.val], [kI], false⟩]⟩
theorem has_cr : Has Tryz.prog 147 c_cr φ_cr := fp (R := []) (tr := false) (E := [(79, 0, c_ec)]) (Φ := Φ_cr) (t := t_cr) ⟨has_ec, trivial⟩ Tryz.f147 hE (by kernel_rfl)
def c_bt : Con := ⟨[.ro false [.list], .ro true [kI, kI, .list]], [⟨false, [.val], [.bool], false⟩]⟩
theorem has_bt : Has Tryz.prog 116 c_bt φ_bt := fp (R := []) (tr := false) (E := [(146, 0, c_ck), (66, 1, c_dy), (147, 2, c_cr)]) (Φ := Φ_bt) (t := t_bt) ⟨has_ck, has_dy, has_cr, trivial⟩ Tryz.f116 hE (by kernel_rfl)
def c_ap : Con := ⟨[.ro false [.list]], [⟨false, [.val], [.list], false⟩]⟩
theorem has_ap : Has Tryz.prog 150 c_ap φ_ap := fp (R := []) (tr := false) (E := []) (Φ := ph []) (t := t_ap) trivial Tryz.f150 hE (by kernel_rfl)
def c_cc : Con := ⟨[.ro false [.list], .ro true [kI, kI, .list]], [⟨false, [.val], [.list], false⟩, ⟨false, [.val], [.bool], false⟩]⟩
def h_cc : How := ⟨getH [(0, ⟨[kI, .list], [(6, (.sl 1000)), (16, (sI 0))], [(1000, .arr 54 [.val, .val] (.v 1))], [], 1⟩)],
  getH [],
  getH []⟩
theorem has_cc : Has Tryz.prog 120 c_cc φ_cc := fp (R := []) (tr := false) (E := [(116, 0, c_bt), (150, 1, c_ap)]) (Φ := Φ_cc) (t := t_cc) ⟨has_bt, has_ap, trivial⟩ Tryz.f120 h_cc (by kernel_rfl)
def c_ca : Con := ⟨[.ro false [.list]], [⟨false, [.val], [.list], false⟩, ⟨false, [.val], [.bool], false⟩]⟩
def h_ca : How := ⟨getH [(0, ⟨[.list, .bool, kI], [(4, (.view true (.v 0))), (5, (.bool (.v 1))), (6, (sI 2))], [], [], 0⟩)],
  getH [],
  getH []⟩
theorem has_ca : Has Tryz.prog 69 c_ca φ_ca := fp (R := []) (tr := false) (E := [(120, 0, c_cc)]) (Φ := Φ_ca) (t := t_ca) ⟨has_cc, trivial⟩ Tryz.f69 h_ca (by kernel_rfl)
def c_ci : Con := ⟨[.ro false [kI]], [⟨false, [.val], [.bool], false⟩]⟩
theorem has_ci : Has Tryz.prog 80 c_ci φ_ci := fp (R := []) (tr := false) (E := [(79, 0, c_ec)]) (Φ := Φ_ci) (t := t_ci) ⟨has_ec, trivial⟩ Tryz.f80 hE (by kernel_rfl)
def c_db : Con := ⟨[.ro true kJ], [⟨false, [.val], [.bool], false⟩]⟩
theorem has_db : Has Tryz.prog 38 c_db φ_db := fp (R := []) (tr := false) (E := [(79, 0, c_ec), (80, 1, c_ci), (81, 2, c_cy)]) (Φ := Φ_db) (t := t_db) ⟨has_ec, has_ci, has_cy, trivial⟩ Tryz.f38 hE (by kernel_rfl)
def c_ao : Con := ⟨[.ro true kJ], [⟨false, [.val], [.bool], false⟩]⟩
theorem has_ao : Has Tryz.prog 70 c_ao φ_ao := fp (R := []) (tr := false) (E := []) (Φ := ph []) (t := t_ao) trivial Tryz.f70 hE (by kernel_rfl)
def c_ak : Con := ⟨[.ro false [.list], .ro true kJ], [⟨false, [.val], [kI], false⟩]⟩
def h_ak : How := ⟨getH [(0, ⟨[kI], [(4, (.int .i64 (.n 0))), (8, (sI 0))], [], [], 0⟩)],
  getH [],
  getH []⟩
theorem has_ak : Has Tryz.prog 121 c_ak φ_ak := fp (R := []) (tr := false) (E := []) (Φ := ph []) (t := t_ak) trivial Tryz.f121 h_ak (by kernel_rfl)
def c_ai : Con := ⟨[.ro false [.list], .ro true kJ], [⟨false, [.val], [.bool], false⟩]⟩
theorem has_ai : Has Tryz.prog 71 c_ai φ_ai := fp (R := []) (tr := false) (E := [(121, 0, c_ak)]) (Φ := Φ_ai) (t := t_ai) ⟨has_ak, trivial⟩ Tryz.f71 hE (by kernel_rfl)
def c_cz : Con := ⟨[.ro true kD], [⟨false, [.val], [.bool], false⟩]⟩
def h_cz : How := ⟨getH [(0, ⟨[kI], [(2, (.bool (.b false))), (32, (sI 0))], [], [], 0⟩)],
  getH [(3, ⟨[], [(2, (.bool (.b false)))], [], [], 0⟩)],
  getH []⟩
theorem has_cz : Has Tryz.prog 32 c_cz φ_cz := fp (R := []) (tr := false) (E := [(68, 0, c_dp), (69, 1, c_ca), (38, 2, c_db), (70, 3, c_ao), (71, 4, c_ai)]) (Φ := Φ_cz) (t := t_cz) ⟨has_dp, has_ca, has_db, has_ao, has_ai, trivial⟩ Tryz.f32 h_cz (by kernel_rfl)
def c_at : Con := ⟨[.ro true [kI, kI, .list]], [⟨true, v3, [kI, kI, .list], false⟩]⟩
theorem has_at : Has Tryz.prog 148 c_at φ_at := fp (R := []) (tr := false) (E := [(150, 0, c_ap)]) (Φ := Φ_at) (t := t_at) ⟨has_ap, trivial⟩ Tryz.f148 hE (by kernel_rfl)
def c_bc : Con := ⟨[.ro true [.list, kI], .ro false [kI], .ro false [kI]], [⟨true, [(.arr 82 v3), .val], [.list, kI], false⟩]⟩
def h_bc : How := ⟨getH [(0, ⟨[kI, .list], [(17, (sI 0))], [(2, .cells [(.sl 1000), (sI 1003)]), (1000, .arr 82 v3 (.v 1))], [], 1⟩)],
  getH [],
  getH []⟩
theorem has_bc : Has Tryz.prog 125 c_bc φ_bc := fp (R := []) (tr := false) (E := [(148, 0, c_at)]) (Φ := Φ_bc) (t := t_bc) ⟨has_at, trivial⟩ Tryz.f125 h_bc (by kernel_rfl)
def c_av : Con := ⟨[.ro true [.list, kI]], [⟨true, [(.arr 82 v3), .val], [.list, kI], false⟩]⟩
theorem has_av : Has Tryz.prog 114 c_av φ_av := fp (R := []) (tr := false) (E := [(125, 0, c_bc)]) (Φ := Φ_av) (t := t_av) ⟨has_bc, trivial⟩ Tryz.f114 hE (by kernel_rfl)
def c_aj : Con := ⟨[.ro false [.list]], [⟨false, [(.arr 49 v4)], [.list], false⟩]⟩
theorem has_aj : Has Tryz.prog 86 c_aj φ_aj := fp (R := []) (tr := false) (E := []) (Φ := ph []) (t := t_aj) trivial Tryz.f86 hE (by kernel_rfl)
def c_am : Con := ⟨[.ro true kD], [⟨true, [.val, .val, .val, (.arr 49 v4)], kD, false⟩]⟩
theorem has_am : Has Tryz.prog 65 c_am φ_am := fp (R := []) (tr := false) (E := [(114, 0, c_av), (86, 1, c_aj)]) (Φ := Φ_am) (t := t_am) ⟨has_av, has_aj, trivial⟩ Tryz.f65 hE (by kernel_rfl)
def c_bb : Con := ⟨[.own true [.val, .val] [.list, kI] false, .ro false [.bool]], [⟨false, [.val], [.list], false⟩]⟩
theorem has_bb : Has Tryz.prog 108 c_bb φ_bb := fp (R := []) (tr := false) (E := []) (Φ := ph []) (t := t_bb) trivial Tryz.f108 hE (by kernel_rfl)
def c_as : Con := ⟨[.ro true kD, .ro false [.bool]], [⟨false, [.val], [.list], false⟩]⟩
theorem has_as : Has Tryz.prog 59 c_as φ_as := fp (R := []) (tr := false) (E := [(108, 0, c_bb), (69, 1, c_ca)]) (Φ := Φ_as) (t := t_as) ⟨has_bb, has_ca, trivial⟩ Tryz.f59 hE (by kernel_rfl)
def c_bg : Con := ⟨[.ro true kD, .ro false [kI], .ro false [kI], .ro false [kI]], [⟨false, [.val], [.bool], false⟩]⟩
theorem has_bg : Has Tryz.prog 107 c_bg φ_bg := fp (R := []) (tr := false) (E := [(71, 0, c_ai)]) (Φ := Φ_bg) (t := t_bg) ⟨has_ai, trivial⟩ Tryz.f107 hE (by kernel_rfl)
def c_au : Con := ⟨[.ro true kD, .ro false [kI], .ro false [kI], .ro false [.list]], [⟨false, [.val], [.bool], false⟩, ⟨false, [.val], [.bool], false⟩]⟩
def h_au : How := ⟨getH [(0, ⟨[.bool, .bool, kI], [(8, (.bool (.v 0))), (9, (.bool (.v 1))), (15, (sI 2))], [], [], 0⟩)],
  getH [],
  getH []⟩
theorem has_au : Has Tryz.prog 151 c_au φ_au := fp (R := []) (tr := false) (E := [(107, 0, c_bg)]) (Φ := Φ_au) (t := t_au) ⟨has_bg, trivial⟩ Tryz.f151 h_au (by kernel_rfl)
def c_dg : Con := ⟨[.ro true [.list, kI], .ro true [kI, kI, .list]], [⟨true, [.val, .val], [.list, kI], false⟩, ⟨false, [.val], [.bool], false⟩]⟩
theorem has_dg : Has Tryz.prog 117 c_dg φ_dg := fp (R := []) (tr := false) (E := [(68, 0, c_dp), (66, 1, c_dy), (114, 2, c_av), (148, 3, c_at)]) (Φ := Φ_dg) (t := t_dg) ⟨has_dp, has_dy, has_av, has_at, trivial⟩ Tryz.f117 hE (by kernel_rfl)
def c_aw : Con := ⟨[.ptr [.val, .val, .val, (.arr 49 v4)] kD, .ro true [kI, kI, .list]], [⟨false, [.val], [.bool], false⟩]⟩
theorem has_aw : Has Tryz.prog 67 c_aw φ_aw := fp (R := []) (tr := false) (E := [(59, 0, c_as), (116, 1, c_bt), (117, 2, c_dg)]) (Φ := Φ_aw) (t := t_aw) ⟨has_as, has_bt, has_dg, trivial⟩ Tryz.f67 hE (by kernel_rfl)
def c_an : Con := ⟨[.ptr [.val, .val, .val, (.arr 49 v4)] kD, .ro false [kI]], []⟩
def h_an : How := ⟨getH [],
  getH [(9, ⟨[.bool], [(82, (.bool (.v 0)))], [], [], 0⟩), (7, ⟨[.bool], [(71, (.bool (.v 0)))], [], [], 0⟩)],
  getH []⟩
theorem has_an : Has Tryz.prog 122 c_an φ_an := fp (R := []) (tr := false) (E := [(59, 0, c_as), (151, 1, c_au), (147, 2, c_cr), (67, 3, c_aw)]) (Φ := Φ_an) (t := t_an) ⟨has_as, has_au, has_cr, has_aw, trivial⟩ Tryz.f122 h_an (by kernel_rfl)
def c_ba : Con := ⟨[.ptr [.val, .val, .val, (.arr 49 v4)] kD, .ro true kJ], []⟩
theorem has_ba : Has Tryz.prog 74 c_ba φ_ba := fp (R := []) (tr := false) (E := [(38, 0, c_db), (70, 1, c_ao), (59, 2, c_as), (71, 3, c_ai), (122, 4, c_an)]) (Φ := Φ_ba) (t := t_ba) ⟨has_db, has_ao, has_as, has_ai, has_an, trivial⟩ Tryz.f74 hE (by kernel_rfl)
def c_bs : Con := ⟨[.ro true kD, .ro true kJ], [⟨true, v4, kD, false⟩]⟩
theorem has_bs : Has Tryz.prog 34 c_bs φ_bs := fp (R := []) (tr := false) (E := [(32, 0, c_cz), (65, 1, c_am), (74, 2, c_ba)]) (Φ := Φ_bs) (t := t_bs) ⟨has_cz, has_am, has_ba, trivial⟩ Tryz.f34 hE (by kernel_rfl)
def c_be : Con := ⟨[.ro true [kI, kI, .list]], [⟨true, v3, [kI, kI, .list], false⟩]⟩
theorem has_be : Has Tryz.prog 142 c_be φ_be := fp (R := rowsS) (tr := false) (E := []) (Φ := ph []) (t := t_be) trivial Tryz.f142 hE (by kernel_rfl)
def c_dh : Con := ⟨[.ro true [.list, kI]], [⟨true, [(.arr 82 v3), .val], [.list, kI], false⟩]⟩
def h_dh : How := ⟨getH [(0, ⟨[kI, .list], [(4, (sI 0))], [(3, .cells [(.sl 1000), (sI 1001)]), (1000, .arr 82 v3 (.v 1))], [2], 1⟩)],
  getH [],
  getH []⟩
theorem has_dh : Has Tryz.prog 113 c_dh φ_dh := fp (R := rowsS) (tr := false) (E := [(142, 0, c_be)]) (Φ := Φ_dh) (t := t_dh) ⟨has_be, trivial⟩ Tryz.f113 h_dh (by kernel_rfl)
def c_cm : Con := ⟨[.ro true kD], [⟨true, [.val, (.arr 82 v3), .val, (.arr 49 v4)], kD, false⟩]⟩
theorem has_cm : Has Tryz.prog 64 c_cm φ_cm := fp (R := rowsS) (tr := false) (E := [(113, 0, c_dh)]) (Φ := Φ_cm) (t := t_cm) ⟨has_dh, trivial⟩ Tryz.f64 hE (by kernel_rfl)
def c_bx : Con := ⟨[.ro true kD, .ro true kJ], [⟨true, v4, kD, false⟩]⟩
theorem has_bx : Has Tryz.prog 35 c_bx φ_bx := fp (R := rowsS) (tr := false) (E := [(36, 0, c_ct), (64, 1, c_cm), (75, 2, c_by)]) (Φ := Φ_bx) (t := t_bx) ⟨has_ct, has_cm, has_by, trivial⟩ Tryz.f35 hE (by kernel_rfl)
def c_dk : Con := ⟨[.ro false [.list], .ro false [.list]], [⟨false, [.val], [.bool], false⟩]⟩
def h_dk : How := ⟨getH [(0, ⟨[kI], [(4, (.bool (.b false))), (5, (sI 0))], [], [], 0⟩)],
  getH [],
  getH []⟩
theorem has_dk : Has Tryz.prog 26 c_dk φ_dk := fp (R := []) (tr := false) (E := []) (Φ := ph []) (t := t_dk) trivial Tryz.f26 h_dk (by kernel_rfl)
def c_dq : Con := ⟨[.ro true [kI, kI, .list], .ro true [kI, kI, .list]], [⟨false, [.val], [.bool], false⟩]⟩
theorem has_dq : Has Tryz.prog 53 c_dq φ_dq := fp (R := []) (tr := false) (E := [(26, 0, c_dk)]) (Φ := Φ_dq) (t := t_dq) ⟨has_dk, trivial⟩ Tryz.f53 hE (by kernel_rfl)
def c_dn : Con := ⟨[.ro false [.list], .ro false [.list]], [⟨false, [.val], [.bool], false⟩]⟩
def h_dn : How := ⟨getH [(0, ⟨[kI], [(4, (.bool (.b false))), (5, (sI 0))], [], [], 0⟩)],
  getH [],
  getH []⟩
theorem has_dn : Has Tryz.prog 20 c_dn φ_dn := fp (R := []) (tr := false) (E := [(53, 0, c_dq)]) (Φ := Φ_dn) (t := t_dn) ⟨has_dq, trivial⟩ Tryz.f20 h_dn (by kernel_rfl)
def c_dz : Con := ⟨[.ro true [.list, kI], .ro true [.list, kI]], [⟨false, [.val], [.bool], false⟩]⟩
theorem has_dz : Has Tryz.prog 57 c_dz φ_dz := fp (R := []) (tr := false) (E := [(20, 0, c_dn)]) (Φ := Φ_dz) (t := t_dz) ⟨has_dn, trivial⟩ Tryz.f57 hE (by kernel_rfl)
def c_ch : Con := ⟨[.ro false [.list], .ro false [.list]], [⟨false, [.val], [.bool], false⟩]⟩
def h_ch : How := ⟨getH [(0, ⟨[kI], [(4, (.bool (.b false))), (5, (sI 0))], [], [], 0⟩)],
  getH [],
  getH []⟩
theorem has_ch : Has Tryz.prog 37 c_ch φ_ch := fp (R := []) (tr := false) (E := []) (Φ := ph []) (t := t_ch) trivial Tryz.f37 h_ch (by kernel_rfl)
def c_cx : Con := ⟨[.ro true kD, .ro true kD], [⟨false, [.val], [.bool], false⟩]⟩
theorem has_cx : Has Tryz.prog 23 c_cx φ_cx := fp (R := []) (tr := false) (E := [(57, 0, c_dz), (37, 1, c_ch)]) (Φ := Φ_cx) (t := t_cx) ⟨has_dz, has_ch, trivial⟩ Tryz.f23 hE (by kernel_rfl)
def c_bf : Con := ⟨[.ro true kD, .ro false [.bool]], [⟨false, [.val], [.list], false⟩]⟩
theorem has_bf : Has Tryz.prog 25 c_bf φ_bf := fp (R := []) (tr := false) (E := [(32, 0, c_cz), (59, 1, c_as)]) (Φ := Φ_bf) (t := t_bf) ⟨has_cz, has_as, trivial⟩ Tryz.f25 hE (by kernel_rfl)
def c_di : Con := ⟨[.ro false [.list], .ro true kJ], [⟨false, [.val], [.bool], false⟩]⟩
def h_di : How := ⟨getH [(0, ⟨[kI], [(4, (.bool (.b false))), (5, (sI 0))], [], [], 0⟩)],
  getH [],
  getH []⟩
theorem has_di : Has Tryz.prog 39 c_di φ_di := fp (R := []) (tr := false) (E := []) (Φ := ph []) (t := t_di) trivial Tryz.f39 h_di (by kernel_rfl)
def c_dv : Con := ⟨[.ro false [.list], .ro false [kI], .ro false [.list], .ro false [kI]], [⟨false, [.val], [.bool], false⟩]⟩
def h_dv : How := ⟨getH [(0, ⟨[kI], [(8, (.bool (.b false))), (9, (sI 0))], [], [], 0⟩)],
  getH [],
  getH []⟩
theorem has_dv : Has Tryz.prog 41 c_dv φ_dv := fp (R := []) (tr := false) (E := [(39, 0, c_di)]) (Φ := Φ_dv) (t := t_dv) ⟨has_di, trivial⟩ Tryz.f41 h_dv (by kernel_rfl)
end Dx
