/- The seat: its types, its functions' contracts, and that they answer so. -/
import Derived.Test.YtcgenclbnnigeabGreatProg
import Derived.Test.YtcgenclbnnigeabGreatXe
import Derived.Test.YtcgenclbnnigeabGreatYb
set_option linter.all false
set_option linter.unusedVariables false
set_option linter.unusedSimpArgs false
set_option linter.unnecessarySimpa false
namespace Dx
open Go
def tab : List (Nat × TI) :=
[(3, ⟨.int .i64, 1, false, [.int .i64 (.n 0)], 8⟩),
  (4, ⟨.bool, 1, false, [.bool (.b false)], 1⟩),
  (5, ⟨.int .u8, 1, false, [.int .u8 (.n 0)], 1⟩),
  (22, ⟨.slice 5, 1, false, [.nil], 24⟩),
  (23, ⟨.slice 82, 1, false, [.nil], 24⟩),
  (25, ⟨.struct [(0, 1, false), (1, 1, false)], 2, true, [.nil, .int .i64 (.n 0)], 32⟩),
  (26, ⟨.slice 49, 1, false, [.nil], 24⟩),
  (28, ⟨.struct [(0, 1, false), (1, 2, true), (3, 1, false)], 4, true, [.bool (.b false), .nil, .int .i64 (.n 0), .nil], 64⟩),
  (29, ⟨.slice 42, 1, false, [.nil], 24⟩),
  (31, ⟨.struct [(0, 4, true), (4, 1, false), (5, 1, false)], 6, true, [.bool (.b false), .nil, .int .i64 (.n 0), .nil, .nil, .nil], 112⟩),
  (32, ⟨.slice 3, 1, false, [.nil], 24⟩),
  (34, ⟨.struct [(0, 1, false), (1, 1, false), (2, 1, false), (3, 1, false)], 4, true, [.int .i64 (.n 0), .int .i64 (.n 0), .int .i64 (.n 0), .nil], 48⟩),
  (42, ⟨.struct [(0, 1, false), (1, 1, false), (2, 1, false), (3, 2, true)], 5, true, [.int .i64 (.n 0), .bool (.b false), .int .i64 (.n 0), .nil, .int .i64 (.n 0)], 56⟩),
  (49, ⟨.struct [(0, 1, false), (1, 1, false), (2, 1, false), (3, 1, false)], 4, true, [.int .i64 (.n 0), .int .i64 (.n 0), .int .i64 (.n 0), .int .i64 (.n 0)], 32⟩),
  (50, ⟨.slice 54, 1, false, [.nil], 24⟩),
  (54, ⟨.struct [(0, 1, false), (1, 1, false)], 2, true, [.nil, .int .i64 (.n 0)], 32⟩),
  (82, ⟨.struct [(0, 1, false), (1, 1, false), (2, 1, false)], 3, true, [.int .i64 (.n 0), .int .i64 (.n 0), .nil], 40⟩),
  (102, ⟨.struct [(0, 1, false), (1, 1, false)], 2, true, [.nil, .int .i64 (.n 0)], 32⟩),
  (103, ⟨.slice 34, 1, false, [.nil], 24⟩),
  (113, ⟨.slice 166, 1, false, [.nil], 24⟩),
  (115, ⟨.struct [(0, 1, false), (1, 1, false)], 2, true, [.int .i64 (.n 0), .nil], 32⟩),
  (119, ⟨.arr 2 3, 2, true, [.int .i64 (.n 0), .int .i64 (.n 0)], 16⟩),
  (120, ⟨.map 3 119, 1, false, [.any], 8⟩),
  (166, ⟨.struct [(0, 1, false), (1, 1, false)], 2, true, [.int .i64 (.n 0), .int .i64 (.n 0)], 16⟩)]

def tab' : Tab := getT tab
theorem tab_ok : TabOk Proofs.Tryz.prog (getT tab) := tabB_ok (by kernel_rfl)
end Dx

namespace Dx
open Go Go.Proofs
def eqs : List (Nat × Nat) := [(49, 4), (166, 2)]
theorem eqs_ok : EqOk Tryz.prog (getQ eqs) := eqB_ok (by kernel_rfl)
theorem mixed_ok : Tryz.prog.follows .mixedOrders = true := by kernel_rfl
def rowsS : List (Nat × List Sh) := [(42, [.val, .val, .val, (.arr 82 [.val, .val, .val]), .val])]
def bodyOf (fn : Func) : Code := match fn.body with
  | some b => b
  | none => .skip
def gE (R : List (Nat × List Sh)) (tr : Bool) (E : List (Nat × Nat × Con)) : Env := ⟨getT tab, getQ eqs, getR R, getE E, tr⟩
abbrev hE : How := ⟨getH [], getH [], getH []⟩
abbrev sI (n : Nat) : SV := .int .i64 (.v n)
theorem fo {G : Env} {Φ : Phi} (hG : EnvOk Tryz.prog G Φ) {f : FuncId} (fn : Func) {c : Con} (H : How) {t : Tree} (h : (Tryz.prog.funcs[f]?, fn.body, fn.name == "runtime.NumGoroutine", fnT G H c fn (bodyOf fn)) = (some fn, some (bodyOf fn), false, t)) : Has Tryz.prog f c (fun cs => retOf (den Φ t cs)) := by
  simp only [Prod.mk.injEq] at h
  exact fn_ok hG h.1 h.2.1 h.2.2.1 h.2.2.2
theorem eo {E : Nat -> List (Nat × Con)} {R : Rows} {tr : Bool} {Φ : Phi} (h : ∀ f c, c ∈ E f -> Has Tryz.prog f c.2 (Φ c.1)) : EnvOk Tryz.prog ⟨getT tab, getQ eqs, R, E, tr⟩ Φ := ⟨tab_ok, eqs_ok, h, mixed_ok⟩
theorem fp {E : List (Nat × Nat × Con)} {R : List (Nat × List Sh)} {tr : Bool} {Φ : Phi} (m : hasAll Tryz.prog Φ E) {f : FuncId} (fn : Func) {c : Con} (H : How) {t : Tree} (h : (Tryz.prog.funcs[f]?, fn.body, fn.name == "runtime.NumGoroutine", fnT (gE R tr E) H c fn (bodyOf fn)) = (some fn, some (bodyOf fn), false, t)) : Has Tryz.prog f c (fun cs => retOf (den Φ t cs)) := fo (eo (getE_ok (hasAll_get m))) fn H h
abbrev v5 : List Sh := [.val, .val, .val, .val, .val]
abbrev v4 : List Sh := [.val, .val, .val, .val]
abbrev v3 : List Sh := [.val, .val, .val]
abbrev kW : List CK := [.bool, .list, kI, .list, .list, .list]
abbrev kD : List CK := [.bool, .list, kI, .list]
abbrev kH : List CK := [kI, .bool, kI, .list, kI]
abbrev kJ : List CK := [kI, kI, kI, kI]
def c_fi : Con := ⟨[.own false [.val] [.list] false], [⟨false, [.val, .val], [.list, kI], true⟩]⟩
theorem has_fi : Has Tryz.prog 42 c_fi φ_fi := fp (R := rowsS) (tr := false) (E := []) (Φ := ph []) (t := t_fi) trivial Tryz.f42 hE (by kernel_rfl)
def c_bx : Con := ⟨[.ptr [.val, .val] [.list, kI], .ro false [kI]], [⟨false, [.val], [kI], false⟩]⟩
theorem has_bx : Has Tryz.prog 45 c_bx φ_bx := fp (R := rowsS) (tr := false) (E := []) (Φ := ph []) (t := t_bx) trivial Tryz.f45 hE (by kernel_rfl)
def c_df : Con := ⟨[.ptr [.val, .val] [.list, kI]], [⟨false, [(.arr 3 [.val])], [.list], false⟩]⟩
theorem has_df : Has Tryz.prog 126 c_df φ_df := fp (R := rowsS) (tr := false) (E := [(45, 0, c_bx)]) (Φ := Φ_df) (t := t_df) ⟨has_bx, trivial⟩ Tryz.f126 hE (by kernel_rfl)
def c_eo : Con := ⟨[], [⟨true, [.val, (.arr 82 v3), .val, (.arr 49 v4)], kD, false⟩]⟩
theorem has_eo : Has Tryz.prog 154 c_eo φ_eo := fp (R := rowsS) (tr := false) (E := []) (Φ := ph []) (t := t_eo) trivial Tryz.f154 hE (by kernel_rfl)
def c_fw : Con := ⟨[.ro false [kI], .ro false [kI], .ro false [kI]], [⟨false, [.val], [.bool], false⟩]⟩
theorem has_fw : Has Tryz.prog 104 c_fw φ_fw := fp (R := rowsS) (tr := false) (E := []) (Φ := ph []) (t := t_fw) trivial Tryz.f104 hE (by kernel_rfl)
def c_cu : Con := ⟨[.ro false [kI]], [⟨true, [.val, (.arr 166 [.val, .val])], [kI, .list], false⟩, ⟨false, [.val], [.bool], false⟩]⟩
theorem has_cu : Has Tryz.prog 137 c_cu φ_cu := fp (R := rowsS) (tr := false) (E := [(104, 0, c_fw)]) (Φ := Φ_cu) (t := t_cu) ⟨has_fw, trivial⟩ Tryz.f137 hE (by kernel_rfl)
def c_dd : Con := ⟨[.ro false [kI], .ro false [kI]], [⟨true, [.val, .val, .val, (.arr 82 v3), .val], kH, false⟩, ⟨false, [.val], [.bool], false⟩]⟩
theorem has_dd : Has Tryz.prog 155 c_dd φ_dd := fp (R := rowsS) (tr := false) (E := [(137, 0, c_cu), (104, 1, c_fw)]) (Φ := Φ_dd) (t := t_dd) ⟨has_cu, has_fw, trivial⟩ Tryz.f155 hE (by kernel_rfl)
def c_dg : Con := ⟨[.ro false [.list]], [⟨true, [.val, (.arr 82 v3), .val, (.arr 49 v4), (.arr 42 [.val, .val, .val, (.arr 82 v3), .val]), (.arr 49 v4)], kW, false⟩, ⟨false, [.val], [.bool], false⟩]⟩
def h_dg : How := ⟨getH [(0, ⟨[kI, .list], [(3, (.bool (.b false))), (5, (sI 0))], [(4, .cells [(.bool (.v 1001)), (.sl 1), (sI 1003), (.sl 2), (.sl 1000), (.sl 3)]), (1000, .arr 42 [.val, .val, .val, (.arr 82 v3), .val] (.v 1))], [], 1⟩)],
  getH [],
  getH []⟩
theorem has_dg : Has Tryz.prog 127 c_dg φ_dg := fp (R := rowsS) (tr := false) (E := [(154, 0, c_eo), (155, 1, c_dd)]) (Φ := Φ_dg) (t := t_dg) ⟨has_eo, has_dd, trivial⟩ Tryz.f127 h_dg (by kernel_rfl)
def c_ey : Con := ⟨[.ro false [.list]], [⟨false, [.val], [.bool], false⟩]⟩
def h_ey : How := ⟨getH [(0, ⟨[kI, kI], [(2, (.bool (.b false))), (3, (sI 0)), (4, (sI 1))], [], [], 0⟩)],
  getH [],
  getH []⟩
theorem has_ey : Has Tryz.prog 110 c_ey φ_ey := fp (R := rowsS) (tr := false) (E := [(104, 0, c_fw)]) (Φ := Φ_ey) (t := t_ey) ⟨has_fw, trivial⟩ Tryz.f110 h_ey (by kernel_rfl)
def c_fr : Con := ⟨[.ro true [kI, kI, .list]], [⟨false, [.val], [.bool], false⟩]⟩
theorem has_fr : Has Tryz.prog 62 c_fr φ_fr := fp (R := rowsS) (tr := false) (E := [(104, 0, c_fw), (110, 1, c_ey)]) (Φ := Φ_fr) (t := t_fr) ⟨has_fw, has_ey, trivial⟩ Tryz.f62 hE (by kernel_rfl)
def c_ff : Con := ⟨[.ro false [.list], .ro true [kI, kI, .list]], [⟨false, [.val], [.bool], false⟩]⟩
theorem has_ff : Has Tryz.prog 111 c_ff φ_ff := fp (R := rowsS) (tr := false) (E := []) (Φ := ph []) (t := t_ff) trivial Tryz.f111 hE (by kernel_rfl)
def c_spec_l12Do : Con := ⟨[.own false [(.arr 54 [.val, .val])] [.list] false, .ro true [kI, kI, .list]], [⟨false, [(.arr 54 [.val, .val])], [.list], false⟩]⟩
theorem has_spec_l12Do : Has Tryz.prog 124 c_spec_l12Do φ_spec_l12Do := fp (R := rowsS) (tr := false) (E := []) (Φ := ph []) (t := t_spec_l12Do) trivial Tryz.f124 hE (by kernel_rfl)
def c_fo : Con := ⟨[.ro false [.list]], [⟨false, [.val], [.list], false⟩, ⟨false, [.val], [.bool], false⟩]⟩
def h_fo : How := ⟨getH [(0, ⟨[kI, .list], [(2, .nil), (3, (.bool (.b false))), (4, (.sl 1000)), (5, (sI 0))], [(1000, .arr 54 [.val, .val] (.v 1))], [0], 1⟩)],
  getH [],
  getH []⟩
theorem has_fo : Has Tryz.prog 76 c_fo φ_fo := fp (R := rowsS) (tr := false) (E := [(62, 0, c_fr), (111, 1, c_ff), (124, 2, c_spec_l12Do)]) (Φ := Φ_fo) (t := t_fo) ⟨has_fr, has_ff, has_spec_l12Do, trivial⟩ Tryz.f76 h_fo (by kernel_rfl)
def c_cy : Con := ⟨[.ro true kD, .ro false [.bool]], [⟨false, [.val], [.list], false⟩]⟩
theorem has_cy : Has Tryz.prog 84 c_cy φ_cy := fp (R := rowsS) (tr := false) (E := [(76, 0, c_fo)]) (Φ := Φ_cy) (t := t_cy) ⟨has_fo, trivial⟩ Tryz.f84 hE (by kernel_rfl)
def c_ft : Con := ⟨[.own true [(.arr 82 v3), .val] [.list, kI] false, .own true v3 [kI, kI, .list] false], [⟨true, [(.arr 82 v3), .val], [.list, kI], false⟩, ⟨false, [.val], [.bool], false⟩]⟩
theorem has_ft : Has Tryz.prog 112 c_ft φ_ft := fp (R := rowsS) (tr := false) (E := []) (Φ := ph []) (t := t_ft) trivial Tryz.f112 hE (by kernel_rfl)
def c_cz : Con := ⟨[.own true [.val, (.arr 82 v3), .val, (.arr 49 v4)] kD false, .own true v3 [kI, kI, .list] false], [⟨true, [.val, (.arr 82 v3), .val, (.arr 49 v4)], kD, false⟩, ⟨false, [.val], [.bool], false⟩]⟩
theorem has_cz : Has Tryz.prog 63 c_cz φ_cz := fp (R := rowsS) (tr := false) (E := [(84, 0, c_cy), (111, 1, c_ff), (112, 2, c_ft)]) (Φ := Φ_cz) (t := t_cz) ⟨has_cy, has_ff, has_ft, trivial⟩ Tryz.f63 hE (by kernel_rfl)
def c_el : Con := ⟨[.ro false [.list], .ro true kJ], [⟨false, [.val], [.bool], false⟩]⟩
def h_el : How := ⟨getH [(0, ⟨[kI], [(4, (.bool (.b false))), (5, (sI 0))], [], [], 0⟩)],
  getH [],
  getH []⟩
theorem has_el : Has Tryz.prog 78 c_el φ_el := fp (R := rowsS) (tr := false) (E := []) (Φ := ph []) (t := t_el) trivial Tryz.f78 h_el (by kernel_rfl)
def c_de : Con := ⟨[.ro true kD], [⟨false, [.val], [.list], false⟩]⟩
def h_de : How := ⟨getH [(0, ⟨[kI, .list], [(3, (.sl 1000)), (5, (sI 0))], [(1000, .arr 49 v4 (.v 1))], [1], 1⟩), (2, ⟨[kI, .list], [(3, (.sl 1000)), (6, (sI 0))], [(1000, .arr 49 v4 (.v 1))], [2], 1⟩)],
  getH [],
  getH []⟩
theorem has_de : Has Tryz.prog 85 c_de φ_de := fp (R := rowsS) (tr := false) (E := [(84, 0, c_cy), (78, 1, c_el)]) (Φ := Φ_de) (t := t_de) ⟨has_cy, has_el, trivial⟩ Tryz.f85 h_de (by kernel_rfl)
def c_fe : Con := ⟨[.own true [.val, (.arr 82 v3), .val, (.arr 49 v4), (.arr 42 [.val, .val, .val, (.arr 82 v3), .val]), (.arr 49 v4)] kW false, .ro true kJ], [⟨true, [.val, (.arr 82 v3), .val, (.arr 49 v4), (.arr 42 [.val, .val, .val, (.arr 82 v3), .val]), (.arr 49 v4)], kW, false⟩]⟩
theorem has_fe : Has Tryz.prog 131 c_fe φ_fe := fp (R := rowsS) (tr := false) (E := []) (Φ := ph []) (t := t_fe) trivial Tryz.f131 hE (by kernel_rfl)
def c_ed : Con := ⟨[.own true [.val, (.arr 82 v3), .val, (.arr 49 v4), (.arr 42 [.val, .val, .val, (.arr 82 v3), .val]), (.arr 49 v4)] kW false, .ro true [kI, kI, kI, .list]], [⟨true, [.val, (.arr 82 v3), .val, (.arr 49 v4), (.arr 42 [.val, .val, .val, (.arr 82 v3), .val]), (.arr 49 v4)], kW, false⟩]⟩
theorem has_ed : Has Tryz.prog 99 c_ed φ_ed := fp (R := rowsS) (tr := false) (E := [(84, 0, c_cy), (62, 1, c_fr), (63, 2, c_cz), (104, 3, c_fw), (85, 4, c_de), (131, 5, c_fe)]) (Φ := Φ_ed) (t := t_ed) ⟨has_cy, has_fr, has_cz, has_fw, has_de, has_fe, trivial⟩ Tryz.f99 hE (by kernel_rfl)
def c_dm : Con := ⟨[.own true [.val, (.arr 82 v3), .val, (.arr 49 v4), (.arr 42 [.val, .val, .val, (.arr 82 v3), .val]), (.arr 49 v4)] kW false, .ro false [kI]], [⟨true, [.val, (.arr 82 v3), .val, (.arr 49 v4), (.arr 42 [.val, .val, .val, (.arr 82 v3), .val]), (.arr 49 v4)], kW, false⟩]⟩
theorem has_dm : Has Tryz.prog 132 c_dm φ_dm := fp (R := rowsS) (tr := false) (E := []) (Φ := ph []) (t := t_dm) trivial Tryz.f132 hE (by kernel_rfl)
def c_ew : Con := ⟨[.ro true kJ], [⟨false, [.val], [.bool], false⟩]⟩
theorem has_ew : Has Tryz.prog 52 c_ew φ_ew := fp (R := rowsS) (tr := false) (E := [(104, 0, c_fw)]) (Φ := Φ_ew) (t := t_ew) ⟨has_fw, trivial⟩ Tryz.f52 hE (by kernel_rfl)
def c_ev : Con := ⟨[.ro true kD, .ro false [kI], .ro false [.list], .ro false [kI]], [⟨false, [.val], [.bool], false⟩]⟩
def h_ev : How := ⟨getH [(0, ⟨[kI], [(8, (.bool (.b false))), (9, (sI 0))], [], [], 0⟩)],
  getH [],
  getH []⟩
theorem has_ev : Has Tryz.prog 152 c_ev φ_ev := fp (R := rowsS) (tr := false) (E := [(78, 0, c_el)]) (Φ := Φ_ev) (t := t_ev) ⟨has_el, trivial⟩ Tryz.f152 h_ev (by kernel_rfl)
def c_ex : Con := ⟨[.ro true kD, .ro false [kI], .ro false [.list], .ro false [kI]], [⟨false, [.val], [.bool], false⟩]⟩
def h_ex : How := ⟨getH [(0, ⟨[kI], [(8, (.bool (.b false))), (9, (sI 0))], [], [], 0⟩)],
  getH [],
  getH []⟩
theorem has_ex : Has Tryz.prog 153 c_ex φ_ex := fp (R := rowsS) (tr := false) (E := [(78, 0, c_el)]) (Φ := Φ_ex) (t := t_ex) ⟨has_el, trivial⟩ Tryz.f153 h_ex (by kernel_rfl)
def c_ck : Con := ⟨[.own true [.val, (.arr 82 v3), .val, (.arr 49 v4)] kD false, .ro false [kI]], [⟨true, [.val, (.arr 82 v3), .val, (.arr 49 v4)], kD, false⟩]⟩
def h_ck : How := ⟨getH [],
  getH [(9, ⟨[.bool], [(47, (.bool (.v 0)))], [], [], 0⟩), (7, ⟨[.bool], [(36, (.bool (.v 0)))], [], [], 0⟩), (5, ⟨[.bool], [(8, (.bool (.v 0)))], [], [], 0⟩)],
  getH []⟩
theorem has_ck : Has Tryz.prog 123 c_ck φ_ck := fp (R := rowsS) (tr := false) (E := [(84, 0, c_cy), (152, 1, c_ev), (153, 2, c_ex), (63, 3, c_cz)]) (Φ := Φ_ck) (t := t_ck) ⟨has_cy, has_ev, has_ex, has_cz, trivial⟩ Tryz.f123 h_ck (by kernel_rfl)
def c_dp : Con := ⟨[.own true [.val, (.arr 82 v3), .val, (.arr 49 v4)] kD false, .ro true kJ], [⟨true, [.val, (.arr 82 v3), .val, (.arr 49 v4)], kD, false⟩]⟩
theorem has_dp : Has Tryz.prog 75 c_dp φ_dp := fp (R := rowsS) (tr := false) (E := [(52, 0, c_ew), (84, 1, c_cy), (78, 2, c_el), (123, 3, c_ck)]) (Φ := Φ_dp) (t := t_dp) ⟨has_ew, has_cy, has_el, has_ck, trivial⟩ Tryz.f75 hE (by kernel_rfl)
def c_fk : Con := ⟨[.ro true [kI, .list]], [⟨false, [.val], [kI], false⟩]⟩
def h_fk : How := ⟨getH [(0, ⟨[kI, kI], [(3, (sI 0)), (4, (sI 1))], [], [], 0⟩)],
  getH [],
  getH []⟩
theorem has_fk : Has Tryz.prog 158 c_fk φ_fk := fp (R := rowsS) (tr := false) (E := []) (Φ := ph []) (t := t_fk) trivial Tryz.f158 h_fk (by kernel_rfl)
def c_fp : Con := ⟨[.ro true [kI, .list], .ro true [kI, kI, .list]], [⟨false, [.val], [.bool], false⟩]⟩
theorem has_fp : Has Tryz.prog 138 c_fp φ_fp := fp (R := rowsS) (tr := false) (E := [(158, 0, c_fk)]) (Φ := Φ_fp) (t := t_fp) ⟨has_fk, trivial⟩ Tryz.f138 hE (by kernel_rfl)
def c_spec_l2Do : Con := ⟨[.own true [.val, (.arr 166 [.val, .val])] [kI, .list] false, .ro true [kI, kI, .list]], [⟨true, [.val, (.arr 166 [.val, .val])], [kI, .list], false⟩]⟩
theorem has_spec_l2Do : Has Tryz.prog 139 c_spec_l2Do φ_spec_l2Do := fp (R := rowsS) (tr := false) (E := []) (Φ := ph []) (t := t_spec_l2Do) trivial Tryz.f139 hE (by kernel_rfl)
def c_fx : Con := ⟨[.ro false [kI], .ro false [.list]], [⟨true, [.val, .val], [kI, .list], false⟩, ⟨false, [.val], [.bool], false⟩]⟩
def h_fx : How := ⟨getH [(0, ⟨[kI, kI, .list], [(5, (.bool (.b false))), (8, (sI 0))], [(2, .cells [(sI 1), (.sl 1000)]), (1000, .arr 166 [.val, .val] (.v 2))], [1], 1⟩)],
  getH [],
  getH []⟩
theorem has_fx : Has Tryz.prog 103 c_fx φ_fx := fp (R := rowsS) (tr := false) (E := [(137, 0, c_cu), (62, 1, c_fr), (138, 2, c_fp), (139, 3, c_spec_l2Do)]) (Φ := Φ_fx) (t := t_fx) ⟨has_cu, has_fr, has_fp, has_spec_l2Do, trivial⟩ Tryz.f103 h_fx (by kernel_rfl)
def c_cq : Con := ⟨[.ro true kH, .ro false [.bool]], [⟨true, [.val, .val], [kI, .list], false⟩]⟩
theorem has_cq : Has Tryz.prog 166 c_cq φ_cq := fp (R := rowsS) (tr := false) (E := [(103, 0, c_fx)]) (Φ := Φ_cq) (t := t_cq) ⟨has_fx, trivial⟩ Tryz.f166 hE (by kernel_rfl)
def c_fb : Con := ⟨[.ro true kJ], [⟨true, v3, [kI, kI, .list], false⟩]⟩
theorem has_fb : Has Tryz.prog 167 c_fb φ_fb := fp (R := rowsS) (tr := false) (E := []) (Φ := ph []) (t := t_fb) trivial Tryz.f167 hE (by kernel_rfl)
def c_cc : Con := ⟨[.ro true kH, .ro true kJ, .ro false [kI]], [⟨true, v4, kJ, false⟩, ⟨false, [.val], [.bool], false⟩]⟩
def h_cc : How := ⟨getH [],
  getH [(6, ⟨[.bool], [(28, (.bool (.v 0)))], [], [], 0⟩), (4, ⟨[.bool], [(15, (.bool (.v 0)))], [], [], 0⟩)],
  getH []⟩
theorem has_cc : Has Tryz.prog 168 c_cc φ_cc := fp (R := rowsS) (tr := false) (E := []) (Φ := ph []) (t := t_cc) trivial Tryz.f168 h_cc (by kernel_rfl)
def c_dv : Con := ⟨[.own true [.val, .val, .val, (.arr 82 v3), .val] kH false, .ro true kJ], [⟨true, [.val, .val, .val, (.arr 82 v3), .val], kH, false⟩, ⟨true, v4, kJ, false⟩, ⟨false, [.val], [.bool], false⟩]⟩
theorem has_dv : Has Tryz.prog 157 c_dv φ_dv := fp (R := rowsS) (tr := false) (E := [(52, 0, c_ew), (166, 1, c_cq), (167, 2, c_fb), (138, 3, c_fp), (112, 4, c_ft), (168, 5, c_cc)]) (Φ := Φ_dv) (t := t_dv) ⟨has_ew, has_cq, has_fb, has_fp, has_ft, has_cc, trivial⟩ Tryz.f157 hE (by kernel_rfl)
def c_dx : Con := ⟨[.own true [.val, (.arr 82 v3), .val, (.arr 49 v4), (.arr 42 [.val, .val, .val, (.arr 82 v3), .val]), (.arr 49 v4)] kW false, .ro true kJ], [⟨true, [.val, (.arr 82 v3), .val, (.arr 49 v4), (.arr 42 [.val, .val, .val, (.arr 82 v3), .val]), (.arr 49 v4)], kW, false⟩, ⟨true, v4, kJ, false⟩, ⟨false, [.val], [.bool], false⟩]⟩
theorem has_dx : Has Tryz.prog 133 c_dx φ_dx := fp (R := rowsS) (tr := false) (E := [(75, 0, c_dp), (157, 1, c_dv)]) (Φ := Φ_dx) (t := t_dx) ⟨has_dp, has_dv, trivial⟩ Tryz.f133 hE (by kernel_rfl)
def c_fa : Con := ⟨[.own true [.val, (.arr 82 v3), .val, (.arr 49 v4), (.arr 42 [.val, .val, .val, (.arr 82 v3), .val]), (.arr 49 v4)] kW false, .ro true [kI, kI, kI, .list]], [⟨true, [.val, (.arr 82 v3), .val, (.arr 49 v4), (.arr 42 [.val, .val, .val, (.arr 82 v3), .val]), (.arr 49 v4)], kW, false⟩]⟩
theorem has_fa : Has Tryz.prog 100 c_fa φ_fa := fp (R := rowsS) (tr := false) (E := [(104, 0, c_fw), (132, 1, c_dm), (131, 2, c_fe), (133, 3, c_dx)]) (Φ := Φ_fa) (t := t_fa) ⟨has_fw, has_dm, has_fe, has_dx, trivial⟩ Tryz.f100 hE (by kernel_rfl)
def c_da : Con := ⟨[.own true [.val, (.arr 82 v3), .val, (.arr 49 v4), (.arr 42 [.val, .val, .val, (.arr 82 v3), .val]), (.arr 49 v4)] kW false, .ro false [kI]], [⟨true, [.val, (.arr 82 v3), .val, (.arr 49 v4), (.arr 42 [.val, .val, .val, (.arr 82 v3), .val]), (.arr 49 v4)], kW, false⟩]⟩
def h_da : How := ⟨getH [],
  getH [(3, ⟨[kI], [], [(4, .cells [(.bool (.v 1000)), (.sl 0), (sI 0), (.sl 1), (.sl 2), (.sl 3)])], [], 0⟩)],
  getH []⟩
theorem has_da : Has Tryz.prog 134 c_da φ_da := fp (R := rowsS) (tr := false) (E := [(104, 0, c_fw)]) (Φ := Φ_da) (t := t_da) ⟨has_fw, trivial⟩ Tryz.f134 h_da (by kernel_rfl)
def c_es : Con := ⟨[.own true [(.arr 82 v3), .val] [.list, kI] false, .ro false [kI]], [⟨true, [(.arr 82 v3), .val], [.list, kI], false⟩]⟩
theorem has_es : Has Tryz.prog 136 c_es φ_es := fp (R := rowsS) (tr := true) (E := []) (Φ := ph []) (t := t_es) trivial Tryz.f136 hE (by kernel_rfl)
def c_eg : Con := ⟨[.own true [.val, (.arr 82 v3), .val, (.arr 49 v4)] kD false, .ro false [kI]], [⟨true, [.val, (.arr 82 v3), .val, (.arr 49 v4)], kD, false⟩]⟩
theorem has_eg : Has Tryz.prog 135 c_eg φ_eg := fp (R := rowsS) (tr := false) (E := [(136, 0, c_es)]) (Φ := Φ_eg) (t := t_eg) ⟨has_es, trivial⟩ Tryz.f135 hE (by kernel_rfl)
def c_ef : Con := ⟨[.own true [.val, (.arr 82 v3), .val, (.arr 49 v4), (.arr 42 [.val, .val, .val, (.arr 82 v3), .val]), (.arr 49 v4)] kW false, .ro true [kI, kI, kI, .list]], [⟨true, [.val, (.arr 82 v3), .val, (.arr 49 v4), (.arr 42 [.val, .val, .val, (.arr 82 v3), .val]), (.arr 49 v4)], kW, false⟩]⟩
theorem has_ef : Has Tryz.prog 101 c_ef φ_ef := fp (R := rowsS) (tr := false) (E := [(104, 0, c_fw), (134, 1, c_da), (135, 2, c_eg), (136, 3, c_es)]) (Φ := Φ_ef) (t := t_ef) ⟨has_fw, has_da, has_eg, has_es, trivial⟩ Tryz.f101 hE (by kernel_rfl)
def c_fv : Con := ⟨[.own true [.val, (.arr 82 v3), .val, (.arr 49 v4), (.arr 42 [.val, .val, .val, (.arr 82 v3), .val]), (.arr 49 v4)] kW false, .ro true [kI, kI, kI, .list]], [⟨true, [.val, (.arr 82 v3), .val, (.arr 49 v4), (.arr 42 [.val, .val, .val, (.arr 82 v3), .val]), (.arr 49 v4)], kW, false⟩]⟩
def h_fv : How := ⟨getH [],
  getH [(5, ⟨[.bool], [(7, (.bool (.v 0)))], [], [], 0⟩)],
  getH []⟩
theorem has_fv : Has Tryz.prog 49 c_fv φ_fv := fp (R := rowsS) (tr := false) (E := [(99, 0, c_ed), (100, 1, c_fa), (101, 2, c_ef)]) (Φ := Φ_fv) (t := t_fv) ⟨has_ed, has_fa, has_ef, trivial⟩ Tryz.f49 h_fv (by kernel_rfl)
def c_dc : Con := ⟨[.ptr [.val, .val] [.list, kI], .ro true kW], [⟨true, v4, [kI, kI, kI, .list], false⟩]⟩
def h_dc : How := ⟨getH [],
  getH [(25, ⟨[.bool], [(77, (.bool (.v 0)))], [], [], 0⟩), (17, ⟨[.bool], [(52, (.bool (.v 0)))], [], [], 0⟩), (9, ⟨[.bool], [(32, (.bool (.v 0)))], [], [], 0⟩), (6, ⟨[.list, kI], [], [(0, .cells [(.view true (.v 0)), (sI 1)])], [], 0⟩)],
  getH []⟩
theorem has_dc : Has Tryz.prog 44 c_dc φ_dc := fp (R := rowsS) (tr := false) (E := [(84, 0, c_cy), (85, 1, c_de), (45, 2, c_bx)]) (Φ := Φ_dc) (t := t_dc) ⟨has_cy, has_de, has_bx, trivial⟩ Tryz.f44 h_dc (by kernel_rfl)
def c_ee : Con := ⟨[.ptr [.val, .val] [.list, kI]], [⟨false, [(.arr 3 [.val])], [.list], false⟩, ⟨false, [(.arr 34 v4)], [.list], false⟩, ⟨true, [.val, (.arr 82 v3), .val, (.arr 49 v4), (.arr 42 [.val, .val, .val, (.arr 82 v3), .val]), (.arr 49 v4)], kW, false⟩]⟩
def h_ee : How := ⟨getH [(2, ⟨[kI, .list, kI, .bool, kI, .list, .list, .list, .list, .list], [(8, (.sl 1000)), (11, (sI 0))], [(0, .cells [(.view true (.v 1)), (sI 2)]), (7, .cells [(.bool (.v 3)), (.sl 1001), (sI 4), (.sl 1002), (.sl 1003), (.sl 1004)]), (1000, .arr 34 v4 (.v 5)), (1001, .arr 82 v3 (.v 6)), (1002, .arr 49 v4 (.v 7)), (1003, .arr 42 [.val, .val, .val, (.arr 82 v3), .val] (.v 8)), (1004, .arr 49 v4 (.v 9))], [9, 10, 11, 12, 13], 5⟩), (0, ⟨[kI, .bool, kI, .list, .list, .list, .list, .list], [(8, (.sl 1000)), (29, (sI 0))], [(7, .cells [(.bool (.v 1)), (.sl 1001), (sI 2), (.sl 1002), (.sl 1003), (.sl 1004)]), (1000, .arr 34 v4 (.v 3)), (1001, .arr 82 v3 (.v 4)), (1002, .arr 49 v4 (.v 5)), (1003, .arr 42 [.val, .val, .val, (.arr 82 v3), .val] (.v 6)), (1004, .arr 49 v4 (.v 7))], [8, 3, 4, 5, 6], 5⟩)],
  getH [(11, ⟨[.bool, kI, .list, kI, .list, .list, .list, .list, .list], [(8, (.sl 1000))], [(7, .cells [(.bool (.v 0)), (.sl 1001), (sI 1), (.sl 1002), (.sl 1003), (.sl 1004)]), (0, .cells [(.view true (.v 2)), (sI 3)]), (1000, .arr 34 v4 (.v 4)), (1001, .arr 82 v3 (.v 5)), (1002, .arr 49 v4 (.v 6)), (1003, .arr 42 [.val, .val, .val, (.arr 82 v3), .val] (.v 7)), (1004, .arr 49 v4 (.v 8))], [8, 3, 4, 5, 6], 5⟩)],
  getH []⟩
theorem has_ee : Has Tryz.prog 83 c_ee φ_ee := fp (R := rowsS) (tr := false) (E := [(126, 0, c_df), (127, 1, c_dg), (45, 2, c_bx), (49, 3, c_fv), (44, 4, c_dc)]) (Φ := Φ_ee) (t := t_ee) ⟨has_df, has_dg, has_bx, has_fv, has_dc, trivial⟩ Tryz.f83 h_ee (by kernel_rfl)
def c_di : Con := ⟨[.ptr [.val, .val] [.list, kI]], [⟨true, v4, kJ, false⟩]⟩
def h_di : How := ⟨getH [],
  getH [(4, ⟨[kI, .list, kI], [], [(2, .cells [(sI 1005), (sI 1009), (sI 1013), (sI 0)]), (0, .cells [(.view true (.v 1)), (sI 2)])], [], 0⟩)],
  getH []⟩
theorem has_di : Has Tryz.prog 72 c_di φ_di := fp (R := rowsS) (tr := false) (E := [(45, 0, c_bx)]) (Φ := Φ_di) (t := t_di) ⟨has_bx, trivial⟩ Tryz.f72 h_di (by kernel_rfl)
def c_db : Con := ⟨[.ptr [.val, .val] [.list, kI]], [⟨true, [.val, .val, .val, .val, .val, .val], kW, false⟩]⟩
def h_db : How := ⟨getH [(1, ⟨[.list], [], [(8, .cells [(.bool (.v 1004)), (.sl 4), (sI 1006), (.sl 5), (.sl 6), (.sl 1000)]), (1000, .arr 49 v4 (.v 0))], [7], 1⟩)],
  getH [],
  getH []⟩
theorem has_db : Has Tryz.prog 43 c_db φ_db := fp (R := rowsS) (tr := true) (E := [(83, 0, c_ee), (45, 1, c_bx), (72, 2, c_di)]) (Φ := Φ_db) (t := t_db) ⟨has_ee, has_bx, has_di, trivial⟩ Tryz.f43 h_db (by kernel_rfl)
def c_dy : Con := ⟨[.ptr [.val, .val] [.list, kI]], [⟨false, [.val], [.list], false⟩]⟩
def h_dy : How := ⟨getH [],
  getH [(4, ⟨[.list, .list, kI], [], [(1, .arr 3 [.val] (.v 0)), (0, .cells [(.view true (.v 1)), (sI 2)])], [], 0⟩)],
  getH []⟩
theorem has_dy : Has Tryz.prog 46 c_dy φ_dy := fp (R := rowsS) (tr := false) (E := [(45, 0, c_bx)]) (Φ := Φ_dy) (t := t_dy) ⟨has_bx, trivial⟩ Tryz.f46 h_dy (by kernel_rfl)
def c_bc : Con := ⟨[.own false [.val] [.list] false], [⟨true, [.val, .val, .val, .val, .val, .val], kW, false⟩, ⟨true, v4, [kI, kI, kI, .list], false⟩]⟩
theorem has_bc : Has Tryz.prog 15 c_bc φ_bc := fp (R := rowsS) (tr := false) (E := [(42, 0, c_fi), (43, 1, c_db), (44, 2, c_dc), (45, 3, c_bx), (46, 4, c_dy)]) (Φ := Φ_bc) (t := t_bc) ⟨has_fi, has_db, has_dc, has_bx, has_dy, trivial⟩ Tryz.f15 hE (by kernel_rfl)
def c_fy : Con := ⟨[.ro false [kI], .ro false [kI], .ro false [kI]], [⟨false, [.val], [.bool], false⟩]⟩
theorem has_fy : Has Tryz.prog 79 c_fy φ_fy := fp (R := []) (tr := false) (E := []) (Φ := ph []) (t := t_fy) trivial Tryz.f79 hE (by kernel_rfl)
def c_bn : Con := ⟨[.ro false [kI]], [⟨false, [.val], [.bool], false⟩]⟩
theorem has_bn : Has Tryz.prog 143 c_bn φ_bn := fp (R := []) (tr := false) (E := [(79, 0, c_fy)]) (Φ := Φ_bn) (t := t_bn) ⟨has_fy, trivial⟩ Tryz.f143 hE (by kernel_rfl)
def c_ao : Con := ⟨[.ro false [.list], .fn 143 []], [⟨false, [.val], [kI], false⟩]⟩
def h_ao : How := ⟨getH [(0, ⟨[kI], [(4, (.int .i64 (.n 0))), (8, (sI 0))], [], [], 0⟩)],
  getH [],
  getH []⟩
theorem has_ao : Has Tryz.prog 161 c_ao φ_ao := fp (R := []) (tr := false) (E := [(143, 0, c_bn)]) (Φ := Φ_ao) (t := t_ao) ⟨has_bn, trivial⟩ Tryz.f161 h_ao (by kernel_rfl)
def c_al : Con := ⟨[.ro false [.list], .fn 143 []], [⟨false, [.val], [.bool], false⟩]⟩
theorem has_al : Has Tryz.prog 145 c_al φ_al := fp (R := []) (tr := false) (E := [(161, 0, c_ao)]) (Φ := Φ_al) (t := t_al) ⟨has_ao, trivial⟩ Tryz.f145 hE (by kernel_rfl)
def c_bt : Con := ⟨[.ro false [kI]], [⟨false, [.val], [.bool], false⟩]⟩
theorem has_bt : Has Tryz.prog 144 c_bt φ_bt := fp (R := []) (tr := false) (E := []) (Φ := ph []) (t := t_bt) trivial Tryz.f144 hE (by kernel_rfl)
def c_an : Con := ⟨[.ro false [.list], .fn 144 []], [⟨false, [.val], [kI], false⟩]⟩
def h_an : How := ⟨getH [(0, ⟨[kI], [(4, (.int .i64 (.n 0))), (8, (sI 0))], [], [], 0⟩)],
  getH [],
  getH []⟩
theorem has_an : Has Tryz.prog 161 c_an φ_an := fp (R := []) (tr := false) (E := [(144, 0, c_bt)]) (Φ := Φ_an) (t := t_an) ⟨has_bt, trivial⟩ Tryz.f161 h_an (by kernel_rfl)
def c_ak : Con := ⟨[.ro false [.list], .fn 144 []], [⟨false, [.val], [.bool], false⟩]⟩
theorem has_ak : Has Tryz.prog 145 c_ak φ_ak := fp (R := []) (tr := false) (E := [(161, 0, c_an)]) (Φ := Φ_ak) (t := t_ak) ⟨has_an, trivial⟩ Tryz.f145 hE (by kernel_rfl)
def c_cv : Con := ⟨[.ro false [.list]], [⟨false, [.val], [.bool], false⟩]⟩
theorem has_cv : Has Tryz.prog 115 c_cv φ_cv := fp (R := []) (tr := false) (E := [(145, 0, c_al), (145, 1, c_ak)]) (Φ := Φ_cv) (t := t_cv) ⟨has_al, has_ak, trivial⟩ Tryz.f115 hE (by kernel_rfl)
def c_et : Con := ⟨[.ro false [kI]], [⟨false, [.val], [.bool], false⟩]⟩
theorem has_et : Has Tryz.prog 81 c_et φ_et := fp (R := []) (tr := false) (E := [(79, 0, c_fy)]) (Φ := Φ_et) (t := t_et) ⟨has_fy, trivial⟩ Tryz.f81 hE (by kernel_rfl)
def c_fs : Con := ⟨[.ro true [kI, kI, .list]], [⟨false, [.val], [.bool], false⟩]⟩
theorem has_fs : Has Tryz.prog 66 c_fs φ_fs := fp (R := []) (tr := false) (E := [(79, 0, c_fy), (115, 1, c_cv), (81, 2, c_et)]) (Φ := Φ_fs) (t := t_fs) ⟨has_fy, has_cv, has_et, trivial⟩ Tryz.f66 hE (by kernel_rfl)
def c_du : Con := ⟨[.ro true [kI, kI, .list]], [⟨false, [.val], [.bool], false⟩]⟩
theorem has_du : Has Tryz.prog 118 c_du φ_du := fp (R := []) (tr := false) (E := [(66, 0, c_fs)]) (Φ := Φ_du) (t := t_du) ⟨has_fs, trivial⟩ Tryz.f118 hE (by kernel_rfl)
def c_am : Con := ⟨[.ro false [.list], .fn 118 []], [⟨false, [.val], [kI], false⟩]⟩
def h_am : How := ⟨getH [(0, ⟨[kI], [(4, (.int .i64 (.n 0))), (8, (sI 0))], [], [], 0⟩)],
  getH [],
  getH []⟩
theorem has_am : Has Tryz.prog 149 c_am φ_am := fp (R := []) (tr := false) (E := [(118, 0, c_du)]) (Φ := Φ_am) (t := t_am) ⟨has_du, trivial⟩ Tryz.f149 h_am (by kernel_rfl)
def c_ah : Con := ⟨[.ro false [.list], .fn 118 []], [⟨false, [.val], [.bool], false⟩]⟩
theorem has_ah : Has Tryz.prog 119 c_ah φ_ah := fp (R := []) (tr := false) (E := [(149, 0, c_am)]) (Φ := Φ_ah) (t := t_ah) ⟨has_am, trivial⟩ Tryz.f119 hE (by kernel_rfl)
def c_fu : Con := ⟨[.ro true [.list, kI]], [⟨false, [.val], [.bool], false⟩]⟩
theorem has_fu : Has Tryz.prog 68 c_fu φ_fu := fp (R := []) (tr := false) (E := [(79, 0, c_fy), (119, 1, c_ah)]) (Φ := Φ_fu) (t := t_fu) ⟨has_fy, has_ah, trivial⟩ Tryz.f68 hE (by kernel_rfl)
def c_bw : Con := ⟨[.ro true [.list, kI]], [⟨false, [.val], [.bool], false⟩]⟩
theorem has_bw : Has Tryz.prog 162 c_bw φ_bw := fp (R := []) (tr := false) (E := [(115, 0, c_cv), (79, 1, c_fy)]) (Φ := Φ_bw) (t := t_bw) ⟨has_cv, has_fy, trivial⟩ Tryz.f162 hE (by kernel_rfl)
def c_ag : Con := ⟨[.ro false [.list], .fn 162 []], [⟨false, [.val], [kI], false⟩]⟩
def h_ag : How := ⟨getH [(0, ⟨[kI], [(4, (.int .i64 (.n 0))), (8, (sI 0))], [], [], 0⟩)],
  getH [],
  getH []⟩
theorem has_ag : Has Tryz.prog 171 c_ag φ_ag := fp (R := []) (tr := false) (E := [(162, 0, c_bw)]) (Φ := Φ_ag) (t := t_ag) ⟨has_bw, trivial⟩ Tryz.f171 h_ag (by kernel_rfl)
def c_ad : Con := ⟨[.ro false [.list], .fn 162 []], [⟨false, [.val], [.bool], false⟩]⟩
theorem has_ad : Has Tryz.prog 163 c_ad φ_ad := fp (R := []) (tr := false) (E := [(171, 0, c_ag)]) (Φ := Φ_ad) (t := t_ad) ⟨has_ag, trivial⟩ Tryz.f163 hE (by kernel_rfl)
def c_eb : Con := ⟨[.ro false [.list]], [⟨false, [.val], [.bool], false⟩]⟩
theorem has_eb : Has Tryz.prog 146 c_eb φ_eb := fp (R := []) (tr := false) (E := [(163, 0, c_ad)]) (Φ := Φ_eb) (t := t_eb) ⟨has_ad, trivial⟩ Tryz.f146 hE (by kernel_rfl)
def c_ep : Con := ⟨[.ro false [.list], .ro false [kI]], [⟨false, [.val], [kI], false⟩]⟩
theorem has_ep : Has Tryz.prog 147 c_ep φ_ep := fp (R := []) (tr := false) (E := [(79, 0, c_fy)]) (Φ := Φ_ep) (t := t_ep) ⟨has_fy, trivial⟩ Tryz.f147 hE (by kernel_rfl)
def c_co : Con := ⟨[.ro false [.list], .ro true [kI, kI, .list]], [⟨false, [.val], [.bool], false⟩]⟩
theorem has_co : Has Tryz.prog 116 c_co φ_co := fp (R := []) (tr := false) (E := [(146, 0, c_eb), (66, 1, c_fs), (147, 2, c_ep)]) (Φ := Φ_co) (t := t_co) ⟨has_eb, has_fs, has_ep, trivial⟩ Tryz.f116 hE (by kernel_rfl)
def c_bf : Con := ⟨[.ro false [.list]], [⟨false, [.val], [.list], false⟩]⟩
theorem has_bf : Has Tryz.prog 150 c_bf φ_bf := fp (R := []) (tr := false) (E := []) (Φ := ph []) (t := t_bf) trivial Tryz.f150 hE (by kernel_rfl)
def c_ei : Con := ⟨[.ro false [.list], .ro true [kI, kI, .list]], [⟨false, [.val], [.list], false⟩, ⟨false, [.val], [.bool], false⟩]⟩
def h_ei : How := ⟨getH [(0, ⟨[kI, .list], [(6, (.sl 1000)), (16, (sI 0))], [(1000, .arr 54 [.val, .val] (.v 1))], [], 1⟩)],
  getH [],
  getH []⟩
theorem has_ei : Has Tryz.prog 120 c_ei φ_ei := fp (R := []) (tr := false) (E := [(116, 0, c_co), (150, 1, c_bf)]) (Φ := Φ_ei) (t := t_ei) ⟨has_co, has_bf, trivial⟩ Tryz.f120 h_ei (by kernel_rfl)
def c_ek : Con := ⟨[.ro false [.list]], [⟨false, [.val], [.list], false⟩, ⟨false, [.val], [.bool], false⟩]⟩
def h_ek : How := ⟨getH [(0, ⟨[.list, .bool, kI], [(4, (.view true (.v 0))), (5, (.bool (.v 1))), (6, (sI 2))], [], [], 0⟩)],
  getH [],
  getH []⟩
theorem has_ek : Has Tryz.prog 69 c_ek φ_ek := fp (R := []) (tr := false) (E := [(120, 0, c_ei)]) (Φ := Φ_ek) (t := t_ek) ⟨has_ei, trivial⟩ Tryz.f69 h_ek (by kernel_rfl)
def c_dr : Con := ⟨[.ro false [kI]], [⟨false, [.val], [.bool], false⟩]⟩
theorem has_dr : Has Tryz.prog 80 c_dr φ_dr := fp (R := []) (tr := false) (E := [(79, 0, c_fy)]) (Φ := Φ_dr) (t := t_dr) ⟨has_fy, trivial⟩ Tryz.f80 hE (by kernel_rfl)
def c_fc : Con := ⟨[.ro true kJ], [⟨false, [.val], [.bool], false⟩]⟩
theorem has_fc : Has Tryz.prog 38 c_fc φ_fc := fp (R := []) (tr := false) (E := [(79, 0, c_fy), (80, 1, c_dr), (81, 2, c_et)]) (Φ := Φ_fc) (t := t_fc) ⟨has_fy, has_dr, has_et, trivial⟩ Tryz.f38 hE (by kernel_rfl)
def c_bb : Con := ⟨[.ro true kJ], [⟨false, [.val], [.bool], false⟩]⟩
theorem has_bb : Has Tryz.prog 70 c_bb φ_bb := fp (R := []) (tr := false) (E := []) (Φ := ph []) (t := t_bb) trivial Tryz.f70 hE (by kernel_rfl)
def c_as : Con := ⟨[.ro false [.list], .ro true kJ], [⟨false, [.val], [kI], false⟩]⟩
def h_as : How := ⟨getH [(0, ⟨[kI], [(4, (.int .i64 (.n 0))), (8, (sI 0))], [], [], 0⟩)],
  getH [],
  getH []⟩
theorem has_as : Has Tryz.prog 121 c_as φ_as := fp (R := []) (tr := false) (E := []) (Φ := ph []) (t := t_as) trivial Tryz.f121 h_as (by kernel_rfl)
def c_ap : Con := ⟨[.ro false [.list], .ro true kJ], [⟨false, [.val], [.bool], false⟩]⟩
theorem has_ap : Has Tryz.prog 71 c_ap φ_ap := fp (R := []) (tr := false) (E := [(121, 0, c_as)]) (Φ := Φ_ap) (t := t_ap) ⟨has_as, trivial⟩ Tryz.f71 hE (by kernel_rfl)
def c_ez : Con := ⟨[.ro true kD], [⟨false, [.val], [.bool], false⟩]⟩
def h_ez : How := ⟨getH [(0, ⟨[kI], [(2, (.bool (.b false))), (32, (sI 0))], [], [], 0⟩)],
  getH [(3, ⟨[], [(2, (.bool (.b false)))], [], [], 0⟩)],
  getH []⟩
theorem has_ez : Has Tryz.prog 32 c_ez φ_ez := fp (R := []) (tr := false) (E := [(68, 0, c_fu), (69, 1, c_ek), (38, 2, c_fc), (70, 3, c_bb), (71, 4, c_ap)]) (Φ := Φ_ez) (t := t_ez) ⟨has_fu, has_ek, has_fc, has_bb, has_ap, trivial⟩ Tryz.f32 h_ez (by kernel_rfl)
def c_cs : Con := ⟨[.ro false [kI]], [⟨true, [.val, (.arr 166 [.val, .val])], [kI, .list], false⟩, ⟨false, [.val], [.bool], false⟩]⟩
theorem has_cs : Has Tryz.prog 140 c_cs φ_cs := fp (R := []) (tr := false) (E := [(79, 0, c_fy)]) (Φ := Φ_cs) (t := t_cs) ⟨has_fy, trivial⟩ Tryz.f140 hE (by kernel_rfl)
def c_er : Con := ⟨[.ro true [kI, kI]], [⟨false, [.val], [.bool], false⟩]⟩
theorem has_er : Has Tryz.prog 173 c_er φ_er := fp (R := []) (tr := false) (E := [(79, 0, c_fy)]) (Φ := Φ_er) (t := t_er) ⟨has_fy, trivial⟩ Tryz.f173 hE (by kernel_rfl)
def c_cd : Con := ⟨[.ro true [kI, kI]], [⟨false, [.val], [.bool], false⟩]⟩
theorem has_cd : Has Tryz.prog 172 c_cd φ_cd := fp (R := []) (tr := false) (E := [(173, 0, c_er)]) (Φ := Φ_cd) (t := t_cd) ⟨has_er, trivial⟩ Tryz.f172 hE (by kernel_rfl)
def c_ai : Con := ⟨[.ro false [.list], .fn 172 []], [⟨false, [.val], [kI], false⟩]⟩
def h_ai : How := ⟨getH [(0, ⟨[kI], [(4, (.int .i64 (.n 0))), (8, (sI 0))], [], [], 0⟩)],
  getH [],
  getH []⟩
theorem has_ai : Has Tryz.prog 175 c_ai φ_ai := fp (R := []) (tr := false) (E := [(172, 0, c_cd)]) (Φ := Φ_ai) (t := t_ai) ⟨has_cd, trivial⟩ Tryz.f175 h_ai (by kernel_rfl)
def c_ae : Con := ⟨[.ro false [.list], .fn 172 []], [⟨false, [.val], [.bool], false⟩]⟩
theorem has_ae : Has Tryz.prog 174 c_ae φ_ae := fp (R := []) (tr := false) (E := [(175, 0, c_ai)]) (Φ := Φ_ae) (t := t_ae) ⟨has_ai, trivial⟩ Tryz.f174 hE (by kernel_rfl)
def c_bm : Con := ⟨[.ro true [kI, .list]], [⟨false, [.val], [kI], false⟩]⟩
def h_bm : How := ⟨getH [(0, ⟨[kI, kI], [(3, (sI 0)), (11, (sI 1))], [], [], 0⟩)],
  getH [],
  getH []⟩
theorem has_bm : Has Tryz.prog 170 c_bm φ_bm := fp (R := []) (tr := false) (E := []) (Φ := ph []) (t := t_bm) trivial Tryz.f170 h_bm (by kernel_rfl)
def c_en : Con := ⟨[.ro true [kI, .list]], [⟨false, [.val], [.bool], false⟩]⟩
theorem has_en : Has Tryz.prog 169 c_en φ_en := fp (R := []) (tr := false) (E := [(79, 0, c_fy), (174, 1, c_ae), (170, 2, c_bm)]) (Φ := Φ_en) (t := t_en) ⟨has_fy, has_ae, has_bm, trivial⟩ Tryz.f169 hE (by kernel_rfl)
def c_cx : Con := ⟨[.ro true [kI, .list], .ro true [kI, kI, .list]], [⟨false, [.val], [.bool], false⟩]⟩
theorem has_cx : Has Tryz.prog 159 c_cx φ_cx := fp (R := []) (tr := false) (E := [(169, 0, c_en), (66, 1, c_fs), (170, 2, c_bm)]) (Φ := Φ_cx) (t := t_cx) ⟨has_en, has_fs, has_bm, trivial⟩ Tryz.f159 hE (by kernel_rfl)
def c_ar : Con := ⟨[.ro false [.list]], [⟨false, [(.arr 166 [.val, .val])], [.list], false⟩]⟩
theorem has_ar : Has Tryz.prog 160 c_ar φ_ar := fp (R := []) (tr := false) (E := []) (Φ := ph []) (t := t_ar) trivial Tryz.f160 hE (by kernel_rfl)
def c_do : Con := ⟨[.ro true [kI, .list], .ro true [kI, kI, .list]], [⟨true, [.val, .val], [kI, .list], false⟩, ⟨false, [.val], [.bool], false⟩]⟩
def h_do : How := ⟨getH [],
  getH [(4, ⟨[.list], [(6, (.ptr 1000 0))], [(1000, .cells [(sI 1000), (.sl 1001)]), (1001, .arr 166 [.val, .val] (.v 0))], [], 2⟩)],
  getH []⟩
theorem has_do : Has Tryz.prog 141 c_do φ_do := fp (R := []) (tr := false) (E := [(159, 0, c_cx), (160, 1, c_ar)]) (Φ := Φ_do) (t := t_do) ⟨has_cx, has_ar, trivial⟩ Tryz.f141 h_do (by kernel_rfl)
def c_ej : Con := ⟨[.ro false [kI], .ro false [.list]], [⟨true, [.val, .val], [kI, .list], false⟩, ⟨false, [.val], [.bool], false⟩]⟩
def h_ej : How := ⟨getH [(0, ⟨[.bool, kI, kI, .list], [(7, (.bool (.v 0))), (8, (sI 1))], [(2, .cells [(sI 2), (.view true (.v 3))])], [], 0⟩)],
  getH [],
  getH []⟩
theorem has_ej : Has Tryz.prog 105 c_ej φ_ej := fp (R := []) (tr := false) (E := [(140, 0, c_cs), (141, 1, c_do)]) (Φ := Φ_ej) (t := t_ej) ⟨has_cs, has_do, trivial⟩ Tryz.f105 h_ej (by kernel_rfl)
def c_eq : Con := ⟨[.ro true kH], [⟨false, [.val], [.bool], false⟩]⟩
theorem has_eq : Has Tryz.prog 54 c_eq φ_eq := fp (R := []) (tr := false) (E := [(80, 0, c_dr), (68, 1, c_fu), (105, 2, c_ej)]) (Φ := Φ_eq) (t := t_eq) ⟨has_dr, has_fu, has_ej, trivial⟩ Tryz.f54 hE (by kernel_rfl)
def c_ch : Con := ⟨[.ro true kJ], [⟨false, [.val], [.bool], false⟩]⟩
theorem has_ch : Has Tryz.prog 56 c_ch φ_ch := fp (R := []) (tr := false) (E := [(38, 0, c_fc)]) (Φ := Φ_ch) (t := t_ch) ⟨has_fc, trivial⟩ Tryz.f56 hE (by kernel_rfl)
def c_aj : Con := ⟨[.ro false [.list], .fn 56 []], [⟨false, [.val], [kI], false⟩]⟩
def h_aj : How := ⟨getH [(0, ⟨[kI], [(4, (.int .i64 (.n 0))), (8, (sI 0))], [], [], 0⟩)],
  getH [],
  getH []⟩
theorem has_aj : Has Tryz.prog 106 c_aj φ_aj := fp (R := []) (tr := false) (E := [(56, 0, c_ch)]) (Φ := Φ_aj) (t := t_aj) ⟨has_ch, trivial⟩ Tryz.f106 h_aj (by kernel_rfl)
def c_ac : Con := ⟨[.ro false [.list], .fn 56 []], [⟨false, [.val], [.bool], false⟩]⟩
theorem has_ac : Has Tryz.prog 55 c_ac φ_ac := fp (R := []) (tr := false) (E := [(106, 0, c_aj)]) (Φ := Φ_ac) (t := t_ac) ⟨has_aj, trivial⟩ Tryz.f55 hE (by kernel_rfl)
def c_em : Con := ⟨[.ro true kW], [⟨false, [.val], [.bool], false⟩]⟩
def h_em : How := ⟨getH [(0, ⟨[kI], [(2, (.bool (.b false))), (24, (sI 0))], [], [], 0⟩)],
  getH [],
  getH []⟩
theorem has_em : Has Tryz.prog 21 c_em φ_em := fp (R := []) (tr := false) (E := [(32, 0, c_ez), (54, 1, c_eq), (55, 2, c_ac)]) (Φ := Φ_em) (t := t_em) ⟨has_ez, has_eq, has_ac, trivial⟩ Tryz.f21 h_em (by kernel_rfl)
def c_bk : Con := ⟨[.ro true [kI, kI, .list]], [⟨true, v3, [kI, kI, .list], false⟩]⟩
theorem has_bk : Has Tryz.prog 148 c_bk φ_bk := fp (R := []) (tr := false) (E := [(150, 0, c_bf)]) (Φ := Φ_bk) (t := t_bk) ⟨has_bf, trivial⟩ Tryz.f148 hE (by kernel_rfl)
def c_bu : Con := ⟨[.ro true [.list, kI], .ro false [kI], .ro false [kI]], [⟨true, [(.arr 82 v3), .val], [.list, kI], false⟩]⟩
def h_bu : How := ⟨getH [(0, ⟨[kI, .list], [(17, (sI 0))], [(2, .cells [(.sl 1000), (sI 1003)]), (1000, .arr 82 v3 (.v 1))], [], 1⟩)],
  getH [],
  getH []⟩
theorem has_bu : Has Tryz.prog 125 c_bu φ_bu := fp (R := []) (tr := false) (E := [(148, 0, c_bk)]) (Φ := Φ_bu) (t := t_bu) ⟨has_bk, trivial⟩ Tryz.f125 h_bu (by kernel_rfl)
def c_bj : Con := ⟨[.ro true [.list, kI]], [⟨true, [(.arr 82 v3), .val], [.list, kI], false⟩]⟩
theorem has_bj : Has Tryz.prog 114 c_bj φ_bj := fp (R := []) (tr := false) (E := [(125, 0, c_bu)]) (Φ := Φ_bj) (t := t_bj) ⟨has_bu, trivial⟩ Tryz.f114 hE (by kernel_rfl)
def c_at : Con := ⟨[.ro false [.list]], [⟨false, [(.arr 49 v4)], [.list], false⟩]⟩
theorem has_at : Has Tryz.prog 86 c_at φ_at := fp (R := []) (tr := false) (E := []) (Φ := ph []) (t := t_at) trivial Tryz.f86 hE (by kernel_rfl)
def c_az : Con := ⟨[.ro true kD], [⟨true, [.val, .val, .val, (.arr 49 v4)], kD, false⟩]⟩
theorem has_az : Has Tryz.prog 65 c_az φ_az := fp (R := []) (tr := false) (E := [(114, 0, c_bj), (86, 1, c_at)]) (Φ := Φ_az) (t := t_az) ⟨has_bj, has_at, trivial⟩ Tryz.f65 hE (by kernel_rfl)
def c_av : Con := ⟨[.ro true kH], [⟨true, v5, kH, false⟩]⟩
theorem has_av : Has Tryz.prog 87 c_av φ_av := fp (R := []) (tr := false) (E := [(114, 0, c_bj)]) (Φ := Φ_av) (t := t_av) ⟨has_bj, trivial⟩ Tryz.f87 hE (by kernel_rfl)
def c_ax : Con := ⟨[.ro true kW], [⟨true, [.val, .val, .val, (.arr 49 v4), (.arr 42 v5), (.arr 49 v4)], kW, false⟩]⟩
def h_ax : How := ⟨getH [(0, ⟨[kI, .list], [(16, (sI 0))], [(2, .cells [(.bool (.v 1006)), (.view true (.v 1007)), (sI 1008), (.sl 3), (.sl 1000), (.sl 4)]), (1000, .arr 42 v5 (.v 1))], [], 1⟩)],
  getH [(2, ⟨[.bool, .list, kI, .list, .list], [(3, (.ptr 1000 0))], [(1000, .cells [(.bool (.v 0)), (.view true (.v 1)), (sI 2), (.sl 1001), .nil, (.sl 1002)]), (1001, .arr 49 v4 (.v 3)), (1002, .arr 49 v4 (.v 4))], [], 3⟩)],
  getH []⟩
theorem has_ax : Has Tryz.prog 47 c_ax φ_ax := fp (R := []) (tr := false) (E := [(65, 0, c_az), (86, 1, c_at), (87, 2, c_av)]) (Φ := Φ_ax) (t := t_ax) ⟨has_az, has_at, has_av, trivial⟩ Tryz.f47 h_ax (by kernel_rfl)
def c_bv : Con := ⟨[.own true [.val, .val] [.list, kI] false, .ro false [.bool]], [⟨false, [.val], [.list], false⟩]⟩
theorem has_bv : Has Tryz.prog 108 c_bv φ_bv := fp (R := []) (tr := false) (E := []) (Φ := ph []) (t := t_bv) trivial Tryz.f108 hE (by kernel_rfl)
def c_bl : Con := ⟨[.ro true kD, .ro false [.bool]], [⟨false, [.val], [.list], false⟩]⟩
theorem has_bl : Has Tryz.prog 59 c_bl φ_bl := fp (R := []) (tr := false) (E := [(108, 0, c_bv), (69, 1, c_ek)]) (Φ := Φ_bl) (t := t_bl) ⟨has_bv, has_ek, trivial⟩ Tryz.f59 hE (by kernel_rfl)
def c_eu : Con := ⟨[.ro true [.list, kI], .ro true [kI, kI, .list]], [⟨true, [.val, .val], [.list, kI], false⟩, ⟨false, [.val], [.bool], false⟩]⟩
theorem has_eu : Has Tryz.prog 117 c_eu φ_eu := fp (R := []) (tr := false) (E := [(68, 0, c_fu), (66, 1, c_fs), (114, 2, c_bj), (148, 3, c_bk)]) (Φ := Φ_eu) (t := t_eu) ⟨has_fu, has_fs, has_bj, has_bk, trivial⟩ Tryz.f117 hE (by kernel_rfl)
def c_bg : Con := ⟨[.ptr [.val, .val, .val, (.arr 49 v4)] kD, .ro true [kI, kI, .list]], [⟨false, [.val], [.bool], false⟩]⟩
theorem has_bg : Has Tryz.prog 67 c_bg φ_bg := fp (R := []) (tr := false) (E := [(59, 0, c_bl), (116, 1, c_co), (117, 2, c_eu)]) (Φ := Φ_bg) (t := t_bg) ⟨has_bl, has_co, has_eu, trivial⟩ Tryz.f67 hE (by kernel_rfl)
def c_cl : Con := ⟨[.ro true kD, .ro false [.list]], [⟨true, [.val, .val, .val, (.arr 49 v4)], kD, false⟩, ⟨false, [.val], [.bool], false⟩]⟩
theorem has_cl : Has Tryz.prog 30 c_cl φ_cl := fp (R := []) (tr := false) (E := [(32, 0, c_ez), (65, 1, c_az), (59, 2, c_bl), (66, 3, c_fs), (67, 4, c_bg)]) (Φ := Φ_cl) (t := t_cl) ⟨has_ez, has_az, has_bl, has_fs, has_bg, trivial⟩ Tryz.f30 hE (by kernel_rfl)
def c_cr : Con := ⟨[.ro true kD, .ro false [kI]], [⟨true, [.val, .val, .val, (.arr 49 v4)], kD, false⟩, ⟨false, [.val], [.bool], false⟩]⟩
theorem has_cr : Has Tryz.prog 88 c_cr φ_cr := fp (R := []) (tr := false) (E := [(32, 0, c_ez), (81, 1, c_et), (65, 2, c_az), (67, 3, c_bg)]) (Φ := Φ_cr) (t := t_cr) ⟨has_ez, has_et, has_az, has_bg, trivial⟩ Tryz.f88 hE (by kernel_rfl)
def c_cn : Con := ⟨[.ro true kD, .ro false [kI], .ro false [kI], .ro false [kI]], [⟨false, [.val], [.bool], false⟩]⟩
theorem has_cn : Has Tryz.prog 107 c_cn φ_cn := fp (R := []) (tr := false) (E := [(71, 0, c_ap)]) (Φ := Φ_cn) (t := t_cn) ⟨has_ap, trivial⟩ Tryz.f107 hE (by kernel_rfl)
def c_bo : Con := ⟨[.ro true kD], [⟨false, [.val], [.list], false⟩]⟩
def h_bo : How := ⟨getH [(0, ⟨[kI, .list], [(4, (.sl 1000)), (23, (sI 0))], [(1000, .arr 49 v4 (.v 1))], [], 1⟩), (2, ⟨[kI, .list], [(4, (.sl 1000)), (38, (sI 0))], [(1000, .arr 49 v4 (.v 1))], [2], 1⟩)],
  getH [],
  getH []⟩
theorem has_bo : Has Tryz.prog 58 c_bo φ_bo := fp (R := []) (tr := false) (E := [(59, 0, c_bl), (107, 1, c_cn)]) (Φ := Φ_bo) (t := t_bo) ⟨has_bl, has_cn, trivial⟩ Tryz.f58 h_bo (by kernel_rfl)
def c_bh : Con := ⟨[.ptr [.val, .val, .val, (.arr 49 v4), (.arr 42 v5), (.arr 49 v4)] kW, .ro true kJ], []⟩
theorem has_bh : Has Tryz.prog 89 c_bh φ_bh := fp (R := []) (tr := false) (E := []) (Φ := ph []) (t := t_bh) trivial Tryz.f89 hE (by kernel_rfl)
theorem has_aq : Has Tryz.prog 128 (delCon 49) φ_aq := delete_has (ρ := ⟨fun _ => 128, fun t => match t with | 22 => 26 | 23 => 49 | 3 => 3 | 4 => 4 | _ => 0, fun x => x⟩) ⟨mixed_ok, ⟨Tryz.f128.name, by kernel_rfl, by kernel_rfl⟩, by kernel_rfl, by kernel_rfl, by kernel_rfl, by kernel_rfl⟩
def c_aq : Con := delCon 49
def c_bi : Con := ⟨[.ro true kD, .ro false [kI], .ro false [kI], .ro false [.list]], [⟨false, [.val], [.bool], false⟩, ⟨false, [.val], [.bool], false⟩]⟩
def h_bi : How := ⟨getH [(0, ⟨[.bool, .bool, kI], [(8, (.bool (.v 0))), (9, (.bool (.v 1))), (15, (sI 2))], [], [], 0⟩)],
  getH [],
  getH []⟩
theorem has_bi : Has Tryz.prog 151 c_bi φ_bi := fp (R := []) (tr := false) (E := [(107, 0, c_cn)]) (Φ := Φ_bi) (t := t_bi) ⟨has_cn, trivial⟩ Tryz.f151 h_bi (by kernel_rfl)
def c_bd : Con := ⟨[.ptr [.val, .val, .val, (.arr 49 v4)] kD, .ro false [kI]], []⟩
def h_bd : How := ⟨getH [],
  getH [(9, ⟨[.bool], [(82, (.bool (.v 0)))], [], [], 0⟩), (7, ⟨[.bool], [(71, (.bool (.v 0)))], [], [], 0⟩)],
  getH []⟩
theorem has_bd : Has Tryz.prog 122 c_bd φ_bd := fp (R := []) (tr := false) (E := [(59, 0, c_bl), (151, 1, c_bi), (147, 2, c_ep), (67, 3, c_bg)]) (Φ := Φ_bd) (t := t_bd) ⟨has_bl, has_bi, has_ep, has_bg, trivial⟩ Tryz.f122 h_bd (by kernel_rfl)
def c_bz : Con := ⟨[.ptr [.val, .val, .val, (.arr 49 v4)] kD, .ro true kJ], []⟩
theorem has_bz : Has Tryz.prog 74 c_bz φ_bz := fp (R := []) (tr := false) (E := [(38, 0, c_fc), (70, 1, c_bb), (59, 2, c_bl), (71, 3, c_ap), (122, 4, c_bd)]) (Φ := Φ_bz) (t := t_bz) ⟨has_fc, has_bb, has_bl, has_ap, has_bd, trivial⟩ Tryz.f74 hE (by kernel_rfl)
def c_be : Con := ⟨[.ro true kH, .ro false [.bool]], [⟨true, [.val, .val], [kI, .list], false⟩]⟩
theorem has_be : Has Tryz.prog 164 c_be φ_be := fp (R := []) (tr := false) (E := [(108, 0, c_bv), (105, 1, c_ej)]) (Φ := Φ_be) (t := t_be) ⟨has_bv, has_ej, trivial⟩ Tryz.f164 hE (by kernel_rfl)
def c_au : Con := ⟨[.ro true kH, .ro true kJ], [⟨false, [.val], [kI], false⟩]⟩
def h_au : How := ⟨getH [],
  getH [(5, ⟨[.bool], [(33, (.bool (.v 0)))], [], [], 0⟩), (3, ⟨[.bool], [(25, (.bool (.v 0)))], [], [], 0⟩)],
  getH []⟩
theorem has_au : Has Tryz.prog 165 c_au φ_au := fp (R := []) (tr := false) (E := [(164, 0, c_be)]) (Φ := Φ_au) (t := t_au) ⟨has_be, trivial⟩ Tryz.f165 h_au (by kernel_rfl)
def c_cm : Con := ⟨[.ro true kH, .ro true kJ], [⟨true, v5, kH, false⟩, ⟨true, v4, kJ, false⟩, ⟨false, [.val], [.bool], false⟩]⟩
def h_cm : How := ⟨getH [],
  getH [(9, ⟨[.list], [], [(5, .cells [(sI 1005), (sI 1007), (.sl 1000)]), (1000, .arr 3 [.val] (.v 0))], [], 1⟩)],
  getH []⟩
theorem has_cm : Has Tryz.prog 156 c_cm φ_cm := fp (R := []) (tr := false) (E := [(54, 0, c_eq), (87, 1, c_av), (38, 2, c_fc), (70, 3, c_bb), (164, 4, c_be), (159, 5, c_cx), (117, 6, c_eu), (165, 7, c_au)]) (Φ := Φ_cm) (t := t_cm) ⟨has_eq, has_av, has_fc, has_bb, has_be, has_cx, has_eu, has_au, trivial⟩ Tryz.f156 h_cm (by kernel_rfl)
def c_ba : Con := ⟨[.ptr [.val, .val, .val, (.arr 49 v4), (.arr 42 v5), (.arr 49 v4)] kW, .ro true kJ], [⟨true, v4, kJ, false⟩, ⟨false, [.val], [.bool], false⟩]⟩
theorem has_ba : Has Tryz.prog 129 c_ba φ_ba := fp (R := []) (tr := false) (E := [(70, 0, c_bb), (74, 1, c_bz), (156, 2, c_cm)]) (Φ := Φ_ba) (t := t_ba) ⟨has_bb, has_bz, has_cm, trivial⟩ Tryz.f129 hE (by kernel_rfl)
def c_cj : Con := ⟨[.ptr [.val, .val, .val, (.arr 49 v4), (.arr 42 v5), (.arr 49 v4)] kW, .ro true [kI, kI, kI, .list]], []⟩
def h_cj : How := ⟨getH [],
  getH [(3, ⟨kJ, [(4, (.ptr 1000 0))], [(1000, .cells [(sI 0), (sI 1), (sI 2), (sI 3)])], [], 1⟩)],
  getH []⟩
theorem has_cj : Has Tryz.prog 90 c_cj φ_cj := fp (R := []) (tr := false) (E := [(79, 0, c_fy), (89, 1, c_bh), (128, 2, c_aq), (129, 3, c_ba)]) (Φ := Φ_cj) (t := t_cj) ⟨has_fy, has_bh, has_aq, has_ba, trivial⟩ Tryz.f90 h_cj (by kernel_rfl)
def c_dh : Con := ⟨[.ro true [.list, kI]], [⟨true, [.val, .val], [.list, kI], false⟩]⟩
theorem has_dh : Has Tryz.prog 130 c_dh φ_dh := fp (R := []) (tr := false) (E := [(68, 0, c_fu), (125, 1, c_bu)]) (Φ := Φ_dh) (t := t_dh) ⟨has_fu, has_bu, trivial⟩ Tryz.f130 hE (by kernel_rfl)
def c_cb : Con := ⟨[.ro true kD], [⟨true, [.val, .val, .val, (.arr 49 v4)], kD, false⟩]⟩
theorem has_cb : Has Tryz.prog 92 c_cb φ_cb := fp (R := []) (tr := false) (E := [(32, 0, c_ez), (65, 1, c_az), (130, 2, c_dh)]) (Φ := Φ_cb) (t := t_cb) ⟨has_ez, has_az, has_dh, trivial⟩ Tryz.f92 hE (by kernel_rfl)
def c_bp : Con := ⟨[.ro true kH], [⟨true, v5, kH, false⟩]⟩
theorem has_bp : Has Tryz.prog 93 c_bp φ_bp := fp (R := []) (tr := false) (E := [(54, 0, c_eq), (87, 1, c_av), (130, 2, c_dh)]) (Φ := Φ_bp) (t := t_bp) ⟨has_eq, has_av, has_dh, trivial⟩ Tryz.f93 hE (by kernel_rfl)
def c_ab : Con := ⟨[.ptr [.val, .val, .val, (.arr 49 v4), (.arr 42 v5), (.arr 49 v4)] kW, .ro false [kI], .fn 92 [], .fn 93 []], []⟩
theorem has_ab : Has Tryz.prog 91 c_ab φ_ab := fp (R := []) (tr := false) (E := [(80, 0, c_dr), (92, 1, c_cb), (93, 2, c_bp)]) (Φ := Φ_ab) (t := t_ab) ⟨has_dr, has_cb, has_bp, trivial⟩ Tryz.f91 hE (by kernel_rfl)
def c_dt : Con := ⟨[.ro true [.list, kI], .ro false [kI]], [⟨true, [.val, .val], [.list, kI], false⟩]⟩
theorem has_dt : Has Tryz.prog 82 c_dt φ_dt := fp (R := []) (tr := false) (E := [(68, 0, c_fu), (125, 1, c_bu)]) (Φ := Φ_dt) (t := t_dt) ⟨has_fu, has_bu, trivial⟩ Tryz.f82 hE (by kernel_rfl)
def c_cw : Con := ⟨[.ro true kD, .ro false [kI]], [⟨true, [.val, .val, .val, (.arr 49 v4)], kD, false⟩]⟩
theorem has_cw : Has Tryz.prog 40 c_cw φ_cw := fp (R := []) (tr := false) (E := [(32, 0, c_ez), (82, 1, c_dt)]) (Φ := Φ_cw) (t := t_cw) ⟨has_ez, has_dt, trivial⟩ Tryz.f40 hE (by kernel_rfl)
def c_br : Con := ⟨[.ro true kD, .rptr [kI, kI, kI, .list]], [⟨true, [.val, .val, .val, (.arr 49 v4)], kD, false⟩]⟩
theorem has_br : Has Tryz.prog 94 c_br φ_br := fp (R := []) (tr := false) (E := [(40, 0, c_cw)]) (Φ := Φ_br) (t := t_br) ⟨has_cw, trivial⟩ Tryz.f94 hE (by kernel_rfl)
def c_by : Con := ⟨[.ro true kH, .ro false [kI]], [⟨true, v5, kH, false⟩]⟩
theorem has_by : Has Tryz.prog 96 c_by φ_by := fp (R := []) (tr := false) (E := [(54, 0, c_eq), (82, 1, c_dt)]) (Φ := Φ_by) (t := t_by) ⟨has_eq, has_dt, trivial⟩ Tryz.f96 hE (by kernel_rfl)
def c_bs : Con := ⟨[.ro true kH, .rptr [kI, kI, kI, .list]], [⟨true, v5, kH, false⟩]⟩
theorem has_bs : Has Tryz.prog 95 c_bs φ_bs := fp (R := []) (tr := false) (E := [(96, 0, c_by)]) (Φ := Φ_bs) (t := t_bs) ⟨has_by, trivial⟩ Tryz.f95 hE (by kernel_rfl)
def c_aa : Con := ⟨[.ptr [.val, .val, .val, (.arr 49 v4), (.arr 42 v5), (.arr 49 v4)] kW, .ro false [kI], .fn 94 [[kI, kI, kI, .list]], .fn 95 [[kI, kI, kI, .list]]], []⟩
theorem has_aa : Has Tryz.prog 91 c_aa φ_aa := fp (R := []) (tr := false) (E := [(80, 0, c_dr), (94, 1, c_br), (95, 2, c_bs)]) (Φ := Φ_aa) (t := t_aa) ⟨has_dr, has_br, has_bs, trivial⟩ Tryz.f91 hE (by kernel_rfl)
def c_ct : Con := ⟨[.ro true kD], [⟨true, [.val, .val, .val, (.arr 49 v4)], kD, false⟩]⟩
theorem has_ct : Has Tryz.prog 97 c_ct φ_ct := fp (R := []) (tr := false) (E := [(32, 0, c_ez), (65, 1, c_az)]) (Φ := Φ_ct) (t := t_ct) ⟨has_ez, has_az, trivial⟩ Tryz.f97 hE (by kernel_rfl)
def c_cf : Con := ⟨[.ro true kH], [⟨true, v5, kH, false⟩]⟩
theorem has_cf : Has Tryz.prog 98 c_cf φ_cf := fp (R := []) (tr := false) (E := [(54, 0, c_eq), (87, 1, c_av)]) (Φ := Φ_cf) (t := t_cf) ⟨has_eq, has_av, trivial⟩ Tryz.f98 hE (by kernel_rfl)
def c_af : Con := ⟨[.ptr [.val, .val, .val, (.arr 49 v4), (.arr 42 v5), (.arr 49 v4)] kW, .ro false [kI], .fn 97 [], .fn 98 []], []⟩
theorem has_af : Has Tryz.prog 91 c_af φ_af := fp (R := []) (tr := false) (E := [(80, 0, c_dr), (97, 1, c_ct), (98, 2, c_cf)]) (Φ := Φ_af) (t := t_af) ⟨has_dr, has_ct, has_cf, trivial⟩ Tryz.f91 hE (by kernel_rfl)
def c_cp : Con := ⟨[.ptr [.val, .val, .val, (.arr 49 v4), (.arr 42 v5), (.arr 49 v4)] kW, .ro true [kI, kI, kI, .list]], []⟩
def h_cp : How := ⟨getH [],
  getH [(17, ⟨[.bool], [(65, (.bool (.v 0)))], [], [], 0⟩)],
  getH []⟩
theorem has_cp : Has Tryz.prog 48 c_cp φ_cp := fp (R := []) (tr := false) (E := [(30, 0, c_cl), (88, 1, c_cr), (58, 2, c_bo), (79, 3, c_fy), (89, 4, c_bh), (90, 5, c_cj), (91, 6, c_ab), (91, 7, c_aa), (91, 8, c_af)]) (Φ := Φ_cp) (t := t_cp) ⟨has_cl, has_cr, has_bo, has_fy, has_bh, has_cj, has_ab, has_aa, has_af, trivial⟩ Tryz.f48 h_cp (by kernel_rfl)
def c_dq : Con := ⟨[.ro true kW, .ro true [kI, kI, kI, .list]], [⟨true, [.val, .val, .val, .val, .val, .val], kW, false⟩]⟩
theorem has_dq : Has Tryz.prog 16 c_dq φ_dq := fp (R := []) (tr := false) (E := [(21, 0, c_em), (47, 1, c_ax), (48, 2, c_cp)]) (Φ := Φ_dq) (t := t_dq) ⟨has_em, has_ax, has_cp, trivial⟩ Tryz.f16 hE (by kernel_rfl)
def c_fn : Con := ⟨[.ro true [.list, kI]], [⟨false, [.val], [.bool], false⟩]⟩
def h_fn : How := ⟨getH [(0, ⟨[kI], [(2, (.bool (.b false))), (3, (sI 0))], [], [], 0⟩)],
  getH [],
  getH []⟩
theorem has_fn : Has Tryz.prog 77 c_fn φ_fn := fp (R := rowsS) (tr := false) (E := [(62, 0, c_fr), (104, 1, c_fw)]) (Φ := Φ_fn) (t := t_fn) ⟨has_fr, has_fw, trivial⟩ Tryz.f77 h_fn (by kernel_rfl)
def c_fd : Con := ⟨[.ro true kD], [⟨false, [.val], [.bool], false⟩]⟩
def h_fd : How := ⟨getH [(0, ⟨[kI], [(2, (.bool (.b false))), (5, (sI 0))], [], [], 0⟩)],
  getH [],
  getH []⟩
theorem has_fd : Has Tryz.prog 36 c_fd φ_fd := fp (R := rowsS) (tr := false) (E := [(76, 0, c_fo), (77, 1, c_fn), (52, 2, c_ew), (78, 3, c_el)]) (Φ := Φ_fd) (t := t_fd) ⟨has_fo, has_fn, has_ew, has_el, trivial⟩ Tryz.f36 h_fd (by kernel_rfl)
def c_dw : Con := ⟨[.ro true kH], [⟨false, [.val], [.bool], false⟩]⟩
theorem has_dw : Has Tryz.prog 51 c_dw φ_dw := fp (R := rowsS) (tr := false) (E := [(103, 0, c_fx), (104, 1, c_fw), (77, 2, c_fn)]) (Φ := Φ_dw) (t := t_dw) ⟨has_fx, has_fw, has_fn, trivial⟩ Tryz.f51 hE (by kernel_rfl)
def c_dj : Con := ⟨[.ro true kW], [⟨false, [.val], [.bool], false⟩]⟩
def h_dj : How := ⟨getH [(2, ⟨[kI], [(2, (.bool (.b false))), (4, (sI 0))], [], [], 0⟩), (0, ⟨[kI], [(2, (.bool (.b false))), (3, (sI 0))], [], [], 0⟩)],
  getH [],
  getH []⟩
theorem has_dj : Has Tryz.prog 19 c_dj φ_dj := fp (R := rowsS) (tr := false) (E := [(36, 0, c_fd), (51, 1, c_dw), (52, 2, c_ew)]) (Φ := Φ_dj) (t := t_dj) ⟨has_fd, has_dw, has_ew, trivial⟩ Tryz.f19 h_dj (by kernel_rfl)
def c_cg : Con := ⟨[.ro true [kI, kI, .list]], [⟨true, v3, [kI, kI, .list], false⟩]⟩
theorem has_cg : Has Tryz.prog 142 c_cg φ_cg := fp (R := rowsS) (tr := false) (E := []) (Φ := ph []) (t := t_cg) trivial Tryz.f142 hE (by kernel_rfl)
def c_fl : Con := ⟨[.ro true [.list, kI]], [⟨true, [(.arr 82 v3), .val], [.list, kI], false⟩]⟩
def h_fl : How := ⟨getH [(0, ⟨[kI, .list], [(4, (sI 0))], [(3, .cells [(.sl 1000), (sI 1001)]), (1000, .arr 82 v3 (.v 1))], [2], 1⟩)],
  getH [],
  getH []⟩
theorem has_fl : Has Tryz.prog 113 c_fl φ_fl := fp (R := rowsS) (tr := false) (E := [(142, 0, c_cg)]) (Φ := Φ_fl) (t := t_fl) ⟨has_cg, trivial⟩ Tryz.f113 h_fl (by kernel_rfl)
def c_eh : Con := ⟨[.ro true kD], [⟨true, [.val, (.arr 82 v3), .val, (.arr 49 v4)], kD, false⟩]⟩
theorem has_eh : Has Tryz.prog 64 c_eh φ_eh := fp (R := rowsS) (tr := false) (E := [(113, 0, c_fl)]) (Φ := Φ_eh) (t := t_eh) ⟨has_fl, trivial⟩ Tryz.f64 hE (by kernel_rfl)
def c_ec : Con := ⟨[.ro true kH], [⟨true, [.val, .val, .val, (.arr 82 v3), .val], kH, false⟩]⟩
theorem has_ec : Has Tryz.prog 102 c_ec φ_ec := fp (R := rowsS) (tr := false) (E := [(113, 0, c_fl)]) (Φ := Φ_ec) (t := t_ec) ⟨has_fl, trivial⟩ Tryz.f102 hE (by kernel_rfl)
def c_dz : Con := ⟨[.ro true kW], [⟨true, [.val, (.arr 82 v3), .val, (.arr 49 v4), (.arr 42 [.val, .val, .val, (.arr 82 v3), .val]), (.arr 49 v4)], kW, false⟩]⟩
def h_dz : How := ⟨getH [(0, ⟨[kI, .list], [(4, (sI 0))], [(2, .cells [(.bool (.v 1006)), (.sl 3), (sI 1007), (.sl 4), (.sl 1000), (.sl 5)]), (1000, .arr 42 [.val, .val, .val, (.arr 82 v3), .val] (.v 1))], [], 1⟩)],
  getH [(2, ⟨[.bool, kI, .list, .list, .list], [(3, (.ptr 1000 0))], [(1000, .cells [(.bool (.v 0)), (.sl 1001), (sI 1), (.sl 1002), .nil, (.sl 1003)]), (1001, .arr 82 v3 (.v 2)), (1002, .arr 49 v4 (.v 3)), (1003, .arr 49 v4 (.v 4))], [], 4⟩)],
  getH []⟩
theorem has_dz : Has Tryz.prog 50 c_dz φ_dz := fp (R := rowsS) (tr := false) (E := [(64, 0, c_eh), (102, 1, c_ec)]) (Φ := Φ_dz) (t := t_dz) ⟨has_eh, has_ec, trivial⟩ Tryz.f50 h_dz (by kernel_rfl)
def c_dn : Con := ⟨[.ro true kW, .ro true [kI, kI, kI, .list]], [⟨true, [.val, .val, .val, .val, .val, .val], kW, false⟩]⟩
theorem has_dn : Has Tryz.prog 18 c_dn φ_dn := fp (R := rowsS) (tr := false) (E := [(19, 0, c_dj), (50, 1, c_dz), (49, 2, c_fv)]) (Φ := Φ_dn) (t := t_dn) ⟨has_dj, has_dz, has_fv, trivial⟩ Tryz.f18 hE (by kernel_rfl)
def c_fh : Con := ⟨[.ro false [.list], .ro false [.list]], [⟨false, [.val], [.bool], false⟩]⟩
def h_fh : How := ⟨getH [(0, ⟨[kI], [(4, (.bool (.b false))), (5, (sI 0))], [], [], 0⟩)],
  getH [],
  getH []⟩
theorem has_fh : Has Tryz.prog 26 c_fh φ_fh := fp (R := []) (tr := false) (E := []) (Φ := ph []) (t := t_fh) trivial Tryz.f26 h_fh (by kernel_rfl)
def c_fq : Con := ⟨[.ro true [kI, kI, .list], .ro true [kI, kI, .list]], [⟨false, [.val], [.bool], false⟩]⟩
theorem has_fq : Has Tryz.prog 53 c_fq φ_fq := fp (R := []) (tr := false) (E := [(26, 0, c_fh)]) (Φ := Φ_fq) (t := t_fq) ⟨has_fh, trivial⟩ Tryz.f53 hE (by kernel_rfl)
def c_fg : Con := ⟨[.ro false [.list], .ro false [.list]], [⟨false, [.val], [.bool], false⟩]⟩
def h_fg : How := ⟨getH [(0, ⟨[kI], [(4, (.bool (.b false))), (5, (sI 0))], [], [], 0⟩)],
  getH [],
  getH []⟩
theorem has_fg : Has Tryz.prog 20 c_fg φ_fg := fp (R := []) (tr := false) (E := [(53, 0, c_fq)]) (Φ := Φ_fg) (t := t_fg) ⟨has_fq, trivial⟩ Tryz.f20 h_fg (by kernel_rfl)
def c_fm : Con := ⟨[.ro true [.list, kI], .ro true [.list, kI]], [⟨false, [.val], [.bool], false⟩]⟩
theorem has_fm : Has Tryz.prog 57 c_fm φ_fm := fp (R := []) (tr := false) (E := [(20, 0, c_fg)]) (Φ := Φ_fm) (t := t_fm) ⟨has_fg, trivial⟩ Tryz.f57 hE (by kernel_rfl)
def c_ea : Con := ⟨[.ro false [.list], .ro false [.list]], [⟨false, [.val], [.bool], false⟩]⟩
def h_ea : How := ⟨getH [(0, ⟨[kI], [(4, (.bool (.b false))), (5, (sI 0))], [], [], 0⟩)],
  getH [],
  getH []⟩
theorem has_ea : Has Tryz.prog 37 c_ea φ_ea := fp (R := []) (tr := false) (E := []) (Φ := ph []) (t := t_ea) trivial Tryz.f37 h_ea (by kernel_rfl)
def c_fj : Con := ⟨[.ro true kD, .ro true kD], [⟨false, [.val], [.bool], false⟩]⟩
theorem has_fj : Has Tryz.prog 23 c_fj φ_fj := fp (R := []) (tr := false) (E := [(57, 0, c_fm), (37, 1, c_ea)]) (Φ := Φ_fj) (t := t_fj) ⟨has_fm, has_ea, trivial⟩ Tryz.f23 hE (by kernel_rfl)
def c_ds : Con := ⟨[.ro true kH, .ro true kH], [⟨false, [.val], [.bool], false⟩]⟩
theorem has_ds : Has Tryz.prog 22 c_ds φ_ds := fp (R := []) (tr := false) (E := [(57, 0, c_fm)]) (Φ := Φ_ds) (t := t_ds) ⟨has_fm, trivial⟩ Tryz.f22 hE (by kernel_rfl)
def c_dk : Con := ⟨[.ro true kW, .ro true kW], [⟨false, [.val], [.bool], false⟩]⟩
def h_dk : How := ⟨getH [(0, ⟨[kI], [(4, (.bool (.b false))), (5, (sI 0))], [], [], 0⟩)],
  getH [],
  getH []⟩
theorem has_dk : Has Tryz.prog 17 c_dk φ_dk := fp (R := []) (tr := false) (E := [(23, 0, c_fj), (37, 1, c_ea), (22, 2, c_ds)]) (Φ := Φ_dk) (t := t_dk) ⟨has_fj, has_ea, has_ds, trivial⟩ Tryz.f17 h_dk (by kernel_rfl)
def c_ce : Con := ⟨[.ro true kD], [⟨false, [.val], [.list], false⟩]⟩
theorem has_ce : Has Tryz.prog 24 c_ce φ_ce := fp (R := []) (tr := false) (E := [(32, 0, c_ez), (58, 1, c_bo)]) (Φ := Φ_ce) (t := t_ce) ⟨has_ez, has_bo, trivial⟩ Tryz.f24 hE (by kernel_rfl)
def c_ca : Con := ⟨[.ro true kD, .ro false [.bool]], [⟨false, [.val], [.list], false⟩]⟩
theorem has_ca : Has Tryz.prog 25 c_ca φ_ca := fp (R := []) (tr := false) (E := [(32, 0, c_ez), (59, 1, c_bl)]) (Φ := Φ_ca) (t := t_ca) ⟨has_ez, has_bl, trivial⟩ Tryz.f25 hE (by kernel_rfl)
def c_dl : Con := ⟨[.ro false [.list], .ro false [.list]], [⟨false, [.val], [.bool], false⟩]⟩
def h_dl : How := ⟨getH [(0, ⟨[kI], [(4, (.bool (.b false))), (5, (sI 0))], [], [], 0⟩)],
  getH [],
  getH []⟩
theorem has_dl : Has Tryz.prog 27 c_dl φ_dl := fp (R := []) (tr := false) (E := [(26, 0, c_fh)]) (Φ := Φ_dl) (t := t_dl) ⟨has_fh, trivial⟩ Tryz.f27 h_dl (by kernel_rfl)
end Dx
