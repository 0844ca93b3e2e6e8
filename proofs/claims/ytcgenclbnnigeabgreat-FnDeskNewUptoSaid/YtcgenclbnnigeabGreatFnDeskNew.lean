/- PROVED: Rows.FnDeskNewUptoSaid: whatever the input of bulk at most 1048576, laws.FnDeskNew returns true, and its arguments read as they did. No condition beyond the statement's own. -/
import Derived.Test.YtcgenclbnnigeabGreatZa
import Derived.Test.YtcgenclbnnigeabGreatHa
import Derived.Test.YtcgenclbnnigeabGreatJa
import Derived.Test.YtcgenclbnnigeabGreatRows
set_option linter.all false
set_option linter.unusedVariables false
set_option linter.unusedSimpArgs false
set_option linter.unnecessarySimpa false
namespace Dx
open Go Go.Proofs
def t_bm : Tree :=
.letp .len [⟨.list, (.v 0)⟩] <|
.letp .gtI [⟨(.int .i64), (.v 1)⟩, ⟨(.int .i64), (.n 1048576)⟩] <|
.ite (.v 2) (
 .ret [⟨.bool, (.b true)⟩]) <|
.call 0 [⟨.list, (.v 0)⟩] [.bool, .list, (.int .i64), .list, .list] <|
.call 1 [⟨.bool, (.v 3)⟩, ⟨.list, (.v 4)⟩, ⟨(.int .i64), (.v 5)⟩, ⟨.list, (.v 6)⟩, ⟨.list, (.v 7)⟩] [.bool, .list, (.int .i64), .list, .bool] <|
.call 2 [⟨.bool, (.v 3)⟩, ⟨.list, (.v 4)⟩, ⟨(.int .i64), (.v 5)⟩, ⟨.list, (.v 6)⟩, ⟨.list, (.v 7)⟩] [.bool, .list, (.int .i64), .list, .bool] <|
.letp .neB [⟨.bool, (.v 17)⟩, ⟨.bool, (.v 12)⟩] <|
.ite (.v 18) (
 .ret [⟨.bool, (.b false)⟩]) <|
.call 3 [⟨.bool, (.v 13)⟩, ⟨.list, (.v 14)⟩, ⟨(.int .i64), (.v 15)⟩, ⟨.list, (.v 16)⟩, ⟨.bool, (.v 8)⟩, ⟨.list, (.v 9)⟩, ⟨(.int .i64), (.v 10)⟩, ⟨.list, (.v 11)⟩] [.bool] <|
.letp .not [⟨.bool, (.v 19)⟩] <|
.ite (.v 20) (
 .ret [⟨.bool, (.b false)⟩]) <|
.call 4 [] [.bool, .list, (.int .i64), .list] <|
.letp (.mkl 1) [⟨(.int .i64), (.n 1)⟩, ⟨(.int .i64), (.n 0)⟩, ⟨(.int .i64), (.n 2)⟩] <|
.call 2 [⟨.bool, (.v 21)⟩, ⟨.list, (.v 22)⟩, ⟨(.int .i64), (.v 23)⟩, ⟨.list, (.v 24)⟩, ⟨.list, (.v 25)⟩] [.bool, .list, (.int .i64), .list, .bool] <|
.call 5 [⟨.bool, (.v 26)⟩, ⟨.list, (.v 27)⟩, ⟨(.int .i64), (.v 28)⟩, ⟨.list, (.v 29)⟩, ⟨.bool, (.b false)⟩] [.list] <|
.call 6 [⟨.bool, (.v 21)⟩, ⟨.list, (.v 22)⟩, ⟨(.int .i64), (.v 23)⟩, ⟨.list, (.v 24)⟩] [.bool] <|
.ite (.v 32) (
 .ite (.v 21) (
 .call 5 [⟨.bool, (.v 21)⟩, ⟨.list, (.v 22)⟩, ⟨(.int .i64), (.v 23)⟩, ⟨.list, (.v 24)⟩, ⟨.bool, (.b false)⟩] [.list] <|
 .letp .len [⟨.list, (.v 33)⟩] <|
 .letp .eqI [⟨(.int .i64), (.v 34)⟩, ⟨(.int .i64), (.n 0)⟩] <|
 .ite (.v 35) (
 .call 7 [⟨.bool, (.v 21)⟩, ⟨.list, (.v 22)⟩, ⟨(.int .i64), (.v 23)⟩, ⟨.list, (.v 24)⟩] [.list] <|
 .letp .len [⟨.list, (.v 36)⟩] <|
 .letp .eqI [⟨(.int .i64), (.v 37)⟩, ⟨(.int .i64), (.n 0)⟩] <|
 .ite (.v 38) (
 .ite (.v 30) (
 .letp .len [⟨.list, (.v 31)⟩] <|
 .letp .eqI [⟨(.int .i64), (.v 39)⟩, ⟨(.int .i64), (.n 1)⟩] <|
 .ite (.v 40) (
 .call 7 [⟨.bool, (.v 26)⟩, ⟨.list, (.v 27)⟩, ⟨(.int .i64), (.v 28)⟩, ⟨.list, (.v 29)⟩] [.list] <|
 .letp .len [⟨.list, (.v 41)⟩] <|
 .letp .eqI [⟨(.int .i64), (.v 42)⟩, ⟨(.int .i64), (.n 0)⟩] <|
 .ret [⟨.bool, (.v 43)⟩]) <|
 .ret [⟨.bool, (.b false)⟩]) <|
 .ret [⟨.bool, (.b false)⟩]) <|
 .ret [⟨.bool, (.b false)⟩]) <|
 .ret [⟨.bool, (.b false)⟩]) <|
 .ret [⟨.bool, (.b false)⟩]) <|
.ret [⟨.bool, (.b false)⟩]
noncomputable def Φ_bm : Phi := fun n => match n with
  | 0 => φ_al
  | 1 => φ_bk
  | 2 => φ_bj
  | 3 => φ_do
  | 4 => φ_cl
  | 5 => φ_bd
  | 6 => φ_dv
  | 7 => φ_bn
  | _ => fun _ => none
noncomputable def φ_bm (cs : List C) : Option (List C) := retOf (den Φ_bm t_bm cs)
end Dx
/- A law: a desk begins without a trip. -/
namespace Dx
open Go
section
variable {code : List Int}
set_option maxHeartbeats 4000000 in
theorem law_DeskNew (hl : code.length ≤ 1099511627776) (hc : Bytes code) : φ_bm [.list (code.map eB)] = some [.bool true] := by
  unfold φ_bm t_bm
  have e0 : Φ_bm 0 = φ_al := rfl
  have e1 : Φ_bm 1 = φ_bk := rfl
  have e2 : Φ_bm 2 = φ_bj := rfl
  have e3 : Φ_bm 3 = φ_do := rfl
  have e4 : Φ_bm 4 = φ_cl := rfl
  have e5 : Φ_bm 5 = φ_bd := rfl
  have e6 : Φ_bm 6 = φ_dv := rfl
  have e7 : Φ_bm 7 = φ_bn := rfl
  obtain ⟨d, m, y, b, hd, hs, hm, hyS, p2, p1, hb⟩ := drawBegin hl hc
  have hn := dselfS hyS
  simp only [Desk.e, List.cons_append, List.nil_append] at p1 p2 hd
  refine sl rfl ?_
  by_cases hbig : (((code.map eB).length : Nat) : Int) > 1048576
  · exact sl (congrArg C.bool (decide_eq_true hbig)) (st rfl (sret rfl))
  refine sl (congrArg C.bool (decide_eq_false hbig)) (sf rfl (sc e0 hd rfl rfl (sc e1 p2 rfl rfl ?_)))
  simp only [List.cons_append, List.nil_append]
  refine sc e2 p1 rfl rfl (sl (v := .bool false) (congrArg C.bool (show (b != b) = false by cases b <;> rfl)) (sf rfl (sc e3 hn rfl rfl (sl (v := .bool false) rfl (sf rfl ?_)))))
  simp only [List.cons_append, List.nil_append]
  -- the desk that is new
  have hnS : DkS ⟨true, ⟨[], 0⟩, []⟩ := ⟨⟨by simp, by simp⟩, by simp⟩
  have kn : deskOk ⟨true, ⟨[], 0⟩, []⟩ = true := by decide
  have b1 := i_DeskBegin hnS (ms := [1, 0, 2]) (by simp)
  have kr : recOk (dbeginR ⟨true, ⟨[], 0⟩, []⟩ [1, 0, 2]) = true := by decide
  rw [kn, kr] at b1
  have ky : dwrite ⟨true, ⟨[], 0⟩, []⟩ (dbeginR ⟨true, ⟨[], 0⟩, []⟩ [1, 0, 2]) = ⟨true, ⟨[⟨4, 1, [1, 0, 2]⟩], 0⟩, []⟩ := rfl
  have kb : dwriteB ⟨true, ⟨[], 0⟩, []⟩ (dbeginR ⟨true, ⟨[], 0⟩, []⟩ [1, 0, 2]) = true := rfl
  rw [ky, kb] at b1
  have b1 : φ_bj [.bool true, .list [], .int .i64 0, .list [], .list [[.int .i64 1], [.int .i64 0], [.int .i64 2]]] = some [.bool true, .list [[.int .i64 4, .int .i64 1, .list [[.int .i64 1], [.int .i64 0], [.int .i64 2]]]], .int .i64 0, .list [], .bool true] := b1
  have hmS : DkS ⟨true, ⟨[⟨4, 1, [1, 0, 2]⟩], 0⟩, []⟩ := ⟨⟨by simp, by simp⟩, by simp⟩
  have km : deskOk ⟨true, ⟨[⟨4, 1, [1, 0, 2]⟩], 0⟩, []⟩ = true := by decide
  have t1 := i_DeskTrips hnS (b := false)
  have t2 := i_DeskTrips hmS (b := false)
  have w1 := i_DeskWords hnS
  have w2 := i_DeskWords hmS
  have o1 := i_DeskOk hnS
  have pn := i_DeskNew
  rw [kn] at t1 w1 o1
  rw [km] at t2 w2
  have t1 : φ_bd [.bool true, .list [], .int .i64 0, .list [], .bool false] = some [.list []] := t1
  have t2 : φ_bd [.bool true, .list [[.int .i64 4, .int .i64 1, .list [[.int .i64 1], [.int .i64 0], [.int .i64 2]]]], .int .i64 0, .list [], .bool false] = some [.list [[.list [[.int .i64 1], [.int .i64 0], [.int .i64 2]], .int .i64 1]]] := t2
  have w1 : φ_bn [.bool true, .list [], .int .i64 0, .list []] = some [.list []] := w1
  have w2 : φ_bn [.bool true, .list [[.int .i64 4, .int .i64 1, .list [[.int .i64 1], [.int .i64 0], [.int .i64 2]]]], .int .i64 0, .list []] = some [.list []] := w2
  have o1 : φ_dv [.bool true, .list [], .int .i64 0, .list []] = some [.bool true] := o1
  have pn : φ_cl [] = some [.bool true, .list [], .int .i64 0, .list []] := pn
  refine sc e4 pn rfl rfl (sl (v := .list [[.int .i64 1], [.int .i64 0], [.int .i64 2]]) (congrArg C.list (chunk3 _ _ _)) ?_)
  simp only [List.cons_append, List.nil_append]
  refine sc e2 b1 rfl rfl (sc e5 t2 rfl rfl (sc e6 o1 rfl rfl (st rfl (st rfl ?_))))
  simp only [List.cons_append, List.nil_append]
  refine sc e5 t1 rfl rfl (sl (v := .int .i64 0) rfl (sl (v := .bool true) rfl (st rfl (sc e7 w1 rfl rfl (sl (v := .int .i64 0) rfl (sl (v := .bool true) rfl (st rfl (st rfl ?_))))))))
  simp only [List.cons_append, List.nil_append]
  exact sl (v := .int .i64 1) rfl (sl (v := .bool true) rfl (st rfl (sc e7 w2 rfl rfl (sl (v := .int .i64 0) rfl (sl (v := .bool true) rfl (sret rfl))))))
end
end Dx


namespace Dx
open Go Go.Proofs
def c_bm : Con := ⟨[.own false [.val] [.list] false], [⟨false, [.val], [.bool], false⟩]⟩
theorem has_bm : Has Tryz.prog 7 c_bm φ_bm := fp (R := []) (tr := false) (E := [(28, 0, c_al), (29, 1, c_bk), (30, 2, c_bj), (23, 3, c_do), (31, 4, c_cl), (25, 5, c_bd), (32, 6, c_dv), (24, 7, c_bn)]) (Φ := Φ_bm) (t := t_bm) ⟨has_al, has_bk, has_bj, has_do, has_cl, has_bd, has_dv, has_bn, trivial⟩ Tryz.f7 hE (by kernel_rfl)
end Dx
namespace Go.Proofs.YtcgenclbnnigeabGreat.fnDeskNew
open Go.ChangeShapes Go.WideShapes Go.ChangeAt Go.RowKit Dx
set_option linter.unusedVariables false
set_option maxRecDepth 100000

theorem own : ownKnob Tryz.prog.godebug = none := by kernel_rfl
theorem params : Tryz.f7.params = #[22] := by kernel_rfl
theorem results : Tryz.f7.resultTypes = #[4] := by kernel_rfl
theorem t22 : Tryz.prog.underlying 22 = some (.slice 5) := by kernel_rfl
theorem t5 : Tryz.prog.underlying 5 = some (.int .u8) := by kernel_rfl
theorem t4 : Tryz.prog.underlying 4 = some .bool := by kernel_rfl
theorem c5 : Tryz.prog.cellsOf 5 = 1 := by kernel_rfl
theorem func : Tryz.prog.funcs[7]? = some Tryz.f7 := by kernel_rfl

theorem small {H : Type} {d : DataW H} (hk : Rows.uptoSmall H [d] = true) : Rows.uptoBulkAll [d] ≤ 1048576 := of_decide_eq_true hk
theorem bytes_bulk {H : Type} : ∀ l : List Int, l.length ≤ Rows.uptoBulkAll (Go.ChangeShapes.lits (H := H) .u8 l)
  | [] => Nat.zero_le _
  | x :: l => by
    have e : Go.ChangeShapes.lits (H := H) .u8 (x :: l) = .lit (.int .u8 x) :: Go.ChangeShapes.lits .u8 l := rfl
    have := bytes_bulk (H := H) l
    rw [e]
    simp only [Rows.uptoBulkAll, Rows.uptoBulk, List.length_cons]
    omega

theorem contract (H : Type) (enc : TypeId × Value → H) (W : World) (base : Nat) (args : Array Value) (ds gs : List (DataW H)) (before : List MemPlace)
    (hval : ∀ (j : Nat) t v, Tryz.f7.params[j]? = some t → args[j]? = some v → Value.okWide Tryz.prog W .any base t v)
    (hW : DataW.Whole enc Tryz.prog Tryz.f7.params.toList Rows.fnDeskNewSpec.vars false W args.toList ds gs before) (hk : Rows.uptoSmall H (ds ++ gs) = true) :
    Calls Tryz.prog 7 args W fun e W' => ∃ v, e = .returned v ∧ Rows.fnDeskNewSpec.post enc Tryz.prog Tryz.f7 false true false false W args v W' := by
  have hW' := hW
  obtain ⟨p, q, hA0, hV, rfl, hfz, hnd⟩ := hW
  have hA : DataW.TrodAll enc Tryz.prog W 0 (fun _ => true) true Tryz.f7.params.toList args.toList ds p := hA0
  rw [params] at hA hval
  obtain ⟨v0, vs0, d0, ds0, p0, q0, hargs, rfl, rfl, h0, r0⟩ := trodAll_cons hA
  obtain ⟨rfl, rfl, rfl⟩ := trodAll_nil r0
  obtain rfl : args = #[v0] := by cases args; simp_all
  obtain ⟨rfl, rfl⟩ := trodVars_none hV
  obtain ⟨code, hb, hrep, hd, hshut⟩ := open_code t22 t5 c5 (hval 0 22 v0 rfl rfl) h0
  have hlen : code.length ≤ 1048576 := by
    have hk := small hk
    rcases hd with ⟨_, rfl⟩ | ⟨spare, rfl⟩
    · exact Nat.zero_le _
    · have := bytes_bulk (H := H) code
      simp only [Rows.uptoBulkAll, Rows.uptoBulk] at hk
      omega
  refine (law_calls (vs := [v0]) has_bm (by simp [lawPar]) ⟨[.list (code.map cB)], [], v0, [], [], [], rfl, rfl, rfl, law_par (hrep (by omega)), rfl, rfl, rfl⟩ (law_DeskNew (by omega) hb)).mono ?_
  rintro e W' ⟨rfl, h1, h2, h3⟩
  refine ⟨_, rfl, [d0], [], p0, [], p0, [], by simpa using hW', trodAll_cons_mk (shut_bool t4 _) trodAll_mk0, ?_, rfl, kept_of h1 h2 h3 _, fun h => by cases h⟩
  rw [params]
  have := trodAll_cons_mk (hshut W' h3) (trodAll_mk0 (enc := enc) (P := Tryz.prog) (w := W') (base := 0) (spare := fun b => decide (b < W.heap.size)) (held := true))
  rw [List.append_nil] at this
  exact this

set_option maxRecDepth 100000 in
theorem lifted (os : Os) (started : os.Started) (H : Type) (enc : TypeId × Value → H) (F : Stop.Interp) :
    ReturnsInHanded {} Tryz.checked os 7 .any ((Rows.OpenSpec.upto Rows.fnDeskNewSpec).pre6 enc Tryz.prog Tryz.f7 Rows.fnDeskNewUptoRow.domain false) (((Rows.OpenSpec.upto Rows.fnDeskNewSpec).at F).post enc Tryz.prog Tryz.f7 false true false false) := by
  refine returnsInHanded_of_cond (C := Tryz.checked) (s := Rows.OpenSpec.upto Rows.fnDeskNewSpec) (k := Rows.uptoSmall) rfl own started (by kernel_rfl) func
    (OpenSpec.witness (enc := enc) (C := Tryz.checked) (s := Rows.OpenSpec.upto Rows.fnDeskNewSpec) (k := Rows.uptoSmall) rfl false ⟨#[], #[.slice none 0 0], []⟩ 8 (by kernel_rfl) (by kernel_rfl) (by kernel_rfl)
      (x := ([.nil], [], [])) (by kernel_rfl) rfl (by kernel_rfl)) ?_
  intro W base args ds gs before hval hW _ hk _
  exact contract H enc W base args ds gs before hval hW hk

theorem proved : Rows.FnDeskNewUptoSaid :=
  OpenClaim.holds_of_cond 7 Tryz.f7 rfl rfl rfl rfl rfl rfl rfl ⟨rfl, rfl, rfl, rfl, rfl⟩ rfl rfl rfl rfl rfl (by kernel_rfl) func (by kernel_rfl)
    (of_decide_eq_true (by kernel_rfl)) (by unfold Func.isWrapper; first | (rw [if_pos (by decide +kernel)]; kernel_rfl) | (rw [if_neg (by decide +kernel)]; exact ⟨rfl, rfl⟩))
    (fun os started H enc _ F => lifted os started H enc F)
#print axioms proved
end Go.Proofs.YtcgenclbnnigeabGreat.fnDeskNew
