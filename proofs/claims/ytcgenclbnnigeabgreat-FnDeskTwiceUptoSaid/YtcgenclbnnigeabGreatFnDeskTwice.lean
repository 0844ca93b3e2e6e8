/- PROVED: Rows.FnDeskTwiceUptoSaid: whatever the input of bulk at most 1048576, laws.FnDeskTwice returns true, and its arguments read as they did. No condition beyond the statement's own. -/
import Derived.Test.YtcgenclbnnigeabGreatZa
import Derived.Test.YtcgenclbnnigeabGreatHa
import Derived.Test.YtcgenclbnnigeabGreatJa
import Derived.Test.YtcgenclbnnigeabGreatRows
set_option linter.all false
set_option linter.unusedVariables false
set_option linter.unusedSimpArgs false
set_option linter.unnecessarySimpa false
namespace Dx
open Go Go.Proofs
def t_ao : Tree :=
.letp .len [⟨.list, (.v 0)⟩] <|
.letp .gtI [⟨(.int .i64), (.v 1)⟩, ⟨(.int .i64), (.n 1048576)⟩] <|
.ite (.v 2) (
 .ret [⟨.bool, (.b true)⟩]) <|
.call 0 [⟨.list, (.v 0)⟩] [.bool, .list, (.int .i64), .list, (.int .i64), (.int .i64), (.int .i64), (.int .i64)] <|
.call 1 [⟨.bool, (.v 3)⟩, ⟨.list, (.v 4)⟩, ⟨(.int .i64), (.v 5)⟩, ⟨.list, (.v 6)⟩, ⟨(.int .i64), (.v 7)⟩, ⟨(.int .i64), (.v 8)⟩, ⟨(.int .i64), (.v 9)⟩, ⟨(.int .i64), (.v 10)⟩] [.bool, .list, (.int .i64), .list] <|
.call 2 [⟨.bool, (.v 3)⟩, ⟨.list, (.v 4)⟩, ⟨(.int .i64), (.v 5)⟩, ⟨.list, (.v 6)⟩, ⟨(.int .i64), (.v 7)⟩, ⟨(.int .i64), (.v 8)⟩, ⟨(.int .i64), (.v 9)⟩, ⟨(.int .i64), (.v 10)⟩] [.bool, .list, (.int .i64), .list] <|
.call 3 [⟨.bool, (.v 11)⟩, ⟨.list, (.v 12)⟩, ⟨(.int .i64), (.v 13)⟩, ⟨.list, (.v 14)⟩, ⟨.bool, (.v 15)⟩, ⟨.list, (.v 16)⟩, ⟨(.int .i64), (.v 17)⟩, ⟨.list, (.v 18)⟩] [.bool] <|
.letp .not [⟨.bool, (.v 19)⟩] <|
.ite (.v 20) (
 .call 2 [⟨.bool, (.v 3)⟩, ⟨.list, (.v 4)⟩, ⟨(.int .i64), (.v 5)⟩, ⟨.list, (.v 6)⟩, ⟨(.int .i64), (.v 7)⟩, ⟨(.int .i64), (.v 8)⟩, ⟨(.int .i64), (.v 9)⟩, ⟨(.int .i64), (.v 10)⟩] [.bool, .list, (.int .i64), .list] <|
 .call 3 [⟨.bool, (.v 11)⟩, ⟨.list, (.v 12)⟩, ⟨(.int .i64), (.v 13)⟩, ⟨.list, (.v 14)⟩, ⟨.bool, (.v 21)⟩, ⟨.list, (.v 22)⟩, ⟨(.int .i64), (.v 23)⟩, ⟨.list, (.v 24)⟩] [.bool] <|
 .ret [⟨.bool, (.v 25)⟩]) <|
.call 4 [⟨.bool, (.v 3)⟩, ⟨.list, (.v 4)⟩, ⟨(.int .i64), (.v 5)⟩, ⟨.list, (.v 6)⟩] [.bool] <|
.letp .not [⟨.bool, (.v 21)⟩] <|
.ite (.v 22) (
 .call 2 [⟨.bool, (.v 3)⟩, ⟨.list, (.v 4)⟩, ⟨(.int .i64), (.v 5)⟩, ⟨.list, (.v 6)⟩, ⟨(.int .i64), (.v 7)⟩, ⟨(.int .i64), (.v 8)⟩, ⟨(.int .i64), (.v 9)⟩, ⟨(.int .i64), (.v 10)⟩] [.bool, .list, (.int .i64), .list] <|
 .call 3 [⟨.bool, (.v 11)⟩, ⟨.list, (.v 12)⟩, ⟨(.int .i64), (.v 13)⟩, ⟨.list, (.v 14)⟩, ⟨.bool, (.v 23)⟩, ⟨.list, (.v 24)⟩, ⟨(.int .i64), (.v 25)⟩, ⟨.list, (.v 26)⟩] [.bool] <|
 .ret [⟨.bool, (.v 27)⟩]) <|
.call 1 [⟨.bool, (.v 11)⟩, ⟨.list, (.v 12)⟩, ⟨(.int .i64), (.v 13)⟩, ⟨.list, (.v 14)⟩, ⟨(.int .i64), (.v 7)⟩, ⟨(.int .i64), (.v 8)⟩, ⟨(.int .i64), (.v 9)⟩, ⟨(.int .i64), (.v 10)⟩] [.bool, .list, (.int .i64), .list] <|
.call 3 [⟨.bool, (.v 23)⟩, ⟨.list, (.v 24)⟩, ⟨(.int .i64), (.v 25)⟩, ⟨.list, (.v 26)⟩, ⟨.bool, (.v 11)⟩, ⟨.list, (.v 12)⟩, ⟨(.int .i64), (.v 13)⟩, ⟨.list, (.v 14)⟩] [.bool] <|
.ret [⟨.bool, (.v 27)⟩]
noncomputable def Φ_ao : Phi := fun n => match n with
  | 0 => φ_al
  | 1 => φ_by
  | 2 => φ_bw
  | 3 => φ_da
  | 4 => φ_cv
  | _ => fun _ => none
noncomputable def φ_ao (cs : List C) : Option (List C) := retOf (den Φ_ao t_ao cs)
end Dx
/- A law: what is told twice is told once. -/
namespace Dx
open Go
section
variable {code : List Int}
set_option maxHeartbeats 2000000 in
theorem law_DeskTwice (hl : code.length ≤ 1099511627776) (hc : Bytes code) : φ_ao [.list (code.map eB)] = some [.bool true] := by
  unfold φ_ao t_ao
  refine hearHead_den rfl rfl rfl rfl rfl hl hc fun d x ok => ?_
  have e1 : Φ_ao 1 = φ_by := rfl
  have e3 : Φ_ao 3 = φ_da := rfl
  obtain ⟨y, hy⟩ : ∃ y, y = dhear d x := ⟨_, rfl⟩
  have oy : DkOk y := by rw [hy]; exact (ok.hear x).1
  have hyS : DkS ⟨y.up, ⟨y.lg.rs, y.lg.f⟩, y.td⟩ := oy.S
  have p1 := i_DeskHear hyS (k := x.k) (h := x.h) (t := x.t) (m := x.m)
  have hn := dselfS oy.S
  simp only [eta_L, eta_D, eta_W] at p1
  rw [if_pos (deskOk_iff.2 oy)] at p1
  have tw : dhear y x = y := by rw [hy]; exact dhear_twice ok x
  rw [tw] at p1
  simp only [Desk.e] at p1
  rw [← hy]
  unfold hearEnv
  exact sc e1 p1 rfl rfl (sc e3 hn rfl rfl (sret rfl))
end
end Dx


namespace Dx
open Go Go.Proofs
def c_ao : Con := ⟨[.own false [.val] [.list] false], [⟨false, [.val], [.bool], false⟩]⟩
theorem has_ao : Has Tryz.prog 8 c_ao φ_ao := fp (R := []) (tr := false) (E := [(33, 0, c_al), (34, 1, c_by), (35, 2, c_bw), (23, 3, c_da), (36, 4, c_cv)]) (Φ := Φ_ao) (t := t_ao) ⟨has_al, has_by, has_bw, has_da, has_cv, trivial⟩ Tryz.f8 hE (by kernel_rfl)
end Dx
namespace Go.Proofs.YtcgenclbnnigeabGreat.fnDeskTwice
open Go.ChangeShapes Go.WideShapes Go.ChangeAt Go.RowKit Dx
set_option linter.unusedVariables false
set_option maxRecDepth 100000

theorem own : ownKnob Tryz.prog.godebug = none := by kernel_rfl
theorem params : Tryz.f8.params = #[22] := by kernel_rfl
theorem results : Tryz.f8.resultTypes = #[4] := by kernel_rfl
theorem t22 : Tryz.prog.underlying 22 = some (.slice 5) := by kernel_rfl
theorem t5 : Tryz.prog.underlying 5 = some (.int .u8) := by kernel_rfl
theorem t4 : Tryz.prog.underlying 4 = some .bool := by kernel_rfl
theorem c5 : Tryz.prog.cellsOf 5 = 1 := by kernel_rfl
theorem func : Tryz.prog.funcs[8]? = some Tryz.f8 := by kernel_rfl

theorem small {H : Type} {d : DataW H} (hk : Rows.uptoSmall H [d] = true) : Rows.uptoBulkAll [d] ≤ 1048576 := of_decide_eq_true hk
theorem bytes_bulk {H : Type} : ∀ l : List Int, l.length ≤ Rows.uptoBulkAll (Go.ChangeShapes.lits (H := H) .u8 l)
  | [] => Nat.zero_le _
  | x :: l => by
    have e : Go.ChangeShapes.lits (H := H) .u8 (x :: l) = .lit (.int .u8 x) :: Go.ChangeShapes.lits .u8 l := rfl
    have := bytes_bulk (H := H) l
    rw [e]
    simp only [Rows.uptoBulkAll, Rows.uptoBulk, List.length_cons]
    omega

theorem contract (H : Type) (enc : TypeId × Value → H) (W : World) (base : Nat) (args : Array Value) (ds gs : List (DataW H)) (before : List MemPlace)
    (hval : ∀ (j : Nat) t v, Tryz.f8.params[j]? = some t → args[j]? = some v → Value.okWide Tryz.prog W .any base t v)
    (hW : DataW.Whole enc Tryz.prog Tryz.f8.params.toList Rows.fnDeskTwiceSpec.vars false W args.toList ds gs before) (hk : Rows.uptoSmall H (ds ++ gs) = true) :
    Calls Tryz.prog 8 args W fun e W' => ∃ v, e = .returned v ∧ Rows.fnDeskTwiceSpec.post enc Tryz.prog Tryz.f8 false true false false W args v W' := by
  have hW' := hW
  obtain ⟨p, q, hA0, hV, rfl, hfz, hnd⟩ := hW
  have hA : DataW.TrodAll enc Tryz.prog W 0 (fun _ => true) true Tryz.f8.params.toList args.toList ds p := hA0
  rw [params] at hA hval
  obtain ⟨v0, vs0, d0, ds0, p0, q0, hargs, rfl, rfl, h0, r0⟩ := trodAll_cons hA
  obtain ⟨rfl, rfl, rfl⟩ := trodAll_nil r0
  obtain rfl : args = #[v0] := by cases args; simp_all
  obtain ⟨rfl, rfl⟩ := trodVars_none hV
  obtain ⟨code, hb, hrep, hd, hshut⟩ := open_code t22 t5 c5 (hval 0 22 v0 rfl rfl) h0
  have hlen : code.length ≤ 1048576 := by
    have hk := small hk
    rcases hd with ⟨_, rfl⟩ | ⟨spare, rfl⟩
    · exact Nat.zero_le _
    · have := bytes_bulk (H := H) code
      simp only [Rows.uptoBulkAll, Rows.uptoBulk] at hk
      omega
  refine (law_calls (vs := [v0]) has_ao (by simp [lawPar]) ⟨[.list (code.map cB)], [], v0, [], [], [], rfl, rfl, rfl, law_par (hrep (by omega)), rfl, rfl, rfl⟩ (law_DeskTwice (by omega) hb)).mono ?_
  rintro e W' ⟨rfl, h1, h2, h3⟩
  refine ⟨_, rfl, [d0], [], p0, [], p0, [], by simpa using hW', trodAll_cons_mk (shut_bool t4 _) trodAll_mk0, ?_, rfl, kept_of h1 h2 h3 _, fun h => by cases h⟩
  rw [params]
  have := trodAll_cons_mk (hshut W' h3) (trodAll_mk0 (enc := enc) (P := Tryz.prog) (w := W') (base := 0) (spare := fun b => decide (b < W.heap.size)) (held := true))
  rw [List.append_nil] at this
  exact this

set_option maxRecDepth 100000 in
theorem lifted (os : Os) (started : os.Started) (H : Type) (enc : TypeId × Value → H) (F : Stop.Interp) :
    ReturnsInHanded {} Tryz.checked os 8 .any ((Rows.OpenSpec.upto Rows.fnDeskTwiceSpec).pre6 enc Tryz.prog Tryz.f8 Rows.fnDeskTwiceUptoRow.domain false) (((Rows.OpenSpec.upto Rows.fnDeskTwiceSpec).at F).post enc Tryz.prog Tryz.f8 false true false false) := by
  refine returnsInHanded_of_cond (C := Tryz.checked) (s := Rows.OpenSpec.upto Rows.fnDeskTwiceSpec) (k := Rows.uptoSmall) rfl own started (by kernel_rfl) func
    (OpenSpec.witness (enc := enc) (C := Tryz.checked) (s := Rows.OpenSpec.upto Rows.fnDeskTwiceSpec) (k := Rows.uptoSmall) rfl false ⟨#[], #[.slice none 0 0], []⟩ 8 (by kernel_rfl) (by kernel_rfl) (by kernel_rfl)
      (x := ([.nil], [], [])) (by kernel_rfl) rfl (by kernel_rfl)) ?_
  intro W base args ds gs before hval hW _ hk _
  exact contract H enc W base args ds gs before hval hW hk

theorem proved : Rows.FnDeskTwiceUptoSaid :=
  OpenClaim.holds_of_cond 8 Tryz.f8 rfl rfl rfl rfl rfl rfl rfl ⟨rfl, rfl, rfl, rfl, rfl⟩ rfl rfl rfl rfl rfl (by kernel_rfl) func (by kernel_rfl)
    (of_decide_eq_true (by kernel_rfl)) (by unfold Func.isWrapper; first | (rw [if_pos (by decide +kernel)]; kernel_rfl) | (rw [if_neg (by decide +kernel)]; exact ⟨rfl, rfl⟩))
    (fun os started H enc _ F => lifted os started H enc F)
#print axioms proved
end Go.Proofs.YtcgenclbnnigeabGreat.fnDeskTwice
