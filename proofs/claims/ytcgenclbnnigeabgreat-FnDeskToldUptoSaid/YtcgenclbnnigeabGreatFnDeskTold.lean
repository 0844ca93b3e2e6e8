/- PROVED: Rows.FnDeskToldUptoSaid: whatever the input of bulk at most 1048576, laws.FnDeskTold returns true, and its arguments read as they did. No condition beyond the statement's own. -/
import Derived.Test.YtcgenclbnnigeabGreatZa
import Derived.Test.YtcgenclbnnigeabGreatHa
import Derived.Test.YtcgenclbnnigeabGreatJa
import Derived.Test.YtcgenclbnnigeabGreatRows
set_option linter.all false
set_option linter.unusedVariables false
set_option linter.unusedSimpArgs false
set_option linter.unnecessarySimpa false
namespace Dx
open Go Go.Proofs
def t_au : Tree :=
.letp .len [⟨.list, (.v 0)⟩] <|
.letp .gtI [⟨(.int .i64), (.v 1)⟩, ⟨(.int .i64), (.n 1048576)⟩] <|
.ite (.v 2) (
 .ret [⟨.bool, (.b true)⟩]) <|
.call 0 [⟨.list, (.v 0)⟩] [.bool, .list, (.int .i64), .list, (.int .i64), (.int .i64), (.int .i64), (.int .i64)] <|
.call 1 [⟨.bool, (.v 3)⟩, ⟨.list, (.v 4)⟩, ⟨(.int .i64), (.v 5)⟩, ⟨.list, (.v 6)⟩, ⟨(.int .i64), (.v 7)⟩, ⟨(.int .i64), (.v 8)⟩, ⟨(.int .i64), (.v 9)⟩, ⟨(.int .i64), (.v 10)⟩] [.bool, .list, (.int .i64), .list] <|
.call 2 [⟨.bool, (.v 3)⟩, ⟨.list, (.v 4)⟩, ⟨(.int .i64), (.v 5)⟩, ⟨.list, (.v 6)⟩, ⟨(.int .i64), (.v 7)⟩, ⟨(.int .i64), (.v 8)⟩, ⟨(.int .i64), (.v 9)⟩, ⟨(.int .i64), (.v 10)⟩] [.bool, .list, (.int .i64), .list] <|
.call 3 [⟨.bool, (.v 11)⟩, ⟨.list, (.v 12)⟩, ⟨(.int .i64), (.v 13)⟩, ⟨.list, (.v 14)⟩, ⟨.bool, (.v 15)⟩, ⟨.list, (.v 16)⟩, ⟨(.int .i64), (.v 17)⟩, ⟨.list, (.v 18)⟩] [.bool] <|
.letp .not [⟨.bool, (.v 19)⟩] <|
.ite (.v 20) (
 .call 2 [⟨.bool, (.v 3)⟩, ⟨.list, (.v 4)⟩, ⟨(.int .i64), (.v 5)⟩, ⟨.list, (.v 6)⟩, ⟨(.int .i64), (.v 7)⟩, ⟨(.int .i64), (.v 8)⟩, ⟨(.int .i64), (.v 9)⟩, ⟨(.int .i64), (.v 10)⟩] [.bool, .list, (.int .i64), .list] <|
 .call 3 [⟨.bool, (.v 11)⟩, ⟨.list, (.v 12)⟩, ⟨(.int .i64), (.v 13)⟩, ⟨.list, (.v 14)⟩, ⟨.bool, (.v 21)⟩, ⟨.list, (.v 22)⟩, ⟨(.int .i64), (.v 23)⟩, ⟨.list, (.v 24)⟩] [.bool] <|
 .ret [⟨.bool, (.v 25)⟩]) <|
.call 4 [⟨.bool, (.v 3)⟩, ⟨.list, (.v 4)⟩, ⟨(.int .i64), (.v 5)⟩, ⟨.list, (.v 6)⟩] [.bool] <|
.letp .not [⟨.bool, (.v 21)⟩] <|
.ite (.v 22) (
 .call 2 [⟨.bool, (.v 3)⟩, ⟨.list, (.v 4)⟩, ⟨(.int .i64), (.v 5)⟩, ⟨.list, (.v 6)⟩, ⟨(.int .i64), (.v 7)⟩, ⟨(.int .i64), (.v 8)⟩, ⟨(.int .i64), (.v 9)⟩, ⟨(.int .i64), (.v 10)⟩] [.bool, .list, (.int .i64), .list] <|
 .call 3 [⟨.bool, (.v 11)⟩, ⟨.list, (.v 12)⟩, ⟨(.int .i64), (.v 13)⟩, ⟨.list, (.v 14)⟩, ⟨.bool, (.v 23)⟩, ⟨.list, (.v 24)⟩, ⟨(.int .i64), (.v 25)⟩, ⟨.list, (.v 26)⟩] [.bool] <|
 .ret [⟨.bool, (.v 27)⟩]) <|
.letp .len [⟨.list, (.v 6)⟩] <|
.letp .len [⟨.list, (.v 4)⟩] <|
.letp .len [⟨.list, (.v 14)⟩] <|
.letp .ltI [⟨(.int .i64), (.v 25)⟩, ⟨(.int .i64), (.v 23)⟩] <|
.ite (.v 26) (
 .ret [⟨.bool, (.b false)⟩]) <|
.letp .len [⟨.list, (.v 14)⟩] <|
.letp (.add .i64) [⟨(.int .i64), (.v 23)⟩, ⟨(.int .i64), (.n 1)⟩] <|
.letp .gtI [⟨(.int .i64), (.v 27)⟩, ⟨(.int .i64), (.v 28)⟩] <|
.ite (.v 29) (
 .ret [⟨.bool, (.b false)⟩]) <|
.chk .upto [⟨(.int .i64), (.v 23)⟩, ⟨.list, (.v 14)⟩] <|
.letp .take [⟨.list, (.v 14)⟩, ⟨(.int .i64), (.v 23)⟩] <|
.call 5 [⟨.list, (.v 30)⟩, ⟨.list, (.v 6)⟩] [.bool] <|
.letp .not [⟨.bool, (.v 31)⟩] <|
.ite (.v 32) (
 .ret [⟨.bool, (.b false)⟩]) <|
.letp .len [⟨.list, (.v 12)⟩] <|
.letp (.add .i64) [⟨(.int .i64), (.v 24)⟩, ⟨(.int .i64), (.n 1)⟩] <|
.letp .gtI [⟨(.int .i64), (.v 33)⟩, ⟨(.int .i64), (.v 34)⟩] <|
.ite (.v 35) (
 .ret [⟨.bool, (.b false)⟩]) <|
.chk .upto [⟨(.int .i64), (.v 24)⟩, ⟨.list, (.v 12)⟩] <|
.letp .take [⟨.list, (.v 12)⟩, ⟨(.int .i64), (.v 24)⟩] <|
.call 6 [⟨.list, (.v 36)⟩, ⟨.list, (.v 4)⟩] [.bool] <|
.letp .not [⟨.bool, (.v 37)⟩] <|
.ite (.v 38) (
 .ret [⟨.bool, (.b false)⟩]) <|
.letp .neI [⟨(.int .i64), (.v 13)⟩, ⟨(.int .i64), (.v 5)⟩] <|
.ite (.v 39) (
 .ret [⟨.bool, (.b false)⟩]) <|
.ite (.v 3) (
 .call 7 [⟨(.int .i64), (.v 7)⟩, ⟨(.int .i64), (.v 8)⟩, ⟨(.int .i64), (.v 9)⟩, ⟨(.int .i64), (.v 10)⟩] [.bool] <|
 .ite (.v 40) (
 .letp .geI [⟨(.int .i64), (.v 7)⟩, ⟨(.int .i64), (.n 4)⟩] <|
 .ite (.v 41) (
 .call 8 [⟨.bool, (.v 3)⟩, ⟨.list, (.v 4)⟩, ⟨(.int .i64), (.v 5)⟩, ⟨.list, (.v 6)⟩, ⟨.bool, (.b false)⟩] [.list] <|
 .letp .len [⟨.list, (.v 42)⟩] <|
 .letp .leI [⟨(.int .i64), (.v 9)⟩, ⟨(.int .i64), (.v 43)⟩] <|
 .call 9 [⟨.list, (.v 14)⟩, ⟨(.int .i64), (.v 7)⟩, ⟨(.int .i64), (.v 8)⟩, ⟨(.int .i64), (.v 9)⟩, ⟨(.int .i64), (.v 10)⟩] [.bool] <|
 .letp .eqB [⟨.bool, (.v 44)⟩, ⟨.bool, (.v 45)⟩] <|
 .ite (.v 46) (
 .ret [⟨.bool, (.b true)⟩]) <|
 .call 9 [⟨.list, (.v 6)⟩, ⟨(.int .i64), (.v 7)⟩, ⟨(.int .i64), (.v 8)⟩, ⟨(.int .i64), (.v 9)⟩, ⟨(.int .i64), (.v 10)⟩] [.bool] <|
 .ret [⟨.bool, (.v 47)⟩]) <|
 .call 9 [⟨.list, (.v 14)⟩, ⟨(.int .i64), (.v 7)⟩, ⟨(.int .i64), (.v 8)⟩, ⟨(.int .i64), (.v 9)⟩, ⟨(.int .i64), (.v 10)⟩] [.bool] <|
 .letp .eqB [⟨.bool, (.b false)⟩, ⟨.bool, (.v 42)⟩] <|
 .ite (.v 43) (
 .ret [⟨.bool, (.b true)⟩]) <|
 .call 9 [⟨.list, (.v 6)⟩, ⟨(.int .i64), (.v 7)⟩, ⟨(.int .i64), (.v 8)⟩, ⟨(.int .i64), (.v 9)⟩, ⟨(.int .i64), (.v 10)⟩] [.bool] <|
 .ret [⟨.bool, (.v 44)⟩]) <|
 .call 9 [⟨.list, (.v 14)⟩, ⟨(.int .i64), (.v 7)⟩, ⟨(.int .i64), (.v 8)⟩, ⟨(.int .i64), (.v 9)⟩, ⟨(.int .i64), (.v 10)⟩] [.bool] <|
 .letp .eqB [⟨.bool, (.b false)⟩, ⟨.bool, (.v 41)⟩] <|
 .ite (.v 42) (
 .ret [⟨.bool, (.b true)⟩]) <|
 .call 9 [⟨.list, (.v 6)⟩, ⟨(.int .i64), (.v 7)⟩, ⟨(.int .i64), (.v 8)⟩, ⟨(.int .i64), (.v 9)⟩, ⟨(.int .i64), (.v 10)⟩] [.bool] <|
 .ret [⟨.bool, (.v 43)⟩]) <|
.call 9 [⟨.list, (.v 14)⟩, ⟨(.int .i64), (.v 7)⟩, ⟨(.int .i64), (.v 8)⟩, ⟨(.int .i64), (.v 9)⟩, ⟨(.int .i64), (.v 10)⟩] [.bool] <|
.letp .eqB [⟨.bool, (.b false)⟩, ⟨.bool, (.v 40)⟩] <|
.ite (.v 41) (
 .ret [⟨.bool, (.b true)⟩]) <|
.call 9 [⟨.list, (.v 6)⟩, ⟨(.int .i64), (.v 7)⟩, ⟨(.int .i64), (.v 8)⟩, ⟨(.int .i64), (.v 9)⟩, ⟨(.int .i64), (.v 10)⟩] [.bool] <|
.ret [⟨.bool, (.v 42)⟩]
noncomputable def Φ_au : Phi := fun n => match n with
  | 0 => φ_am
  | 1 => φ_bx
  | 2 => φ_ca
  | 3 => φ_do
  | 4 => φ_ds
  | 5 => φ_ci
  | 6 => φ_dx
  | 7 => φ_dj
  | 8 => φ_bd
  | 9 => φ_dl
  | _ => fun _ => none
noncomputable def φ_au (cs : List C) : Option (List C) := retOf (den Φ_au t_au cs)
end Dx
/- A law: what is told is heard once, and nothing else changes. -/
namespace Dx
open Go
section
variable {code : List Int}
set_option maxHeartbeats 4000000 in
theorem law_DeskTold (hl : code.length ≤ 1099511627776) (hc : Bytes code) : φ_au [.list (code.map eB)] = some [.bool true] := by
  unfold φ_au t_au
  refine hearHead_den rfl rfl rfl rfl rfl hl hc fun d x ok => ?_
  have e5 : Φ_au 5 = φ_ci := rfl
  have e6 : Φ_au 6 = φ_dx := rfl
  have e7 : Φ_au 7 = φ_dj := rfl
  have e8 : Φ_au 8 = φ_bd := rfl
  have e9 : Φ_au 9 = φ_dl := rfl
  have hS : DkS ⟨d.up, ⟨d.lg.rs, d.lg.f⟩, d.td⟩ := ok.S
  have hok : deskOk d = true := deskOk_iff.2 ok
  have pt := i_DeskTrips hS (b := false)
  simp only [eta_L, eta_D] at pt
  rw [if_pos hok] at pt
  obtain ⟨⟨l1, r1, r2⟩, r3, ⟨l2, r4, r5⟩, r6⟩ := dhear_rs d x
  have hsaid : dheard d x = true → (dhear d x).td.contains x = true := dhear_said
  have hnot : dheard d x = false → dhear d x = d := dhear_not
  have oy : DkOk (dhear d x) := (ok.hear x).1
  have hdh : dheard d x = (d.up && (wordOk x && (decide (x.k ≥ 4) && decide (x.t ≤ ((ltrips d.lg false).length : Nat))))) := rfl
  generalize dhear d x = y at *
  have htl := ok.tdlen
  have hrl := ok.S.lg.1
  have hrm := ok.S.lg.2
  have sy := n_Said (td := y.td) (k := x.k) (h := x.h) (t := x.t) (m := x.m) (by have := oy.tdlen; omega)
  have sd := n_Said (td := d.td) (k := x.k) (h := x.h) (t := x.t) (m := x.m) (by omega)
  simp only [eta_W] at sy sd
  have tk1 : (y.td.map Word.e).take ((((d.td.map Word.e).length : Nat) : Int)).toNat = d.td.map Word.e := by
    rw [Int.toNat_natCast, r4, List.map_append, List.take_left]
  have tk2 : (y.lg.rs.map Rec.e).take ((((d.lg.rs.map Rec.e).length : Nat) : Int)).toNat = d.lg.rs.map Rec.e := by
    rw [Int.toNat_natCast, r1, List.map_append, List.take_left]
  have len1 : (y.td.map Word.e).length = (d.td.map Word.e).length + l2.length := by rw [r4]; simp
  have len2 : (y.lg.rs.map Rec.e).length = (d.lg.rs.map Rec.e).length + l1.length := by rw [r1]; simp
  have lb1 : (d.td.map Word.e).length ≤ 1000000 := by rw [List.length_map]; omega
  have lb2 : (d.lg.rs.map Rec.e).length ≤ 1000000 := by rw [List.length_map]; omega
  have nw : φ_ci [.list (d.td.map Word.e), .list (d.td.map Word.e)] = some [.bool true] := by rw [n_Words (by omega)]; simp
  have nr : φ_dx [.list (d.lg.rs.map Rec.e), .list (d.lg.rs.map Rec.e)] = some [.bool true] := by rw [n_Recs (by omega) hrm]; simp
  have b1 : ¬ ((((y.td.map Word.e).length : Nat) : Int) < (((d.td.map Word.e).length : Nat) : Int)) := by omega
  have w1 : IntKind.wrap .i64 ((((d.td.map Word.e).length : Nat) : Int) + 1) = (((d.td.map Word.e).length + 1 : Nat) : Int) := wrap_nat (by omega)
  have w2 : IntKind.wrap .i64 ((((d.lg.rs.map Rec.e).length : Nat) : Int) + 1) = (((d.lg.rs.map Rec.e).length + 1 : Nat) : Int) := wrap_nat (by omega)
  have b2 : ¬ ((((y.td.map Word.e).length : Nat) : Int) > (((d.td.map Word.e).length + 1 : Nat) : Int)) := by omega
  have b3 : ¬ ((((y.lg.rs.map Rec.e).length : Nat) : Int) > (((d.lg.rs.map Rec.e).length + 1 : Nat) : Int)) := by omega
  have c1 : (decide ((0 : Int) ≤ (((d.td.map Word.e).length : Nat) : Int)) && decide ((((d.td.map Word.e).length : Nat) : Int) ≤ (((y.td.map Word.e).length : Nat) : Int))) = true := by
    simp only [Bool.and_eq_true, decide_eq_true_eq]; omega
  have c2 : (decide ((0 : Int) ≤ (((d.lg.rs.map Rec.e).length : Nat) : Int)) && decide ((((d.lg.rs.map Rec.e).length : Nat) : Int) ≤ (((y.lg.rs.map Rec.e).length : Nat) : Int))) = true := by
    simp only [Bool.and_eq_true, decide_eq_true_eq]; omega
  have b4 : (y.lg.f != d.lg.f) = false := by rw [r3]; simp
  unfold hearEnv
  refine sl rfl (sl rfl (sl rfl (sl (congrArg C.bool (decide_eq_false b1)) (sf rfl (sl rfl (sl (congrArg (C.int .i64) w1) (sl (congrArg C.bool (decide_eq_false b2)) (sf rfl (sk c1 (sl (congrArg C.list tk1) ?_))))))))))
  simp only [List.cons_append, List.nil_append]
  refine sc e5 nw rfl rfl (sl rfl (sf rfl (sl rfl (sl (congrArg (C.int .i64) w2) (sl (congrArg C.bool (decide_eq_false b3)) (sf rfl (sk c2 (sl (congrArg C.list tk2) ?_))))))))
  simp only [List.cons_append, List.nil_append]
  refine sc e6 nr rfl rfl (sl rfl (sf rfl (sl (congrArg C.bool b4) (sf rfl ?_))))
  simp only [List.cons_append, List.nil_append]
  have fin : ∀ b : Bool, (b = true → y.td.contains x = true) → (b = false → y = d) → (b == y.td.contains x) = true ∨ ((b == y.td.contains x) = false ∧ d.td.contains x = true) := by
    intro b g1 g2
    cases b with
    | true => left; rw [g1 rfl]; rfl
    | false =>
      rw [g2 rfl]
      cases d.td.contains x with
      | true => right; exact ⟨rfl, rfl⟩
      | false => left; rfl
  cases hu : d.up with
  | false =>
    rw [hu, Bool.false_and] at hdh
    refine sf rfl ?_
    rcases fin false (fun e => by cases e) (fun _ => hnot hdh) with g | ⟨g1, g2⟩
    · exact sc e9 sy rfl rfl (sl (congrArg C.bool g) (st rfl (sret rfl)))
    · rw [g2] at sd
      exact sc e9 sy rfl rfl (sl (congrArg C.bool g1) (sf rfl (sc e9 sd rfl rfl (sret rfl))))
  | true =>
    rw [hu, Bool.true_and] at hdh
    have pw := i_WordOk (k := x.k) (h := x.h) (t := x.t) (m := x.m)
    simp only [eta_W] at pw
    rw [hu] at pt
    refine st rfl ?_
    cases hw : wordOk x with
    | false =>
      rw [hw] at pw
      rw [hw, Bool.false_and] at hdh
      refine sc e7 pw rfl rfl (sf rfl ?_)
      simp only [List.cons_append, List.nil_append]
      rcases fin false (fun e => by cases e) (fun _ => hnot hdh) with g | ⟨g1, g2⟩
      · exact sc e9 sy rfl rfl (sl (congrArg C.bool g) (st rfl (sret rfl)))
      · rw [g2] at sd
        exact sc e9 sy rfl rfl (sl (congrArg C.bool g1) (sf rfl (sc e9 sd rfl rfl (sret rfl))))
    | true =>
      rw [hw] at pw
      rw [hw, Bool.true_and] at hdh
      refine sc e7 pw rfl rfl (st rfl ?_)
      simp only [List.cons_append, List.nil_append]
      by_cases hk : x.k ≥ 4
      · rw [decide_eq_true hk, Bool.true_and] at hdh
        have hb : decide (x.t ≤ (((ltrips d.lg false).map Trip.e).length : Nat)) = dheard d x := by rw [hdh, List.length_map]
        refine sl (congrArg C.bool (decide_eq_true hk)) (st rfl (sc e8 pt rfl rfl (sl rfl (sl (congrArg C.bool hb) ?_))))
        simp only [List.cons_append, List.nil_append]
        rcases fin (dheard d x) hsaid hnot with g | ⟨g1, g2⟩
        · exact sc e9 sy rfl rfl (sl (congrArg C.bool g) (st rfl (sret rfl)))
        · rw [g2] at sd
          exact sc e9 sy rfl rfl (sl (congrArg C.bool g1) (sf rfl (sc e9 sd rfl rfl (sret rfl))))
      · rw [decide_eq_false hk, Bool.false_and] at hdh
        refine sl (congrArg C.bool (decide_eq_false hk)) (sf rfl ?_)
        rcases fin false (fun e => by cases e) (fun _ => hnot hdh) with g | ⟨g1, g2⟩
        · exact sc e9 sy rfl rfl (sl (congrArg C.bool g) (st rfl (sret rfl)))
        · rw [g2] at sd
          exact sc e9 sy rfl rfl (sl (congrArg C.bool g1) (sf rfl (sc e9 sd rfl rfl (sret rfl))))
end
end Dx


namespace Dx
open Go Go.Proofs
def c_au : Con := ⟨[.own false [.val] [.list] false], [⟨false, [.val], [.bool], false⟩]⟩
theorem has_au : Has Tryz.prog 11 c_au φ_au := fp (R := []) (tr := false) (E := [(33, 0, c_am), (34, 1, c_bx), (35, 2, c_ca), (23, 3, c_do), (36, 4, c_ds), (37, 5, c_ci), (20, 6, c_dx), (38, 7, c_dj), (25, 8, c_bd), (39, 9, c_dl)]) (Φ := Φ_au) (t := t_au) ⟨has_am, has_bx, has_ca, has_do, has_ds, has_ci, has_dx, has_dj, has_bd, has_dl, trivial⟩ Tryz.f11 hE (by kernel_rfl)
end Dx
namespace Go.Proofs.YtcgenclbnnigeabGreat.fnDeskTold
open Go.ChangeShapes Go.WideShapes Go.ChangeAt Go.RowKit Dx
set_option linter.unusedVariables false
set_option maxRecDepth 100000

theorem own : ownKnob Tryz.prog.godebug = none := by kernel_rfl
theorem params : Tryz.f11.params = #[22] := by kernel_rfl
theorem results : Tryz.f11.resultTypes = #[4] := by kernel_rfl
theorem t22 : Tryz.prog.underlying 22 = some (.slice 5) := by kernel_rfl
theorem t5 : Tryz.prog.underlying 5 = some (.int .u8) := by kernel_rfl
theorem t4 : Tryz.prog.underlying 4 = some .bool := by kernel_rfl
theorem c5 : Tryz.prog.cellsOf 5 = 1 := by kernel_rfl
theorem func : Tryz.prog.funcs[11]? = some Tryz.f11 := by kernel_rfl

theorem small {H : Type} {d : DataW H} (hk : Rows.uptoSmall H [d] = true) : Rows.uptoBulkAll [d] ≤ 1048576 := of_decide_eq_true hk
theorem bytes_bulk {H : Type} : ∀ l : List Int, l.length ≤ Rows.uptoBulkAll (Go.ChangeShapes.lits (H := H) .u8 l)
  | [] => Nat.zero_le _
  | x :: l => by
    have e : Go.ChangeShapes.lits (H := H) .u8 (x :: l) = .lit (.int .u8 x) :: Go.ChangeShapes.lits .u8 l := rfl
    have := bytes_bulk (H := H) l
    rw [e]
    simp only [Rows.uptoBulkAll, Rows.uptoBulk, List.length_cons]
    omega

theorem contract (H : Type) (enc : TypeId × Value → H) (W : World) (base : Nat) (args : Array Value) (ds gs : List (DataW H)) (before : List MemPlace)
    (hval : ∀ (j : Nat) t v, Tryz.f11.params[j]? = some t → args[j]? = some v → Value.okWide Tryz.prog W .any base t v)
    (hW : DataW.Whole enc Tryz.prog Tryz.f11.params.toList Rows.fnDeskToldSpec.vars false W args.toList ds gs before) (hk : Rows.uptoSmall H (ds ++ gs) = true) :
    Calls Tryz.prog 11 args W fun e W' => ∃ v, e = .returned v ∧ Rows.fnDeskToldSpec.post enc Tryz.prog Tryz.f11 false true false false W args v W' := by
  have hW' := hW
  obtain ⟨p, q, hA0, hV, rfl, hfz, hnd⟩ := hW
  have hA : DataW.TrodAll enc Tryz.prog W 0 (fun _ => true) true Tryz.f11.params.toList args.toList ds p := hA0
  rw [params] at hA hval
  obtain ⟨v0, vs0, d0, ds0, p0, q0, hargs, rfl, rfl, h0, r0⟩ := trodAll_cons hA
  obtain ⟨rfl, rfl, rfl⟩ := trodAll_nil r0
  obtain rfl : args = #[v0] := by cases args; simp_all
  obtain ⟨rfl, rfl⟩ := trodVars_none hV
  obtain ⟨code, hb, hrep, hd, hshut⟩ := open_code t22 t5 c5 (hval 0 22 v0 rfl rfl) h0
  have hlen : code.length ≤ 1048576 := by
    have hk := small hk
    rcases hd with ⟨_, rfl⟩ | ⟨spare, rfl⟩
    · exact Nat.zero_le _
    · have := bytes_bulk (H := H) code
      simp only [Rows.uptoBulkAll, Rows.uptoBulk] at hk
      omega
  refine (law_calls (vs := [v0]) has_au (by simp [lawPar]) ⟨[.list (code.map cB)], [], v0, [], [], [], rfl, rfl, rfl, law_par (hrep (by omega)), rfl, rfl, rfl⟩ (law_DeskTold (by omega) hb)).mono ?_
  rintro e W' ⟨rfl, h1, h2, h3⟩
  refine ⟨_, rfl, [d0], [], p0, [], p0, [], by simpa using hW', trodAll_cons_mk (shut_bool t4 _) trodAll_mk0, ?_, rfl, kept_of h1 h2 h3 _, fun h => by cases h⟩
  rw [params]
  have := trodAll_cons_mk (hshut W' h3) (trodAll_mk0 (enc := enc) (P := Tryz.prog) (w := W') (base := 0) (spare := fun b => decide (b < W.heap.size)) (held := true))
  rw [List.append_nil] at this
  exact this

set_option maxRecDepth 100000 in
theorem lifted (os : Os) (started : os.Started) (H : Type) (enc : TypeId × Value → H) (F : Stop.Interp) :
    ReturnsInHanded {} Tryz.checked os 11 .any ((Rows.OpenSpec.upto Rows.fnDeskToldSpec).pre6 enc Tryz.prog Tryz.f11 Rows.fnDeskToldUptoRow.domain false) (((Rows.OpenSpec.upto Rows.fnDeskToldSpec).at F).post enc Tryz.prog Tryz.f11 false true false false) := by
  refine returnsInHanded_of_cond (C := Tryz.checked) (s := Rows.OpenSpec.upto Rows.fnDeskToldSpec) (k := Rows.uptoSmall) rfl own started (by kernel_rfl) func
    (OpenSpec.witness (enc := enc) (C := Tryz.checked) (s := Rows.OpenSpec.upto Rows.fnDeskToldSpec) (k := Rows.uptoSmall) rfl false ⟨#[], #[.slice none 0 0], []⟩ 8 (by kernel_rfl) (by kernel_rfl) (by kernel_rfl)
      (x := ([.nil], [], [])) (by kernel_rfl) rfl (by kernel_rfl)) ?_
  intro W base args ds gs before hval hW _ hk _
  exact contract H enc W base args ds gs before hval hW hk

theorem proved : Rows.FnDeskToldUptoSaid :=
  OpenClaim.holds_of_cond 11 Tryz.f11 rfl rfl rfl rfl rfl rfl rfl ⟨rfl, rfl, rfl, rfl, rfl⟩ rfl rfl rfl rfl rfl (by kernel_rfl) func (by kernel_rfl)
    (of_decide_eq_true (by kernel_rfl)) (by unfold Func.isWrapper; first | (rw [if_pos (by decide +kernel)]; kernel_rfl) | (rw [if_neg (by decide +kernel)]; exact ⟨rfl, rfl⟩))
    (fun os started H enc _ F => lifted os started H enc F)
#print axioms proved
end Go.Proofs.YtcgenclbnnigeabGreat.fnDeskTold
