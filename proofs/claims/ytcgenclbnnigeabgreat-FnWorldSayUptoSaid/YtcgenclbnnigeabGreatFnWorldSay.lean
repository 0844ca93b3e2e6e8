/- PROVED: Rows.FnWorldSayUptoSaid: whatever the input of bulk at most 1048576, laws.FnWorldSay returns true, and its arguments read as they did. No condition beyond the statement's own. -/
import Derived.Test.YtcgenclbnnigeabGreatZb
import Derived.Test.YtcgenclbnnigeabGreatHa
import Derived.Test.YtcgenclbnnigeabGreatJa
import Derived.Test.YtcgenclbnnigeabGreatRows
set_option linter.all false
set_option linter.unusedVariables false
set_option linter.unusedSimpArgs false
set_option linter.unnecessarySimpa false
namespace Dx
open Go Go.Proofs
def t_bq : Tree :=
.letp .len [⟨.list, (.v 0)⟩] <|
.letp .gtI [⟨(.int .i64), (.v 1)⟩, ⟨(.int .i64), (.n 1048576)⟩] <|
.ite (.v 2) (
 .ret [⟨.bool, (.b true)⟩]) <|
.call 0 [⟨.list, (.v 0)⟩] [.bool, .list, (.int .i64), .list, .list, .list, (.int .i64), (.int .i64), (.int .i64), .list] <|
.call 1 [⟨.bool, (.v 3)⟩, ⟨.list, (.v 4)⟩, ⟨(.int .i64), (.v 5)⟩, ⟨.list, (.v 6)⟩, ⟨.list, (.v 7)⟩, ⟨.list, (.v 8)⟩, ⟨(.int .i64), (.v 9)⟩, ⟨(.int .i64), (.v 10)⟩, ⟨(.int .i64), (.v 11)⟩, ⟨.list, (.v 12)⟩] [.bool, .list, (.int .i64), .list, .list, .list] <|
.call 2 [⟨.bool, (.v 3)⟩, ⟨.list, (.v 4)⟩, ⟨(.int .i64), (.v 5)⟩, ⟨.list, (.v 6)⟩, ⟨.list, (.v 7)⟩, ⟨.list, (.v 8)⟩, ⟨(.int .i64), (.v 9)⟩, ⟨(.int .i64), (.v 10)⟩, ⟨(.int .i64), (.v 11)⟩, ⟨.list, (.v 12)⟩] [.bool, .list, (.int .i64), .list, .list, .list] <|
.call 3 [⟨.bool, (.v 13)⟩, ⟨.list, (.v 14)⟩, ⟨(.int .i64), (.v 15)⟩, ⟨.list, (.v 16)⟩, ⟨.list, (.v 17)⟩, ⟨.list, (.v 18)⟩, ⟨.bool, (.v 19)⟩, ⟨.list, (.v 20)⟩, ⟨(.int .i64), (.v 21)⟩, ⟨.list, (.v 22)⟩, ⟨.list, (.v 23)⟩, ⟨.list, (.v 24)⟩] [.bool] <|
.letp .not [⟨.bool, (.v 25)⟩] <|
.ite (.v 26) (
 .call 2 [⟨.bool, (.v 3)⟩, ⟨.list, (.v 4)⟩, ⟨(.int .i64), (.v 5)⟩, ⟨.list, (.v 6)⟩, ⟨.list, (.v 7)⟩, ⟨.list, (.v 8)⟩, ⟨(.int .i64), (.v 9)⟩, ⟨(.int .i64), (.v 10)⟩, ⟨(.int .i64), (.v 11)⟩, ⟨.list, (.v 12)⟩] [.bool, .list, (.int .i64), .list, .list, .list] <|
 .call 3 [⟨.bool, (.v 13)⟩, ⟨.list, (.v 14)⟩, ⟨(.int .i64), (.v 15)⟩, ⟨.list, (.v 16)⟩, ⟨.list, (.v 17)⟩, ⟨.list, (.v 18)⟩, ⟨.bool, (.v 27)⟩, ⟨.list, (.v 28)⟩, ⟨(.int .i64), (.v 29)⟩, ⟨.list, (.v 30)⟩, ⟨.list, (.v 31)⟩, ⟨.list, (.v 32)⟩] [.bool] <|
 .ret [⟨.bool, (.v 33)⟩]) <|
.call 4 [⟨.bool, (.v 3)⟩, ⟨.list, (.v 4)⟩, ⟨(.int .i64), (.v 5)⟩, ⟨.list, (.v 6)⟩, ⟨.list, (.v 7)⟩, ⟨.list, (.v 8)⟩] [.bool] <|
.letp .not [⟨.bool, (.v 27)⟩] <|
.ite (.v 28) (
 .call 2 [⟨.bool, (.v 3)⟩, ⟨.list, (.v 4)⟩, ⟨(.int .i64), (.v 5)⟩, ⟨.list, (.v 6)⟩, ⟨.list, (.v 7)⟩, ⟨.list, (.v 8)⟩, ⟨(.int .i64), (.v 9)⟩, ⟨(.int .i64), (.v 10)⟩, ⟨(.int .i64), (.v 11)⟩, ⟨.list, (.v 12)⟩] [.bool, .list, (.int .i64), .list, .list, .list] <|
 .call 3 [⟨.bool, (.v 13)⟩, ⟨.list, (.v 14)⟩, ⟨(.int .i64), (.v 15)⟩, ⟨.list, (.v 16)⟩, ⟨.list, (.v 17)⟩, ⟨.list, (.v 18)⟩, ⟨.bool, (.v 29)⟩, ⟨.list, (.v 30)⟩, ⟨(.int .i64), (.v 31)⟩, ⟨.list, (.v 32)⟩, ⟨.list, (.v 33)⟩, ⟨.list, (.v 34)⟩] [.bool] <|
 .ret [⟨.bool, (.v 35)⟩]) <|
.letp .neI [⟨(.int .i64), (.v 9)⟩, ⟨(.int .i64), (.n 3)⟩] <|
.ite (.v 29) (
 .call 2 [⟨.bool, (.v 3)⟩, ⟨.list, (.v 4)⟩, ⟨(.int .i64), (.v 5)⟩, ⟨.list, (.v 6)⟩, ⟨.list, (.v 7)⟩, ⟨.list, (.v 8)⟩, ⟨(.int .i64), (.v 9)⟩, ⟨(.int .i64), (.v 10)⟩, ⟨(.int .i64), (.v 11)⟩, ⟨.list, (.v 12)⟩] [.bool, .list, (.int .i64), .list, .list, .list] <|
 .call 3 [⟨.bool, (.v 13)⟩, ⟨.list, (.v 14)⟩, ⟨(.int .i64), (.v 15)⟩, ⟨.list, (.v 16)⟩, ⟨.list, (.v 17)⟩, ⟨.list, (.v 18)⟩, ⟨.bool, (.v 30)⟩, ⟨.list, (.v 31)⟩, ⟨(.int .i64), (.v 32)⟩, ⟨.list, (.v 33)⟩, ⟨.list, (.v 34)⟩, ⟨.list, (.v 35)⟩] [.bool] <|
 .ret [⟨.bool, (.v 36)⟩]) <|
.call 5 [⟨.bool, (.v 3)⟩, ⟨.list, (.v 4)⟩, ⟨(.int .i64), (.v 5)⟩, ⟨.list, (.v 6)⟩] [.list] <|
.letp .len [⟨.list, (.v 8)⟩] <|
.letp .ltI [⟨(.int .i64), (.v 10)⟩, ⟨(.int .i64), (.n 0)⟩] <|
.ite (.v 32) (
 .call 3 [⟨.bool, (.v 13)⟩, ⟨.list, (.v 14)⟩, ⟨(.int .i64), (.v 15)⟩, ⟨.list, (.v 16)⟩, ⟨.list, (.v 17)⟩, ⟨.list, (.v 18)⟩, ⟨.bool, (.v 3)⟩, ⟨.list, (.v 4)⟩, ⟨(.int .i64), (.v 5)⟩, ⟨.list, (.v 6)⟩, ⟨.list, (.v 7)⟩, ⟨.list, (.v 8)⟩] [.bool] <|
 .ret [⟨.bool, (.v 33)⟩]) <|
.letp .len [⟨.list, (.v 30)⟩] <|
.letp .geI [⟨(.int .i64), (.v 10)⟩, ⟨(.int .i64), (.v 33)⟩] <|
.ite (.v 34) (
 .call 3 [⟨.bool, (.v 13)⟩, ⟨.list, (.v 14)⟩, ⟨(.int .i64), (.v 15)⟩, ⟨.list, (.v 16)⟩, ⟨.list, (.v 17)⟩, ⟨.list, (.v 18)⟩, ⟨.bool, (.v 3)⟩, ⟨.list, (.v 4)⟩, ⟨(.int .i64), (.v 5)⟩, ⟨.list, (.v 6)⟩, ⟨.list, (.v 7)⟩, ⟨.list, (.v 8)⟩] [.bool] <|
 .ret [⟨.bool, (.v 35)⟩]) <|
.letp .eqI [⟨(.int .i64), (.v 31)⟩, ⟨(.int .i64), (.n 14)⟩] <|
.ite (.v 35) (
 .call 3 [⟨.bool, (.v 13)⟩, ⟨.list, (.v 14)⟩, ⟨(.int .i64), (.v 15)⟩, ⟨.list, (.v 16)⟩, ⟨.list, (.v 17)⟩, ⟨.list, (.v 18)⟩, ⟨.bool, (.v 3)⟩, ⟨.list, (.v 4)⟩, ⟨(.int .i64), (.v 5)⟩, ⟨.list, (.v 6)⟩, ⟨.list, (.v 7)⟩, ⟨.list, (.v 8)⟩] [.bool] <|
 .ret [⟨.bool, (.v 36)⟩]) <|
.chk .upto [⟨(.int .i64), (.v 31)⟩, ⟨.list, (.v 18)⟩] <|
.letp .take [⟨.list, (.v 18)⟩, ⟨(.int .i64), (.v 31)⟩] <|
.letp .len [⟨.list, (.v 18)⟩] <|
.letp (.add .i64) [⟨(.int .i64), (.v 31)⟩, ⟨(.int .i64), (.n 1)⟩] <|
.letp .eqI [⟨(.int .i64), (.v 37)⟩, ⟨(.int .i64), (.v 38)⟩] <|
.ite (.v 39) (
 .row (.v 18) (.v 31) [(.int .i64), (.int .i64), (.int .i64), (.int .i64)] <|
 .row (.v 30) (.v 10) [(.int .i64), (.int .i64), (.int .i64), (.int .i64)] <|
 .letp (.eqs 4) [⟨(.int .i64), (.v 40)⟩, ⟨(.int .i64), (.v 41)⟩, ⟨(.int .i64), (.v 42)⟩, ⟨(.int .i64), (.v 43)⟩, ⟨(.int .i64), (.v 44)⟩, ⟨(.int .i64), (.v 45)⟩, ⟨(.int .i64), (.v 46)⟩, ⟨(.int .i64), (.v 47)⟩] <|
 .ite (.v 48) (
 .call 3 [⟨.bool, (.v 13)⟩, ⟨.list, (.v 14)⟩, ⟨(.int .i64), (.v 15)⟩, ⟨.list, (.v 16)⟩, ⟨.list, (.v 17)⟩, ⟨.list, (.v 36)⟩, ⟨.bool, (.v 3)⟩, ⟨.list, (.v 4)⟩, ⟨(.int .i64), (.v 5)⟩, ⟨.list, (.v 6)⟩, ⟨.list, (.v 7)⟩, ⟨.list, (.v 8)⟩] [.bool] <|
 .ret [⟨.bool, (.v 49)⟩]) <|
 .ret [⟨.bool, (.b false)⟩]) <|
.ret [⟨.bool, (.b false)⟩]
noncomputable def Φ_bq : Phi := fun n => match n with
  | 0 => φ_bc
  | 1 => φ_dq
  | 2 => φ_dn
  | 3 => φ_dk
  | 4 => φ_dj
  | 5 => φ_ce
  | _ => fun _ => none
noncomputable def φ_bq (cs : List C) : Option (List C) := retOf (den Φ_bq t_bq cs)
end Dx
/- A law, as it is drawn: what is said is what the desk has to say. -/
namespace Dx
open Go
section
variable {code more : List Int}
set_option maxHeartbeats 2000000 in
theorem law_WorldSay (hl : code.length ≤ 1099511627776) (hc : Bytes code) : φ_bq [.list (code.map eB)] = some [.bool true] := by
  unfold φ_bq t_bq
  refine doHead_den rfl rfl rfl rfl rfl hl hc fun w e x ow he hx => ?_
  have e2 : Φ_bq 2 = φ_dn := rfl
  have e3 : Φ_bq 3 = φ_dk := rfl
  have e5 : Φ_bq 5 = φ_ce := rfl
  have ox : WOk x := by rw [hx]; exact ow.do_ e
  have p2 := m_WorldDoS ow.ws he
  rw [if_pos (worldOk_iff.2 ow), ← hx] at p2
  have hself := self_n ox.ws
  simp only [Wd.e, List.cons_append, List.nil_append] at hself p2
  have hdS : DkS ⟨w.dk.up, ⟨w.dk.lg.rs, w.dk.lg.f⟩, w.dk.td⟩ := ow.dk.S
  have hdo : deskOk ⟨w.dk.up, ⟨w.dk.lg.rs, w.dk.lg.f⟩, w.dk.td⟩ = true := deskOk_iff.2 ow.dk
  have hdw := i_DeskWords hdS
  rw [if_pos hdo] at hdw
  simp only [eta_L, eta_D] at hdw
  have hnl := ow.nlen
  have hself' := self_n ow.ws
  simp only [Wd.e, List.cons_append, List.nil_append] at hself'
  have hl1 : (((w.ns.map Word.e).length : Nat) : Int) = w.ns.length := by rw [List.length_map]
  have hl2 : ((((dwords w.dk).map Word.e).length : Nat) : Int) = (dwords w.dk).length := by rw [List.length_map]
  unfold doEnv
  by_cases h3 : e.k = 3
  · have hk : (e.k != 3) = false := by simp [h3]
    refine sl (congrArg C.bool hk) (sf rfl (sc e5 hdw rfl rfl (sl (congrArg (C.int .i64) hl1) ?_)))
    simp only [List.cons_append, List.nil_append]
    by_cases hno : e.a < 0 ∨ e.a ≥ (dwords w.dk).length ∨ w.ns.length = 14
    · have hxw : x = w := by rw [hx]; exact say_none h3 hno
      subst hxw
      by_cases h0 : e.a < 0
      · exact sl (congrArg C.bool (decide_eq_true h0)) (st rfl (sc e3 hself' rfl rfl (sret rfl)))
      refine sl (congrArg C.bool (decide_eq_false h0)) (sf rfl (sl (congrArg (C.int .i64) hl2) ?_))
      by_cases h1 : e.a ≥ ((dwords x.dk).length : Nat)
      · exact sl (congrArg C.bool (decide_eq_true h1)) (st rfl (sc e3 hself' rfl rfl (sret rfl)))
      refine sl (congrArg C.bool (decide_eq_false h1)) (sf rfl ?_)
      have h14 : (((x.ns.length : Nat) : Int) == 14) = true := by simp; omega
      exact sl (congrArg C.bool h14) (st rfl (sc e3 hself' rfl rfl (sret rfl)))
    · simp only [not_or] at hno
      obtain ⟨y, hy, hxw⟩ := say_one (w := w) h3 (by omega) (by omega) hnl hno.2.2
      rw [← hx] at hxw
      have h0 : ¬ (e.a < 0) := hno.1
      have h1 : ¬ (e.a ≥ ((dwords w.dk).length : Nat)) := hno.2.1
      have h14 : (((w.ns.length : Nat) : Int) == 14) = false := by simp; omega
      have hxn : x.ns = w.ns ++ [y] := by rw [hxw]
      have hxl : x.ns.length = w.ns.length + 1 := by rw [hxn]; simp
      have hup : (decide ((0 : Int) ≤ ((w.ns.length : Nat) : Int)) && decide (((w.ns.length : Nat) : Int) ≤ ((x.ns.map Word.e).length : Nat))) = true := by rw [List.length_map]; simp; omega
      have htk : (x.ns.map Word.e).take ((w.ns.length : Nat) : Int).toNat = w.ns.map Word.e := by rw [Int.toNat_natCast, ← List.map_take, hxn]; simp
      have hl3 : (((x.ns.map Word.e).length : Nat) : Int) = ((w.ns.length + 1 : Nat) : Int) := by rw [List.length_map, hxl]
      have hw1 : IntKind.wrap .i64 (((w.ns.length : Nat) : Int) + 1) = ((w.ns.length + 1 : Nat) : Int) := wrap_nat (by omega)
      have heq : (((w.ns.length + 1 : Nat) : Int) == ((w.ns.length + 1 : Nat) : Int)) = true := by simp
      have hr1 : x.ns[w.ns.length]? = some y := by rw [hxn]; simp
      have hdk : x.dk = w.dk := by rw [hxw]
      have hhs : x.hs = w.hs := by rw [hxw]
      refine sl (congrArg C.bool (decide_eq_false h0)) (sf rfl (sl (congrArg (C.int .i64) hl2) (sl (congrArg C.bool (decide_eq_false h1)) (sf rfl (sl (congrArg C.bool h14) (sf rfl (sk hup (sl (congrArg C.list htk) (sl (congrArg (C.int .i64) hl3) (sl (congrArg (C.int .i64) hw1) (sl (congrArg C.bool heq) (st rfl ?_))))))))))))
      simp only [List.cons_append, List.nil_append, hdk, hhs]
      have hr2 : ∀ f : List C → Option Out, rowD (.list ((dwords w.dk).map Word.e)) (.int .i64 e.a) [.int .i64, .int .i64, .int .i64, .int .i64] f = f y.e := fun f => row_Wi (by omega) hy
      have hq : (ints (List.take 4 [C.int .i64 y.k, C.int .i64 y.h, C.int .i64 y.t, C.int .i64 y.m, C.int .i64 y.k, C.int .i64 y.h, C.int .i64 y.t, C.int .i64 y.m]) == ints (List.drop 4 [C.int .i64 y.k, C.int .i64 y.h, C.int .i64 y.t, C.int .i64 y.m, C.int .i64 y.k, C.int .i64 y.h, C.int .i64 y.t, C.int .i64 y.m])) = true := beq_self_eq_true (ints [C.int .i64 y.k, C.int .i64 y.h, C.int .i64 y.t, C.int .i64 y.m])
      simp (disch := first | assumption | omega | (simp only [zL]; omega)) only [wEnv, wEnv2, den_row, den_up, den_jump, den_chk, den_join, den_letp, den_ite, den_ret, den_call, dens, Cell.den, At.den, Prim.den, List.cons_append, List.nil_append, padC, cellKs, CK.of, beqI, bneI, Bool.decide_eq_true, row_W hr1, hr2, Word.e, hq, e3, hself', Int.reduceEq, reduceIte, zU, zT, getC]
      try rfl
  · have hk : (e.k != 3) = true := by simp [h3]
    exact sl (congrArg C.bool hk) (st rfl (sc e2 p2 rfl rfl (sc e3 hself rfl rfl (sret rfl))))
end
end Dx


namespace Dx
open Go Go.Proofs
def c_bq : Con := ⟨[.own false [.val] [.list] false], [⟨false, [.val], [.bool], false⟩]⟩
theorem has_bq : Has Tryz.prog 5 c_bq φ_bq := fp (R := []) (tr := false) (E := [(15, 0, c_bc), (16, 1, c_dq), (18, 2, c_dn), (17, 3, c_dk), (19, 4, c_dj), (24, 5, c_ce)]) (Φ := Φ_bq) (t := t_bq) ⟨has_bc, has_dq, has_dn, has_dk, has_dj, has_ce, trivial⟩ Tryz.f5 hE (by kernel_rfl)
end Dx
namespace Go.Proofs.YtcgenclbnnigeabGreat.fnWorldSay
open Go.ChangeShapes Go.WideShapes Go.ChangeAt Go.RowKit Dx
set_option linter.unusedVariables false
set_option maxRecDepth 100000

theorem own : ownKnob Tryz.prog.godebug = none := by kernel_rfl
theorem params : Tryz.f5.params = #[22] := by kernel_rfl
theorem results : Tryz.f5.resultTypes = #[4] := by kernel_rfl
theorem t22 : Tryz.prog.underlying 22 = some (.slice 5) := by kernel_rfl
theorem t5 : Tryz.prog.underlying 5 = some (.int .u8) := by kernel_rfl
theorem t4 : Tryz.prog.underlying 4 = some .bool := by kernel_rfl
theorem c5 : Tryz.prog.cellsOf 5 = 1 := by kernel_rfl
theorem func : Tryz.prog.funcs[5]? = some Tryz.f5 := by kernel_rfl

theorem small {H : Type} {d : DataW H} (hk : Rows.uptoSmall H [d] = true) : Rows.uptoBulkAll [d] ≤ 1048576 := of_decide_eq_true hk
theorem bytes_bulk {H : Type} : ∀ l : List Int, l.length ≤ Rows.uptoBulkAll (Go.ChangeShapes.lits (H := H) .u8 l)
  | [] => Nat.zero_le _
  | x :: l => by
    have e : Go.ChangeShapes.lits (H := H) .u8 (x :: l) = .lit (.int .u8 x) :: Go.ChangeShapes.lits .u8 l := rfl
    have := bytes_bulk (H := H) l
    rw [e]
    simp only [Rows.uptoBulkAll, Rows.uptoBulk, List.length_cons]
    omega

theorem contract (H : Type) (enc : TypeId × Value → H) (W : World) (base : Nat) (args : Array Value) (ds gs : List (DataW H)) (before : List MemPlace)
    (hval : ∀ (j : Nat) t v, Tryz.f5.params[j]? = some t → args[j]? = some v → Value.okWide Tryz.prog W .any base t v)
    (hW : DataW.Whole enc Tryz.prog Tryz.f5.params.toList Rows.fnWorldSaySpec.vars false W args.toList ds gs before) (hk : Rows.uptoSmall H (ds ++ gs) = true) :
    Calls Tryz.prog 5 args W fun e W' => ∃ v, e = .returned v ∧ Rows.fnWorldSaySpec.post enc Tryz.prog Tryz.f5 false true false false W args v W' := by
  have hW' := hW
  obtain ⟨p, q, hA0, hV, rfl, hfz, hnd⟩ := hW
  have hA : DataW.TrodAll enc Tryz.prog W 0 (fun _ => true) true Tryz.f5.params.toList args.toList ds p := hA0
  rw [params] at hA hval
  obtain ⟨v0, vs0, d0, ds0, p0, q0, hargs, rfl, rfl, h0, r0⟩ := trodAll_cons hA
  obtain ⟨rfl, rfl, rfl⟩ := trodAll_nil r0
  obtain rfl : args = #[v0] := by cases args; simp_all
  obtain ⟨rfl, rfl⟩ := trodVars_none hV
  obtain ⟨code, hb, hrep, hd, hshut⟩ := open_code t22 t5 c5 (hval 0 22 v0 rfl rfl) h0
  have hlen : code.length ≤ 1048576 := by
    have hk := small hk
    rcases hd with ⟨_, rfl⟩ | ⟨spare, rfl⟩
    · exact Nat.zero_le _
    · have := bytes_bulk (H := H) code
      simp only [Rows.uptoBulkAll, Rows.uptoBulk] at hk
      omega
  refine (law_calls (vs := [v0]) has_bq (by simp [lawPar]) ⟨[.list (code.map cB)], [], v0, [], [], [], rfl, rfl, rfl, law_par (hrep (by omega)), rfl, rfl, rfl⟩ (law_WorldSay (by omega) hb)).mono ?_
  rintro e W' ⟨rfl, h1, h2, h3⟩
  refine ⟨_, rfl, [d0], [], p0, [], p0, [], by simpa using hW', trodAll_cons_mk (shut_bool t4 _) trodAll_mk0, ?_, rfl, kept_of h1 h2 h3 _, fun h => by cases h⟩
  rw [params]
  have := trodAll_cons_mk (hshut W' h3) (trodAll_mk0 (enc := enc) (P := Tryz.prog) (w := W') (base := 0) (spare := fun b => decide (b < W.heap.size)) (held := true))
  rw [List.append_nil] at this
  exact this

set_option maxRecDepth 100000 in
theorem lifted (os : Os) (started : os.Started) (H : Type) (enc : TypeId × Value → H) (F : Stop.Interp) :
    ReturnsInHanded {} Tryz.checked os 5 .any ((Rows.OpenSpec.upto Rows.fnWorldSaySpec).pre6 enc Tryz.prog Tryz.f5 Rows.fnWorldSayUptoRow.domain false) (((Rows.OpenSpec.upto Rows.fnWorldSaySpec).at F).post enc Tryz.prog Tryz.f5 false true false false) := by
  refine returnsInHanded_of_cond (C := Tryz.checked) (s := Rows.OpenSpec.upto Rows.fnWorldSaySpec) (k := Rows.uptoSmall) rfl own started (by kernel_rfl) func
    (OpenSpec.witness (enc := enc) (C := Tryz.checked) (s := Rows.OpenSpec.upto Rows.fnWorldSaySpec) (k := Rows.uptoSmall) rfl false ⟨#[], #[.slice none 0 0], []⟩ 8 (by kernel_rfl) (by kernel_rfl) (by kernel_rfl)
      (x := ([.nil], [], [])) (by kernel_rfl) rfl (by kernel_rfl)) ?_
  intro W base args ds gs before hval hW _ hk _
  exact contract H enc W base args ds gs before hval hW hk

theorem proved : Rows.FnWorldSayUptoSaid :=
  OpenClaim.holds_of_cond 5 Tryz.f5 rfl rfl rfl rfl rfl rfl rfl ⟨rfl, rfl, rfl, rfl, rfl⟩ rfl rfl rfl rfl rfl (by kernel_rfl) func (by kernel_rfl)
    (of_decide_eq_true (by kernel_rfl)) (by unfold Func.isWrapper; first | (rw [if_pos (by decide +kernel)]; kernel_rfl) | (rw [if_neg (by decide +kernel)]; exact ⟨rfl, rfl⟩))
    (fun os started H enc _ F => lifted os started H enc F)
#print axioms proved
end Go.Proofs.YtcgenclbnnigeabGreat.fnWorldSay
