/- PROVED: Rows.FnWorldBeginUptoSaid: whatever the input of bulk at most 1048576, laws.FnWorldBegin returns true, and its arguments read as they did. No condition beyond the statement's own. -/
import Derived.Test.YtcgenclbnnigeabGreatZb
import Derived.Test.YtcgenclbnnigeabGreatHa
import Derived.Test.YtcgenclbnnigeabGreatJa
import Derived.Test.YtcgenclbnnigeabGreatRows
set_option linter.all false
set_option linter.unusedVariables false
set_option linter.unusedSimpArgs false
set_option linter.unnecessarySimpa false
namespace Dx
open Go Go.Proofs
def t_aw : Tree :=
.letp .len [⟨.list, (.v 0)⟩] <|
.letp .gtI [⟨(.int .i64), (.v 2)⟩, ⟨(.int .i64), (.n 1048576)⟩] <|
.ite (.v 3) (
 .ret [⟨.bool, (.b true)⟩]) <|
.letp .len [⟨.list, (.v 1)⟩] <|
.letp .gtI [⟨(.int .i64), (.v 4)⟩, ⟨(.int .i64), (.n 1048576)⟩] <|
.ite (.v 5) (
 .ret [⟨.bool, (.b true)⟩]) <|
.call 0 [⟨.list, (.v 0)⟩] [.bool, .list, (.int .i64), .list, .list, .list, (.int .i64), (.int .i64), (.int .i64), .list] <|
.call 1 [⟨.bool, (.v 6)⟩, ⟨.list, (.v 7)⟩, ⟨(.int .i64), (.v 8)⟩, ⟨.list, (.v 9)⟩, ⟨.list, (.v 10)⟩, ⟨.list, (.v 11)⟩, ⟨(.int .i64), (.v 12)⟩, ⟨(.int .i64), (.v 13)⟩, ⟨(.int .i64), (.v 14)⟩, ⟨.list, (.v 15)⟩] [.bool, .list, (.int .i64), .list, .list, .list] <|
.call 2 [⟨.bool, (.v 6)⟩, ⟨.list, (.v 7)⟩, ⟨(.int .i64), (.v 8)⟩, ⟨.list, (.v 9)⟩, ⟨.list, (.v 10)⟩, ⟨.list, (.v 11)⟩, ⟨(.int .i64), (.v 12)⟩, ⟨(.int .i64), (.v 13)⟩, ⟨(.int .i64), (.v 14)⟩, ⟨.list, (.v 15)⟩] [.bool, .list, (.int .i64), .list, .list, .list] <|
.call 3 [⟨.bool, (.v 16)⟩, ⟨.list, (.v 17)⟩, ⟨(.int .i64), (.v 18)⟩, ⟨.list, (.v 19)⟩, ⟨.list, (.v 20)⟩, ⟨.list, (.v 21)⟩, ⟨.bool, (.v 22)⟩, ⟨.list, (.v 23)⟩, ⟨(.int .i64), (.v 24)⟩, ⟨.list, (.v 25)⟩, ⟨.list, (.v 26)⟩, ⟨.list, (.v 27)⟩] [.bool] <|
.letp .not [⟨.bool, (.v 28)⟩] <|
.ite (.v 29) (
 .call 2 [⟨.bool, (.v 6)⟩, ⟨.list, (.v 7)⟩, ⟨(.int .i64), (.v 8)⟩, ⟨.list, (.v 9)⟩, ⟨.list, (.v 10)⟩, ⟨.list, (.v 11)⟩, ⟨(.int .i64), (.v 12)⟩, ⟨(.int .i64), (.v 13)⟩, ⟨(.int .i64), (.v 14)⟩, ⟨.list, (.v 15)⟩] [.bool, .list, (.int .i64), .list, .list, .list] <|
 .call 3 [⟨.bool, (.v 16)⟩, ⟨.list, (.v 17)⟩, ⟨(.int .i64), (.v 18)⟩, ⟨.list, (.v 19)⟩, ⟨.list, (.v 20)⟩, ⟨.list, (.v 21)⟩, ⟨.bool, (.v 30)⟩, ⟨.list, (.v 31)⟩, ⟨(.int .i64), (.v 32)⟩, ⟨.list, (.v 33)⟩, ⟨.list, (.v 34)⟩, ⟨.list, (.v 35)⟩] [.bool] <|
 .ret [⟨.bool, (.v 36)⟩]) <|
.call 4 [⟨.bool, (.v 6)⟩, ⟨.list, (.v 7)⟩, ⟨(.int .i64), (.v 8)⟩, ⟨.list, (.v 9)⟩, ⟨.list, (.v 10)⟩, ⟨.list, (.v 11)⟩] [.bool] <|
.letp .not [⟨.bool, (.v 30)⟩] <|
.ite (.v 31) (
 .call 2 [⟨.bool, (.v 6)⟩, ⟨.list, (.v 7)⟩, ⟨(.int .i64), (.v 8)⟩, ⟨.list, (.v 9)⟩, ⟨.list, (.v 10)⟩, ⟨.list, (.v 11)⟩, ⟨(.int .i64), (.v 12)⟩, ⟨(.int .i64), (.v 13)⟩, ⟨(.int .i64), (.v 14)⟩, ⟨.list, (.v 15)⟩] [.bool, .list, (.int .i64), .list, .list, .list] <|
 .call 3 [⟨.bool, (.v 16)⟩, ⟨.list, (.v 17)⟩, ⟨(.int .i64), (.v 18)⟩, ⟨.list, (.v 19)⟩, ⟨.list, (.v 20)⟩, ⟨.list, (.v 21)⟩, ⟨.bool, (.v 32)⟩, ⟨.list, (.v 33)⟩, ⟨(.int .i64), (.v 34)⟩, ⟨.list, (.v 35)⟩, ⟨.list, (.v 36)⟩, ⟨.list, (.v 37)⟩] [.bool] <|
 .ret [⟨.bool, (.v 38)⟩]) <|
.letp .len [⟨.list, (.v 1)⟩] <|
.letp (.rem .i64) [⟨(.int .i64), (.v 32)⟩, ⟨(.int .i64), (.n 3)⟩] <|
.letp .len [⟨.list, (.v 1)⟩] <|
.letp (.quo .i64) [⟨(.int .i64), (.v 34)⟩, ⟨(.int .i64), (.n 3)⟩] <|
.letp (.rem .i64) [⟨(.int .i64), (.v 35)⟩, ⟨(.int .i64), (.n 4)⟩] <|
.letp (.mkl 1) [⟨(.int .i64), (.v 33)⟩, ⟨(.int .i64), (.n 1)⟩, ⟨(.int .i64), (.v 36)⟩] <|
.call 1 [⟨.bool, (.v 6)⟩, ⟨.list, (.v 7)⟩, ⟨(.int .i64), (.v 8)⟩, ⟨.list, (.v 9)⟩, ⟨.list, (.v 10)⟩, ⟨.list, (.v 11)⟩, ⟨(.int .i64), (.n 1)⟩, ⟨(.int .i64), (.n 0)⟩, ⟨(.int .i64), (.n 0)⟩, ⟨.list, (.v 37)⟩] [.bool, .list, (.int .i64), .list, .list, .list] <|
.call 5 [⟨.bool, (.v 6)⟩, ⟨.list, (.v 7)⟩, ⟨(.int .i64), (.v 8)⟩, ⟨.list, (.v 9)⟩, ⟨.bool, (.b false)⟩] [.list] <|
.call 5 [⟨.bool, (.v 38)⟩, ⟨.list, (.v 39)⟩, ⟨(.int .i64), (.v 40)⟩, ⟨.list, (.v 41)⟩, ⟨.bool, (.b false)⟩] [.list] <|
.letp .len [⟨.list, (.v 44)⟩] <|
.letp .not [⟨.bool, (.v 6)⟩] <|
.ite (.v 47) (
 .call 3 [⟨.bool, (.v 38)⟩, ⟨.list, (.v 39)⟩, ⟨(.int .i64), (.v 40)⟩, ⟨.list, (.v 41)⟩, ⟨.list, (.v 42)⟩, ⟨.list, (.v 43)⟩, ⟨.bool, (.v 6)⟩, ⟨.list, (.v 7)⟩, ⟨(.int .i64), (.v 8)⟩, ⟨.list, (.v 9)⟩, ⟨.list, (.v 10)⟩, ⟨.list, (.v 11)⟩] [.bool] <|
 .ret [⟨.bool, (.v 48)⟩]) <|
.letp .eqI [⟨(.int .i64), (.v 46)⟩, ⟨(.int .i64), (.n 6)⟩] <|
.ite (.v 48) (
 .call 3 [⟨.bool, (.v 38)⟩, ⟨.list, (.v 39)⟩, ⟨(.int .i64), (.v 40)⟩, ⟨.list, (.v 41)⟩, ⟨.list, (.v 42)⟩, ⟨.list, (.v 43)⟩, ⟨.bool, (.v 6)⟩, ⟨.list, (.v 7)⟩, ⟨(.int .i64), (.v 8)⟩, ⟨.list, (.v 9)⟩, ⟨.list, (.v 10)⟩, ⟨.list, (.v 11)⟩] [.bool] <|
 .ret [⟨.bool, (.v 49)⟩]) <|
.letp .len [⟨.list, (.v 7)⟩] <|
.letp .eqI [⟨(.int .i64), (.v 49)⟩, ⟨(.int .i64), (.n 40)⟩] <|
.ite (.v 50) (
 .call 3 [⟨.bool, (.v 38)⟩, ⟨.list, (.v 39)⟩, ⟨(.int .i64), (.v 40)⟩, ⟨.list, (.v 41)⟩, ⟨.list, (.v 42)⟩, ⟨.list, (.v 43)⟩, ⟨.bool, (.v 6)⟩, ⟨.list, (.v 7)⟩, ⟨(.int .i64), (.v 8)⟩, ⟨.list, (.v 9)⟩, ⟨.list, (.v 10)⟩, ⟨.list, (.v 11)⟩] [.bool] <|
 .ret [⟨.bool, (.v 51)⟩]) <|
.letp .len [⟨.list, (.v 45)⟩] <|
.letp (.add .i64) [⟨(.int .i64), (.v 46)⟩, ⟨(.int .i64), (.n 1)⟩] <|
.letp .eqI [⟨(.int .i64), (.v 51)⟩, ⟨(.int .i64), (.v 52)⟩] <|
.ite (.v 53) (
 .row (.v 45) (.v 46) [.list, (.int .i64)] <|
 .call 6 [⟨.list, (.v 54)⟩, ⟨.list, (.v 37)⟩] [.bool] <|
 .ite (.v 56) (
 .chk .upto [⟨(.int .i64), (.v 46)⟩, ⟨.list, (.v 45)⟩] <|
 .letp .take [⟨.list, (.v 45)⟩, ⟨(.int .i64), (.v 46)⟩] <|
 .call 7 [⟨.list, (.v 57)⟩, ⟨.list, (.v 44)⟩] [.bool] <|
 .ite (.v 58) (
 .call 3 [⟨.bool, (.v 6)⟩, ⟨.list, (.v 7)⟩, ⟨(.int .i64), (.v 8)⟩, ⟨.list, (.v 9)⟩, ⟨.list, (.v 42)⟩, ⟨.list, (.v 43)⟩, ⟨.bool, (.v 6)⟩, ⟨.list, (.v 7)⟩, ⟨(.int .i64), (.v 8)⟩, ⟨.list, (.v 9)⟩, ⟨.list, (.v 10)⟩, ⟨.list, (.v 11)⟩] [.bool] <|
 .ret [⟨.bool, (.v 59)⟩]) <|
 .ret [⟨.bool, (.b false)⟩]) <|
 .ret [⟨.bool, (.b false)⟩]) <|
.ret [⟨.bool, (.b false)⟩]
noncomputable def Φ_aw : Phi := fun n => match n with
  | 0 => φ_bc
  | 1 => φ_dq
  | 2 => φ_dn
  | 3 => φ_dk
  | 4 => φ_dj
  | 5 => φ_ca
  | 6 => φ_fh
  | 7 => φ_dl
  | _ => fun _ => none
noncomputable def φ_aw (cs : List C) : Option (List C) := retOf (den Φ_aw t_aw cs)
end Dx
/- A law, as it is drawn: a trip is begun as long as there may be one. -/
namespace Dx
open Go
section
variable {code more : List Int}
theorem n_Trips {a b : List Trip} (ha : a.length ≤ 1099511627776) (hm : ∀ t ∈ a, t.m.length ≤ 1099511627776) : φ_dl [.list (a.map Trip.e), .list (b.map Trip.e)] = some [.bool (decide (a = b))] := by
  rw [q_dl]; unfold F_dl
  simp only [List.length_map]
  by_cases hl : a.length = b.length
  · have e : (((a.length : Nat) : Int) != ((b.length : Nat) : Int)) = false := by simp [hl]
    simp only [e, iteD_ff]
    rw [eqLoop hl]
    · rfl
    · intro i x y hx hy
      have hi := (List.getElem?_eq_some_iff.1 hx).1
      have hi' : (i : Int) < (a.length : Nat) := by omega
      have hxm := hm x (List.mem_of_getElem? hx)
      simp (disch := first | assumption | omega | (simp only [zL]; omega)) only [L_dl_0, row_T hx, row_T hy, Trip.e, n_Ints hxm, wrap_nat, hi', if_true, Int.reduceEq, reduceIte, zU, zT, getC]
      obtain ⟨m, s⟩ := x
      obtain ⟨m', s'⟩ := y
      by_cases e1 : s = s' <;> by_cases e2 : m = m' <;> simp [e1, e2]
    · have h : ¬ ((a.length : Int) < (a.length : Nat)) := by omega
      simp (disch := first | assumption | omega | (simp only [zL]; omega)) only [L_dl_0, h, if_false, Int.reduceEq, reduceIte, zU, zT, getC]
  · have e : (((a.length : Nat) : Int) != ((b.length : Nat) : Int)) = true := by simp; omega
    have : a ≠ b := fun h => hl (by rw [h])
    simp [e, this]
set_option maxHeartbeats 2000000 in
theorem law_WorldBegin (hl : code.length ≤ 1099511627776) (hc : Bytes code) : φ_aw [.list (code.map eB), .list (more.map eB)] = some [.bool true] := by
  unfold φ_aw t_aw
  refine doHead2_den rfl rfl rfl rfl rfl hl hc fun w e x hm ow he hx => ?_
  have e1 : Φ_aw 1 = φ_dq := rfl
  have e3 : Φ_aw 3 = φ_dk := rfl
  have e5 : Φ_aw 5 = φ_ca := rfl
  have e6 : Φ_aw 6 = φ_fh := rfl
  have e7 : Φ_aw 7 = φ_dl := rfl
  have hdS : DkS ⟨w.dk.up, ⟨w.dk.lg.rs, w.dk.lg.f⟩, w.dk.td⟩ := ow.dk.S
  have hdo : deskOk ⟨w.dk.up, ⟨w.dk.lg.rs, w.dk.lg.f⟩, w.dk.td⟩ = true := deskOk_iff.2 ow.dk
  have hdt := i_DeskTrips (b := false) hdS
  rw [if_pos hdo] at hdt
  simp only [eta_L, eta_D] at hdt
  have tr : TrOk (ltrips w.dk.lg false) := ow.dk.trOk false
  have tr6 := tr.len
  have h18 := ow.dk.len18
  have hself := self_n ow.ws
  simp only [Wd.e, List.cons_append, List.nil_append] at hself
  obtain ⟨a, ha⟩ : ∃ a : Int, a = ((more.length % 3 : Nat) : Int) := ⟨_, rfl⟩
  obtain ⟨c, hcc⟩ : ∃ c : Int, c = ((more.length / 3 % 4 : Nat) : Int) := ⟨_, rfl⟩
  have hl1 : (((more.map eB).length : Nat) : Int) = more.length := by rw [List.length_map]
  have hm3 : Int.tmod ((more.length : Nat) : Int) 3 = a := by rw [ha]; rfl
  have hq3 : Int.tdiv ((more.length : Nat) : Int) 3 = ((more.length / 3 : Nat) : Int) := rfl
  have hq3' : IntKind.wrap .i64 (Int.tdiv ((more.length : Nat) : Int) 3) = ((more.length / 3 : Nat) : Int) := by rw [hq3]; exact wrap64 (by omega) (by omega)
  have hm4 : Int.tmod ((more.length / 3 : Nat) : Int) 4 = c := by rw [hcc]; rfl
  have ha3 : 0 ≤ a ∧ a ≤ 2 := by omega
  have hc4 : 0 ≤ c ∧ c ≤ 3 := by omega
  have hmo : manyOk [a, 1, c] = true := by
    simp only [manyOk, List.all_cons, List.all_nil, Bool.and_true, Bool.and_eq_true, in_iff, decide_eq_true_eq]
    refine ⟨⟨by omega, by omega, by omega⟩, rfl, ?_⟩
    simp only [List.sum_cons, List.sum_nil]; omega
  have d1 := i_WorldDo ow (e := ⟨1, 0, 0, [a, 1, c]⟩) (by simp)
  have oy := ow.do_ ⟨1, 0, 0, [a, 1, c]⟩
  obtain ⟨y, hy⟩ : ∃ y, y = wdo w ⟨1, 0, 0, [a, 1, c]⟩ := ⟨_, rfl⟩
  rw [← hy] at d1 oy
  have hdSy : DkS ⟨y.dk.up, ⟨y.dk.lg.rs, y.dk.lg.f⟩, y.dk.td⟩ := oy.dk.S
  have hdoy : deskOk ⟨y.dk.up, ⟨y.dk.lg.rs, y.dk.lg.f⟩, y.dk.td⟩ = true := deskOk_iff.2 oy.dk
  have hdty := i_DeskTrips (b := false) hdSy
  rw [if_pos hdoy] at hdty
  simp only [eta_L, eta_D] at hdty
  simp only [Wd.e, List.map_cons, List.map_nil, eI] at d1
  unfold doEnv2
  refine sl (congrArg (C.int .i64) hl1) (sl (congrArg (C.int .i64) hm3) (sl (congrArg (C.int .i64) hl1) (sl (congrArg (C.int .i64) hq3') (sl (congrArg (C.int .i64) hm4) (sl (v := .list [[.int .i64 a], [.int .i64 1], [.int .i64 c]]) (congrArg C.list (chunk3 _ _ _)) (sc e1 d1 rfl rfl ?_))))))
  simp only [List.cons_append, List.nil_append]
  have hla : (((((ltrips w.dk.lg false).map Trip.e).length : Nat) : Int)) = (ltrips w.dk.lg false).length := by rw [List.length_map]
  refine sc e5 hdt rfl rfl (sc e5 hdty rfl rfl (sl (congrArg (C.int .i64) hla) (sl rfl ?_)))
  simp only [List.cons_append, List.nil_append]
  by_cases hu : w.dk.up = true
  · refine sf (by show (!w.dk.up) = false; rw [hu]; rfl) ?_
    by_cases h6 : (ltrips w.dk.lg false).length = 6
    · have hyw : y = w := by rw [hy]; exact begin_no (.inr (.inl h6))
      subst hyw
      have h6' : (((ltrips y.dk.lg false).length : Int) == 6) = true := by simp; omega
      exact sl (congrArg C.bool h6') (st rfl (sc e3 hself rfl rfl (sret rfl)))
    · have h6' : (((ltrips w.dk.lg false).length : Int) == 6) = false := by simp; omega
      have hlr : (((w.dk.lg.rs.map Rec.e).length : Nat) : Int) = w.dk.lg.rs.length := by rw [List.length_map]
      have h40 : (((w.dk.lg.rs.length : Nat) : Int) == 40) = false := by simp; omega
      obtain ⟨d, hyd, hd1, hd2⟩ := begin_yes ow hmo hu h6
      rw [← hy] at hyd
      have hyt : ltrips y.dk.lg false = ltrips w.dk.lg false ++ [⟨[a, 1, c], 1⟩] := by rw [hyd]; exact hd2
      have hyh : y.hs = w.hs := by rw [hyd]
      have hyn : y.ns = w.ns := by rw [hyd]
      have hlb : (((((ltrips y.dk.lg false).map Trip.e).length : Nat) : Int)) = (((ltrips w.dk.lg false).length + 1 : Nat) : Int) := by rw [List.length_map, hyt]; simp
      have hw1 : IntKind.wrap .i64 (((ltrips w.dk.lg false).length : Int) + 1) = (((ltrips w.dk.lg false).length + 1 : Nat) : Int) := wrap_nat (by omega)
      have heq : ((((ltrips w.dk.lg false).length + 1 : Nat) : Int) == (((ltrips w.dk.lg false).length + 1 : Nat) : Int)) = true := by simp
      refine sl (congrArg C.bool h6') (sf rfl (sl (congrArg (C.int .i64) hlr) (sl (congrArg C.bool h40) (sf rfl (sl (congrArg (C.int .i64) hlb) (sl (congrArg (C.int .i64) hw1) (sl (congrArg C.bool heq) (st rfl ?_))))))))
      simp only [List.cons_append, List.nil_append]
      have hr1 : (ltrips y.dk.lg false)[(ltrips w.dk.lg false).length]? = some ⟨[a, 1, c], 1⟩ := by rw [hyt]; simp
      have hi := n_Ints (a := [a, 1, c]) (b := [a, 1, c]) (by simp)
      simp only [List.map_cons, List.map_nil, eI, decide_true] at hi
      have hle : ((ltrips w.dk.lg false).length : Int) ≤ ((ltrips y.dk.lg false).length : Nat) := by rw [hyt]; simp; omega
      have hle0 : (0 : Int) ≤ ((ltrips w.dk.lg false).length : Nat) := by omega
      have htk : ((ltrips y.dk.lg false).map Trip.e).take (((ltrips w.dk.lg false).length : Nat) : Int).toNat = (ltrips w.dk.lg false).map Trip.e := by rw [Int.toNat_natCast, ← List.map_take, hyt]; simp
      have hnt := n_Trips (a := ltrips w.dk.lg false) (b := ltrips w.dk.lg false) (by omega) (fun t ht => by have := manyOk_len (tripOk_iff.1 (tr.ok t ht)).1; omega)
      simp only [decide_true] at hnt
      simp (disch := first | assumption | omega | (simp only [zL]; omega)) only [wEnv, wEnv2, den_row, den_up, den_jump, den_chk, den_join, den_letp, den_ite, den_ret, den_call, dens, Cell.den, At.den, Prim.den, List.cons_append, List.nil_append, padC, cellKs, CK.of, beqI, bneI, Bool.decide_eq_true, row_T hr1, Trip.e, eI, List.map_cons, List.map_nil, e6, hi, hle, hle0, decide_true, Bool.and_self, htk, e7, hnt, hyh, hyn, e3, hself, Int.reduceEq, reduceIte, zU, zT, getC]
      try rfl
  · have hu' : w.dk.up = false := by simpa using hu
    have hyw : y = w := by rw [hy]; exact begin_no (.inl hu')
    subst hyw
    exact st (by show (!y.dk.up) = true; rw [hu']; rfl) (sc e3 hself rfl rfl (sret rfl))
end
end Dx


namespace Dx
open Go Go.Proofs
def c_aw : Con := ⟨[.own false [.val] [.list] false, .own false [.val] [.list] false], [⟨false, [.val], [.bool], false⟩]⟩
theorem has_aw : Has Tryz.prog 6 c_aw φ_aw := fp (R := []) (tr := false) (E := [(15, 0, c_bc), (16, 1, c_dq), (18, 2, c_dn), (17, 3, c_dk), (19, 4, c_dj), (25, 5, c_ca), (26, 6, c_fh), (27, 7, c_dl)]) (Φ := Φ_aw) (t := t_aw) ⟨has_bc, has_dq, has_dn, has_dk, has_dj, has_ca, has_fh, has_dl, trivial⟩ Tryz.f6 hE (by kernel_rfl)
end Dx
namespace Go.Proofs.YtcgenclbnnigeabGreat.fnWorldBegin
open Go.ChangeShapes Go.WideShapes Go.ChangeAt Go.RowKit Dx
set_option linter.unusedVariables false
set_option maxRecDepth 100000

theorem own : ownKnob Tryz.prog.godebug = none := by kernel_rfl
theorem params : Tryz.f6.params = #[22, 22] := by kernel_rfl
theorem results : Tryz.f6.resultTypes = #[4] := by kernel_rfl
theorem t22 : Tryz.prog.underlying 22 = some (.slice 5) := by kernel_rfl
theorem t5 : Tryz.prog.underlying 5 = some (.int .u8) := by kernel_rfl
theorem t4 : Tryz.prog.underlying 4 = some .bool := by kernel_rfl
theorem c5 : Tryz.prog.cellsOf 5 = 1 := by kernel_rfl
theorem func : Tryz.prog.funcs[6]? = some Tryz.f6 := by kernel_rfl

theorem small {H : Type} {d : DataW H} (hk : Rows.uptoSmall H [d] = true) : Rows.uptoBulkAll [d] ≤ 1048576 := of_decide_eq_true hk
theorem bytes_bulk {H : Type} : ∀ l : List Int, l.length ≤ Rows.uptoBulkAll (Go.ChangeShapes.lits (H := H) .u8 l)
  | [] => Nat.zero_le _
  | x :: l => by
    have e : Go.ChangeShapes.lits (H := H) .u8 (x :: l) = .lit (.int .u8 x) :: Go.ChangeShapes.lits .u8 l := rfl
    have := bytes_bulk (H := H) l
    rw [e]
    simp only [Rows.uptoBulkAll, Rows.uptoBulk, List.length_cons]
    omega

theorem small2 {H : Type} {d e : DataW H} (hk : Rows.uptoSmall H [d, e] = true) : Rows.uptoBulkAll [d, e] ≤ 1048576 := of_decide_eq_true hk
theorem code_bulk {H : Type} {d : DataW H} {code : List Int} (hd : d = .nil ∧ code = [] ∨ ∃ spare, d = .slice (Go.ChangeShapes.lits .u8 code) spare) : code.length ≤ Rows.uptoBulk d := by
  rcases hd with ⟨_, rfl⟩ | ⟨spare, rfl⟩
  · exact Nat.zero_le _
  · have := bytes_bulk (H := H) code
    simp only [Rows.uptoBulk]
    omega

theorem contract (H : Type) (enc : TypeId × Value → H) (W : World) (base : Nat) (args : Array Value) (ds gs : List (DataW H)) (before : List MemPlace)
    (hval : ∀ (j : Nat) t v, Tryz.f6.params[j]? = some t → args[j]? = some v → Value.okWide Tryz.prog W .any base t v)
    (hW : DataW.Whole enc Tryz.prog Tryz.f6.params.toList Rows.fnWorldBeginSpec.vars false W args.toList ds gs before) (hk : Rows.uptoSmall H (ds ++ gs) = true) :
    Calls Tryz.prog 6 args W fun e W' => ∃ v, e = .returned v ∧ Rows.fnWorldBeginSpec.post enc Tryz.prog Tryz.f6 false true false false W args v W' := by
  have hW' := hW
  obtain ⟨p, q, hA0, hV, rfl, hfz, hnd⟩ := hW
  have hA : DataW.TrodAll enc Tryz.prog W 0 (fun _ => true) true Tryz.f6.params.toList args.toList ds p := hA0
  rw [params] at hA hval
  obtain ⟨v0, vs0, d0, ds0, p0, q0, hargs, rfl, rfl, h0, r0⟩ := trodAll_cons hA
  obtain ⟨v1, vs1, d1, ds1, p1, q1, rfl, rfl, rfl, h1, r1⟩ := trodAll_cons r0
  obtain ⟨rfl, rfl, rfl⟩ := trodAll_nil r1
  obtain rfl : args = #[v0, v1] := by cases args; simp_all
  obtain ⟨rfl, rfl⟩ := trodVars_none hV
  obtain ⟨code, hb, hrep, hd, hshut⟩ := open_code t22 t5 c5 (hval 0 22 v0 rfl rfl) h0
  obtain ⟨more, hb1, hrep1, hd1, hshut1⟩ := open_code t22 t5 c5 (hval 1 22 v1 rfl rfl) h1
  have hk := small2 hk
  simp only [Rows.uptoBulkAll] at hk
  have l0 := code_bulk hd
  have l1 := code_bulk hd1
  have hlen : code.length ≤ 1048576 := by omega
  have hlen1 : more.length ≤ 1048576 := by omega
  refine (law_calls (vs := [v0, v1]) has_aw (by simp [lawPar]) ⟨[.list (code.map cB)], [.list (more.map cB)], v0, [v1], [], [], rfl, rfl, rfl, law_par (hrep (by omega)), [.list (more.map cB)], [], v1, [], [], [], rfl, rfl, rfl, law_par (hrep1 (by omega)), rfl, rfl, rfl⟩ (law_WorldBegin (by omega) hb)).mono ?_
  rintro e W' ⟨rfl, g1, g2, g3⟩
  refine ⟨_, rfl, [d0, d1], [], p0 ++ p1, [], p0 ++ p1, [], by simpa using hW', trodAll_cons_mk (shut_bool t4 _) trodAll_mk0, ?_, rfl, kept_of g1 g2 g3 _, fun h => by cases h⟩
  rw [params]
  have := trodAll_cons_mk (hshut W' g3) (trodAll_cons_mk (hshut1 W' g3) (trodAll_mk0 (enc := enc) (P := Tryz.prog) (w := W') (base := 0) (spare := fun b => decide (b < W.heap.size)) (held := true)))
  rw [List.append_nil] at this
  exact this

set_option maxRecDepth 100000 in
theorem lifted (os : Os) (started : os.Started) (H : Type) (enc : TypeId × Value → H) (F : Stop.Interp) :
    ReturnsInHanded {} Tryz.checked os 6 .any ((Rows.OpenSpec.upto Rows.fnWorldBeginSpec).pre6 enc Tryz.prog Tryz.f6 Rows.fnWorldBeginUptoRow.domain false) (((Rows.OpenSpec.upto Rows.fnWorldBeginSpec).at F).post enc Tryz.prog Tryz.f6 false true false false) := by
  refine returnsInHanded_of_cond (C := Tryz.checked) (s := Rows.OpenSpec.upto Rows.fnWorldBeginSpec) (k := Rows.uptoSmall) rfl own started (by kernel_rfl) func
    (OpenSpec.witness (enc := enc) (C := Tryz.checked) (s := Rows.OpenSpec.upto Rows.fnWorldBeginSpec) (k := Rows.uptoSmall) rfl false ⟨#[], #[.slice none 0 0, .slice none 0 0], []⟩ 8 (by kernel_rfl) (by kernel_rfl) (by kernel_rfl)
      (x := ([.nil, .nil], [], [])) (by kernel_rfl) rfl (by kernel_rfl)) ?_
  intro W base args ds gs before hval hW _ hk _
  exact contract H enc W base args ds gs before hval hW hk

theorem proved : Rows.FnWorldBeginUptoSaid :=
  OpenClaim.holds_of_cond 6 Tryz.f6 rfl rfl rfl rfl rfl rfl rfl ⟨rfl, rfl, rfl, rfl, rfl⟩ rfl rfl rfl rfl rfl (by kernel_rfl) func (by kernel_rfl)
    (of_decide_eq_true (by kernel_rfl)) (by unfold Func.isWrapper; first | (rw [if_pos (by decide +kernel)]; kernel_rfl) | (rw [if_neg (by decide +kernel)]; exact ⟨rfl, rfl⟩))
    (fun os started H enc _ F => lifted os started H enc F)
#print axioms proved
end Go.Proofs.YtcgenclbnnigeabGreat.fnWorldBegin
