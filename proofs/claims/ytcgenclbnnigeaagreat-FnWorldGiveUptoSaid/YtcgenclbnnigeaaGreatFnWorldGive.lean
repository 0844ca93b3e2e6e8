/- PROVED: Rows.FnWorldGiveUptoSaid: whatever the input of bulk at most 1048576, laws.FnWorldGive returns true, and its arguments read as they did. No condition beyond the statement's own. -/
import Derived.Test.YtcgenclbnnigeaaGreatZb
import Derived.Test.YtcgenclbnnigeaaGreatHa
import Derived.Test.YtcgenclbnnigeaaGreatJa
import Derived.Test.YtcgenclbnnigeaaGreatRows
set_option linter.all false
set_option linter.unusedVariables false
set_option linter.unusedSimpArgs false
set_option linter.unnecessarySimpa false
namespace Dx
open Go Go.Proofs
def t_bm : Tree :=
 worldHead2 <|
.call 4 [⟨.bool, (.v 8)⟩, ⟨.list, (.v 9)⟩, ⟨(.int .i64), (.v 10)⟩, ⟨.list, (.v 11)⟩, ⟨.bool, (.b false)⟩] [.list] <|
.letp .len [⟨.list, (.v 26)⟩] <|
.letp .eqI [⟨(.int .i64), (.v 27)⟩, ⟨(.int .i64), (.n 0)⟩] <|
.ite (.v 28) (
 .ret [⟨.bool, (.b true)⟩]) <|
.letp .not [⟨.bool, (.v 8)⟩] <|
.ite (.v 29) (
 .ret [⟨.bool, (.b true)⟩]) <|
.letp .len [⟨.list, (.v 1)⟩] <|
.letp .len [⟨.list, (.v 26)⟩] <|
.chk .nz [⟨(.int .i64), (.v 31)⟩] <|
.letp (.rem .i64) [⟨(.int .i64), (.v 30)⟩, ⟨(.int .i64), (.v 31)⟩] <|
.letp (.add .i64) [⟨(.int .i64), (.n 1)⟩, ⟨(.int .i64), (.v 32)⟩] <|
.call 5 [⟨.bool, (.v 8)⟩, ⟨.list, (.v 9)⟩, ⟨(.int .i64), (.v 10)⟩, ⟨.list, (.v 11)⟩, ⟨.list, (.v 12)⟩, ⟨.list, (.v 13)⟩, ⟨(.int .i64), (.n 2)⟩, ⟨(.int .i64), (.v 33)⟩, ⟨(.int .i64), (.n 0)⟩, ⟨.list, .e⟩] [.bool, .list, (.int .i64), .list, .list, .list] <|
.letp (.sub .i64) [⟨(.int .i64), (.v 33)⟩, ⟨(.int .i64), (.n 1)⟩] <|
.row (.v 26) (.v 40) [.list, (.int .i64)] <|
.letp .neI [⟨(.int .i64), (.v 42)⟩, ⟨(.int .i64), (.n 1)⟩] <|
.ite (.v 43) (
 .call 3 [⟨.bool, (.v 34)⟩, ⟨.list, (.v 35)⟩, ⟨(.int .i64), (.v 36)⟩, ⟨.list, (.v 37)⟩, ⟨.list, (.v 38)⟩, ⟨.list, (.v 39)⟩, ⟨.bool, (.v 8)⟩, ⟨.list, (.v 9)⟩, ⟨(.int .i64), (.v 10)⟩, ⟨.list, (.v 11)⟩, ⟨.list, (.v 12)⟩, ⟨.list, (.v 13)⟩] [.bool] <|
 .ret [⟨.bool, (.v 44)⟩]) <|
.call 6 [⟨.bool, (.v 34)⟩, ⟨.list, (.v 35)⟩, ⟨(.int .i64), (.v 36)⟩, ⟨.list, (.v 37)⟩, ⟨.list, (.v 38)⟩, ⟨.list, (.v 39)⟩, ⟨(.int .i64), (.n 9)⟩] [.bool, .list, (.int .i64), .list, .list, .list] <|
.call 7 [⟨.bool, (.v 44)⟩, ⟨.list, (.v 45)⟩, ⟨(.int .i64), (.v 46)⟩, ⟨.list, (.v 47)⟩, ⟨.list, (.v 48)⟩, ⟨.list, (.v 49)⟩, ⟨(.int .i64), (.v 33)⟩] [.list] <|
.iter [⟨(.int .i64), (.n 0)⟩] <|
.letp .len [⟨.list, (.v 50)⟩] <|
.letp .ltI [⟨(.int .i64), (.v 51)⟩, ⟨(.int .i64), (.v 52)⟩] <|
.ite (.v 53) (
 .letp (.sub .i64) [⟨(.int .i64), (.v 33)⟩, ⟨(.int .i64), (.n 1)⟩] <|
 .row (.v 26) (.v 54) [.list, (.int .i64)] <|
 .row (.v 55) (.v 51) [(.int .i64)] <|
 .letp .gtI [⟨(.int .i64), (.v 57)⟩, ⟨(.int .i64), (.n 0)⟩] <|
 .ite (.v 58) (
 .row (.v 50) (.v 51) [(.int .i64), (.int .i64)] <|
 .letp .neI [⟨(.int .i64), (.v 60)⟩, ⟨(.int .i64), (.n 3)⟩] <|
 .ite (.v 61) (
 .up <|
 .ret [⟨.bool, (.b false)⟩]) <|
 .letp (.add .i64) [⟨(.int .i64), (.v 51)⟩, ⟨(.int .i64), (.n 1)⟩] <|
 .jump [⟨(.int .i64), (.v 62)⟩]) <|
 .letp (.add .i64) [⟨(.int .i64), (.v 51)⟩, ⟨(.int .i64), (.n 1)⟩] <|
 .jump [⟨(.int .i64), (.v 59)⟩]) <|
.up <|
.call 4 [⟨.bool, (.v 44)⟩, ⟨.list, (.v 45)⟩, ⟨(.int .i64), (.v 46)⟩, ⟨.list, (.v 47)⟩, ⟨.bool, (.b true)⟩] [.list] <|
.letp (.sub .i64) [⟨(.int .i64), (.v 33)⟩, ⟨(.int .i64), (.n 1)⟩] <|
.row (.v 54) (.v 55) [.list, (.int .i64)] <|
.letp .eqI [⟨(.int .i64), (.v 57)⟩, ⟨(.int .i64), (.n 5)⟩] <|
.ret [⟨.bool, (.v 58)⟩]
noncomputable def Φ_bm : Phi := fun n => match n with
  | 0 => φ_ax
  | 1 => φ_cg
  | 2 => φ_cm
  | 3 => φ_ev
  | 4 => φ_cs
  | 5 => φ_ew
  | 6 => φ_cu
  | 7 => φ_cb
  | _ => fun _ => none
noncomputable def φ_bm (cs : List C) : Option (List C) := retOf (den Φ_bm t_bm cs)
end Dx
/- A law, as it is drawn: what is given up in time is left. -/
namespace Dx
open Go
section
variable {code more : List Int}
theorem law_WorldGive (hl : code.length ≤ 1099511627776) (hc : Bytes code) : φ_bm [.list (code.map eB), .list (more.map eB)] = some [.bool true] := by
  unfold φ_bm t_bm
  refine worldHead2_den rfl rfl rfl rfl hl hc fun rooms es w hm hw hr hel hes => ?_
  obtain ⟨ow, I⟩ := inv_play hw
  have e3 : Φ_bm 3 = φ_ev := rfl
  have e4 : Φ_bm 4 = φ_cs := rfl
  have e5 : Φ_bm 5 = φ_ew := rfl
  have e6 : Φ_bm 6 = φ_cu := rfl
  have e7 : Φ_bm 7 = φ_cb := rfl
  have hdS : DkS ⟨w.dk.up, ⟨w.dk.lg.rs, w.dk.lg.f⟩, w.dk.td⟩ := ow.dk.S
  have hdo : deskOk ⟨w.dk.up, ⟨w.dk.lg.rs, w.dk.lg.f⟩, w.dk.td⟩ = true := deskOk_iff.2 ow.dk
  have tr : TrOk (ltrips w.dk.lg false) := ow.dk.trOk false
  have tr6 := tr.len
  by_cases h0 : (ltrips w.dk.lg false).length = 0
  · simp (disch := first | assumption | omega | (simp only [List.length_append, List.length_map, List.length_cons, List.length_nil]; omega)) only [wEnv, wEnv2, den_row, den_up, den_jump, den_chk, den_join, den_letp, den_ite, den_ret, den_call, dens, Cell.den, At.den, Prim.den, List.cons_append, List.nil_append, padC, cellKs, CK.of, beqI, bneI, Bool.decide_eq_true, e4, i_DeskTrips hdS, hdo, h0, Int.natCast_zero, if_true, decide_true, Int.reduceEq, reduceIte, zU, zT, getC, Bool.and_true, List.length_map, List.length_nil, List.length_cons, List.nil_append]
    try rfl
  have h0' : ¬ (((ltrips w.dk.lg false).length : Int) = 0) := by omega
  by_cases hu : w.dk.up = true
  · have hu' : (!w.dk.up) = false := by rw [hu]; rfl
    have hlt := Nat.mod_lt more.length (show 0 < (ltrips w.dk.lg false).length by omega)
    have hmod : Int.tmod ((more.length : Nat) : Int) ((ltrips w.dk.lg false).length : Nat) = ((more.length % (ltrips w.dk.lg false).length : Nat) : Int) := rfl
    generalize hk : more.length % (ltrips w.dk.lg false).length = k at hlt hmod
    have hw1 : IntKind.wrap .i64 (1 + (k : Int)) = ((k + 1 : Nat) : Int) := by rw [wrap64 (by omega) (by omega)]; omega
    have hw2 : IntKind.wrap .i64 (((k + 1 : Nat) : Int) - 1) = ((k + 1 : Nat) : Int) - 1 := wrap64 (by omega) (by omega)
    have ht : isT ((k + 1 : Nat) : Int) := ⟨by omega, by omega⟩
    have ht1 : (1 : Int) ≤ ((k + 1 : Nat) : Int) := by omega
    have htl : ((k + 1 : Nat) : Int) ≤ ((ltrips w.dk.lg false).length : Nat) := by omega
    have d1 := i_WorldDo ow (e := ⟨2, ((k + 1 : Nat) : Int), 0, []⟩) (by simp)
    simp only [List.map_nil] at d1
    by_cases hs : (tAt (ltrips w.dk.lg false) ((k + 1 : Nat) : Int)).s = 1
    · have hsA : (tAt (vw w).A ((k + 1 : Nat) : Int)).s = 1 := hs
      obtain ⟨g1, g2, g3⟩ := give_yes ow I ht hu hsA
      have ox := ow.do_ ⟨2, ((k + 1 : Nat) : Int), 0, []⟩
      have Ix := inv_wdo ow I ⟨2, ((k + 1 : Nat) : Int), 0, []⟩
      generalize wdo w ⟨2, ((k + 1 : Nat) : Int), 0, []⟩ = x at *
      have c1 : _ = some (wcalm x 9).e := i_WorldCalm ox (r := 9) (by omega)
      obtain ⟨hlen, hout⟩ := calm_out ox Ix
      have f := calm_fin ox Ix
      generalize wcalm x 9 = y at *
      have oy := f.ok
      have hAl : (vw w).A.length = (ltrips w.dk.lg false).length := rfl
      have hFl : (vw y).F.length = (ltrips y.dk.lg true).length := rfl
      have ho := hout ((k + 1 : Nat) : Int) ht1 (by rw [g3]; exact htl)
      have hsy : (tAt (ltrips y.dk.lg true) ((k + 1 : Nat) : Int)).s = 5 := ho.2.1 g1
      have hmy : (tAt (vw y).F ((k + 1 : Nat) : Int)).m = (tAt (ltrips w.dk.lg false) ((k + 1 : Nat) : Int)).m := ho.2.2.2.trans g2
      have hho := i_WorldHolds oy (t := ((k + 1 : Nat) : Int)) ht
      have hdS' : DkS ⟨y.dk.up, ⟨y.dk.lg.rs, y.dk.lg.f⟩, y.dk.td⟩ := oy.dk.S
      have hdo' : deskOk ⟨y.dk.up, ⟨y.dk.lg.rs, y.dk.lg.f⟩, y.dk.td⟩ = true := deskOk_iff.2 oy.dk
      have hto := tripOk_iff.1 (tr.ok _ (tAt_mem (l := ltrips w.dk.lg false) (t := ((k + 1 : Nat) : Int)) (by omega)))
      have hm3 := manyOk_len hto.1
      have htly : ((k + 1 : Nat) : Int) ≤ ((ltrips y.dk.lg true).length : Nat) := by omega
      simp only [Wd.e] at c1 d1
      simp (disch := first | assumption | omega | (simp only [List.length_append, List.length_map, List.length_cons, List.length_nil]; omega)) only [wEnv, wEnv2, den_row, den_up, den_jump, den_chk, den_join, den_letp, den_ite, den_ret, den_call, dens, Cell.den, At.den, Prim.den, List.cons_append, List.nil_append, padC, cellKs, CK.of, beqI, bneI, Bool.decide_eq_true, e4, i_DeskTrips hdS, hdo, h0', hu', hmod, hk, hw1, e5, d1, hw2, rowT ht1 htl, Trip.e, hs, if_true, if_false, e6, c1, e7, hho, decide_true, decide_false, Bool.not_false, Int.reduceEq, reduceIte, zU, zT, getC, Bool.and_true, List.length_map, List.length_nil, List.length_cons, List.nil_append]
      rw [den_iter]
      simp only [dens, Cell.den, At.den, C.toInt_int]
      have hh3 : (holdsOf y ((k + 1 : Nat) : Int)).length = 3 := by unfold holdsOf; rw [List.length_map, oy.len]
      rw [loopAll (l := holdsOf y ((k + 1 : Nat) : Int)) (o := .ret [.bool true])]
      · rfl
      · intro h z hz
        have hh := (List.getElem?_eq_some_iff.1 hz).1
        have hh' : (h : Int) < ((holdsOf y ((k + 1 : Nat) : Int)).length : Nat) := by omega
        have hlt : h < 3 := by omega
        have hzA : z = (vw y).hA ((h + 1 : Nat) : Int) ((k + 1 : Nat) : Int) := by
          have := holds_at oy hlt ((k + 1 : Nat) : Int)
          rw [hz] at this
          simpa using this
        have hH : isH ((h + 1 : Nat) : Int) := ⟨by omega, by omega⟩
        have hhd := f.hold hH ht
        rw [← hzA] at hhd
        have hwant : (vw y).want ((k + 1 : Nat) : Int) ((h + 1 : Nat) : Int) = mAt (tAt (ltrips w.dk.lg false) ((k + 1 : Nat) : Int)).m ((h + 1 : Nat) : Int) := by unfold V.want; rw [hmy]
        have hsF : (vw y).sF ((k + 1 : Nat) : Int) = 5 := hsy
        rw [hwant, hsF] at hhd
        by_cases hp : mAt (tAt (ltrips w.dk.lg false) ((k + 1 : Nat) : Int)).m ((h + 1 : Nat) : Int) > 0
        · have hz3 : z.s = 3 := by omega
          simp (disch := first | assumption | omega | (simp only [List.length_append, List.length_map, List.length_cons, List.length_nil]; omega)) only [wEnv, wEnv2, den_row, den_up, den_jump, den_chk, den_join, den_letp, den_ite, den_ret, den_call, dens, Cell.den, At.den, Prim.den, List.cons_append, List.nil_append, padC, cellKs, CK.of, beqI, bneI, Bool.decide_eq_true, row_H hz, Hold.e, hh', hw2, rowT ht1 htl, Trip.e, rowN hm3 hlt, eI, hp, hz3, if_true, wrap_nat, Int.reduceEq, reduceIte, zU, zT, getC, Bool.and_true, List.length_map, List.length_nil, List.length_cons, List.nil_append]
          try rfl
        · simp (disch := first | assumption | omega | (simp only [List.length_append, List.length_map, List.length_cons, List.length_nil]; omega)) only [wEnv, wEnv2, den_row, den_up, den_jump, den_chk, den_join, den_letp, den_ite, den_ret, den_call, dens, Cell.den, At.den, Prim.den, List.cons_append, List.nil_append, padC, cellKs, CK.of, beqI, bneI, Bool.decide_eq_true, row_H hz, Hold.e, hh', hw2, rowT ht1 htl, Trip.e, rowN hm3 hlt, eI, hp, if_true, if_false, wrap_nat, Int.reduceEq, reduceIte, zU, zT, getC, Bool.and_true, List.length_map, List.length_nil, List.length_cons, List.nil_append]
          try rfl
      · have h : ¬ (((holdsOf y ((k + 1 : Nat) : Int)).length : Int) < ((holdsOf y ((k + 1 : Nat) : Int)).length : Nat)) := by omega
        simp (disch := first | assumption | omega | (simp only [List.length_append, List.length_map, List.length_cons, List.length_nil]; omega)) only [wEnv, wEnv2, den_row, den_up, den_jump, den_chk, den_join, den_letp, den_ite, den_ret, den_call, dens, Cell.den, At.den, Prim.den, List.cons_append, List.nil_append, padC, cellKs, CK.of, beqI, bneI, Bool.decide_eq_true, h, if_false, e4, i_DeskTrips hdS', hdo', hw2, rowT ht1 htly, Trip.e, hsy, if_true, decide_true, Int.reduceEq, reduceIte, zU, zT, getC, Bool.and_true, List.length_map, List.length_nil, List.length_cons, List.nil_append]
        try rfl
    · have hx := give_not ow ht (t := ((k + 1 : Nat) : Int)) hs
      rw [hx] at d1
      have hn := ow.n (w' := w)
      simp only [Wd.e] at d1
      simp (disch := first | assumption | omega | (simp only [List.length_append, List.length_map, List.length_cons, List.length_nil]; omega)) only [wEnv, wEnv2, den_row, den_up, den_jump, den_chk, den_join, den_letp, den_ite, den_ret, den_call, dens, Cell.den, At.den, Prim.den, List.cons_append, List.nil_append, padC, cellKs, CK.of, beqI, bneI, Bool.decide_eq_true, e4, i_DeskTrips hdS, hdo, h0', hu', hmod, hk, hw1, e5, d1, hw2, rowT ht1 htl, Trip.e, hs, e3, hn, if_true, if_false, decide_true, decide_false, Bool.not_false, Int.reduceEq, reduceIte, zU, zT, getC, Bool.and_true, List.length_map, List.length_nil, List.length_cons, List.nil_append]
      try rfl
  · have hu' : w.dk.up = false := by simpa using hu
    rw [hu'] at hdS hdo
    simp (disch := first | assumption | omega | (simp only [List.length_append, List.length_map, List.length_cons, List.length_nil]; omega)) only [wEnv, wEnv2, den_row, den_up, den_jump, den_chk, den_join, den_letp, den_ite, den_ret, den_call, dens, Cell.den, At.den, Prim.den, List.cons_append, List.nil_append, padC, cellKs, CK.of, beqI, bneI, Bool.decide_eq_true, e4, i_DeskTrips hdS, hdo, h0', hu', if_true, if_false, Bool.not_false, Int.reduceEq, reduceIte, zU, zT, getC, Bool.and_true, List.length_map, List.length_nil, List.length_cons, List.nil_append]
    try rfl
end
end Dx


namespace Dx
open Go Go.Proofs
def c_bm : Con := ⟨[.own false [.val] [.list] false, .own false [.val] [.list] false], [⟨false, [.val], [.bool], false⟩]⟩
def h_bm : How := ⟨getH [(0, ⟨[kI], [(4, (.bool (.b false))), (16, (sI 0))], [], [], 0⟩)],
  getH [],
  getH []⟩
theorem has_bm : Has Tryz.prog 7 c_bm φ_bm := fp (R := []) (tr := false) (E := [(21, 0, c_ax), (22, 1, c_cg), (23, 2, c_cm), (17, 3, c_ev), (24, 4, c_cs), (28, 5, c_ew), (16, 6, c_cu), (29, 7, c_cb)]) (Φ := Φ_bm) (t := t_bm) ⟨has_ax, has_cg, has_cm, has_ev, has_cs, has_ew, has_cu, has_cb, trivial⟩ Tryz.f7 h_bm (by kernel_rfl)
end Dx
namespace Go.Proofs.YtcgenclbnnigeaaGreat.fnWorldGive
open Go.ChangeShapes Go.WideShapes Go.ChangeAt Go.RowKit Dx
set_option linter.unusedVariables false
set_option maxRecDepth 100000

theorem own : ownKnob Tryz.prog.godebug = none := by kernel_rfl
theorem params : Tryz.f7.params = #[22, 22] := by kernel_rfl
theorem results : Tryz.f7.resultTypes = #[4] := by kernel_rfl
theorem t22 : Tryz.prog.underlying 22 = some (.slice 5) := by kernel_rfl
theorem t5 : Tryz.prog.underlying 5 = some (.int .u8) := by kernel_rfl
theorem t4 : Tryz.prog.underlying 4 = some .bool := by kernel_rfl
theorem c5 : Tryz.prog.cellsOf 5 = 1 := by kernel_rfl
theorem func : Tryz.prog.funcs[7]? = some Tryz.f7 := by kernel_rfl

theorem small {H : Type} {d : DataW H} (hk : Rows.uptoSmall H [d] = true) : Rows.uptoBulkAll [d] ≤ 1048576 := of_decide_eq_true hk
theorem bytes_bulk {H : Type} : ∀ l : List Int, l.length ≤ Rows.uptoBulkAll (Go.ChangeShapes.lits (H := H) .u8 l)
  | [] => Nat.zero_le _
  | x :: l => by
    have e : Go.ChangeShapes.lits (H := H) .u8 (x :: l) = .lit (.int .u8 x) :: Go.ChangeShapes.lits .u8 l := rfl
    have := bytes_bulk (H := H) l
    rw [e]
    simp only [Rows.uptoBulkAll, Rows.uptoBulk, List.length_cons]
    omega

theorem small2 {H : Type} {d e : DataW H} (hk : Rows.uptoSmall H [d, e] = true) : Rows.uptoBulkAll [d, e] ≤ 1048576 := of_decide_eq_true hk
theorem code_bulk {H : Type} {d : DataW H} {code : List Int} (hd : d = .nil ∧ code = [] ∨ ∃ spare, d = .slice (Go.ChangeShapes.lits .u8 code) spare) : code.length ≤ Rows.uptoBulk d := by
  rcases hd with ⟨_, rfl⟩ | ⟨spare, rfl⟩
  · exact Nat.zero_le _
  · have := bytes_bulk (H := H) code
    simp only [Rows.uptoBulk]
    omega

theorem contract (H : Type) (enc : TypeId × Value → H) (W : World) (base : Nat) (args : Array Value) (ds gs : List (DataW H)) (before : List MemPlace)
    (hval : ∀ (j : Nat) t v, Tryz.f7.params[j]? = some t → args[j]? = some v → Value.okWide Tryz.prog W .any base t v)
    (hW : DataW.Whole enc Tryz.prog Tryz.f7.params.toList Rows.fnWorldGiveSpec.vars false W args.toList ds gs before) (hk : Rows.uptoSmall H (ds ++ gs) = true) :
    Calls Tryz.prog 7 args W fun e W' => ∃ v, e = .returned v ∧ Rows.fnWorldGiveSpec.post enc Tryz.prog Tryz.f7 false true false false W args v W' := by
  have hW' := hW
  obtain ⟨p, q, hA0, hV, rfl, hfz, hnd⟩ := hW
  have hA : DataW.TrodAll enc Tryz.prog W 0 (fun _ => true) true Tryz.f7.params.toList args.toList ds p := hA0
  rw [params] at hA hval
  obtain ⟨v0, vs0, d0, ds0, p0, q0, hargs, rfl, rfl, h0, r0⟩ := trodAll_cons hA
  obtain ⟨v1, vs1, d1, ds1, p1, q1, rfl, rfl, rfl, h1, r1⟩ := trodAll_cons r0
  obtain ⟨rfl, rfl, rfl⟩ := trodAll_nil r1
  obtain rfl : args = #[v0, v1] := by cases args; simp_all
  obtain ⟨rfl, rfl⟩ := trodVars_none hV
  obtain ⟨code, hb, hrep, hd, hshut⟩ := open_code t22 t5 c5 (hval 0 22 v0 rfl rfl) h0
  obtain ⟨more, hb1, hrep1, hd1, hshut1⟩ := open_code t22 t5 c5 (hval 1 22 v1 rfl rfl) h1
  have hk := small2 hk
  simp only [Rows.uptoBulkAll] at hk
  have l0 := code_bulk hd
  have l1 := code_bulk hd1
  have hlen : code.length ≤ 1048576 := by omega
  have hlen1 : more.length ≤ 1048576 := by omega
  refine (law_calls (vs := [v0, v1]) has_bm (by simp [lawPar]) ⟨[.list (code.map cB)], [.list (more.map cB)], v0, [v1], [], [], rfl, rfl, rfl, law_par (hrep (by omega)), [.list (more.map cB)], [], v1, [], [], [], rfl, rfl, rfl, law_par (hrep1 (by omega)), rfl, rfl, rfl⟩ (law_WorldGive (by omega) hb)).mono ?_
  rintro e W' ⟨rfl, g1, g2, g3⟩
  refine ⟨_, rfl, [d0, d1], [], p0 ++ p1, [], p0 ++ p1, [], by simpa using hW', trodAll_cons_mk (shut_bool t4 _) trodAll_mk0, ?_, rfl, kept_of g1 g2 g3 _, fun h => by cases h⟩
  rw [params]
  have := trodAll_cons_mk (hshut W' g3) (trodAll_cons_mk (hshut1 W' g3) (trodAll_mk0 (enc := enc) (P := Tryz.prog) (w := W') (base := 0) (spare := fun b => decide (b < W.heap.size)) (held := true)))
  rw [List.append_nil] at this
  exact this

set_option maxRecDepth 100000 in
theorem lifted (os : Os) (started : os.Started) (H : Type) (enc : TypeId × Value → H) (F : Stop.Interp) :
    ReturnsInHanded {} Tryz.checked os 7 .any ((Rows.OpenSpec.upto Rows.fnWorldGiveSpec).pre6 enc Tryz.prog Tryz.f7 Rows.fnWorldGiveUptoRow.domain false) (((Rows.OpenSpec.upto Rows.fnWorldGiveSpec).at F).post enc Tryz.prog Tryz.f7 false true false false) := by
  refine returnsInHanded_of_cond (C := Tryz.checked) (s := Rows.OpenSpec.upto Rows.fnWorldGiveSpec) (k := Rows.uptoSmall) rfl own started (by kernel_rfl) func
    (OpenSpec.witness (enc := enc) (C := Tryz.checked) (s := Rows.OpenSpec.upto Rows.fnWorldGiveSpec) (k := Rows.uptoSmall) rfl false ⟨#[], #[.slice none 0 0, .slice none 0 0], []⟩ 8 (by kernel_rfl) (by kernel_rfl) (by kernel_rfl)
      (x := ([.nil, .nil], [], [])) (by kernel_rfl) rfl (by kernel_rfl)) ?_
  intro W base args ds gs before hval hW _ hk _
  exact contract H enc W base args ds gs before hval hW hk

theorem proved : Rows.FnWorldGiveUptoSaid :=
  OpenClaim.holds_of_cond 7 Tryz.f7 rfl rfl rfl rfl rfl rfl rfl ⟨rfl, rfl, rfl, rfl, rfl⟩ rfl rfl rfl rfl rfl (by kernel_rfl) func (by kernel_rfl)
    (of_decide_eq_true (by kernel_rfl)) (by unfold Func.isWrapper; first | (rw [if_pos (by decide +kernel)]; kernel_rfl) | (rw [if_neg (by decide +kernel)]; exact ⟨rfl, rfl⟩))
    (fun os started H enc _ F => lifted os started H enc F)
#print axioms proved
end Go.Proofs.YtcgenclbnnigeaaGreat.fnWorldGive
