/- PROVED: Rows.FnWorldFreeUptoSaid: whatever the input of bulk at most 1048576, laws.FnWorldFree returns true, and its arguments read as they did. No condition beyond the statement's own. -/
import Derived.Test.YtcgenclbnnigeaaGreatZb
import Derived.Test.YtcgenclbnnigeaaGreatHa
import Derived.Test.YtcgenclbnnigeaaGreatJa
import Derived.Test.YtcgenclbnnigeaaGreatRows
set_option linter.all false
set_option linter.unusedVariables false
set_option linter.unusedSimpArgs false
set_option linter.unnecessarySimpa false
namespace Dx
open Go Go.Proofs
def t_be : Tree :=
 worldHead <|
.call 4 [⟨.bool, (.v 5)⟩, ⟨.list, (.v 6)⟩, ⟨(.int .i64), (.v 7)⟩, ⟨.list, (.v 8)⟩, ⟨.list, (.v 9)⟩, ⟨.list, (.v 10)⟩, ⟨(.int .i64), (.n 9)⟩] [.bool, .list, (.int .i64), .list, .list, .list] <|
.call 5 [⟨.bool, (.v 23)⟩, ⟨.list, (.v 24)⟩, ⟨(.int .i64), (.v 25)⟩, ⟨.list, (.v 26)⟩, ⟨.bool, (.b true)⟩] [.list] <|
.iter [⟨(.int .i64), (.n 0)⟩] <|
.letp .ltI [⟨(.int .i64), (.v 30)⟩, ⟨(.int .i64), (.n 3)⟩] <|
.ite (.v 31) (
 .row (.v 27) (.v 30) [(.int .i64), .bool, (.int .i64), .list, (.int .i64)] <|
 .call 6 [⟨(.int .i64), (.v 32)⟩, ⟨.bool, (.v 33)⟩, ⟨(.int .i64), (.v 34)⟩, ⟨.list, (.v 35)⟩, ⟨(.int .i64), (.v 36)⟩, ⟨.bool, (.b true)⟩] [(.int .i64), .list] <|
 .call 7 [⟨(.int .i64), (.v 37)⟩, ⟨.list, (.v 38)⟩] [(.int .i64)] <|
 .iter [⟨(.int .i64), (.v 39)⟩, ⟨(.int .i64), (.n 0)⟩] <|
 .letp .len [⟨.list, (.v 29)⟩] <|
 .letp .ltI [⟨(.int .i64), (.v 41)⟩, ⟨(.int .i64), (.v 42)⟩] <|
 .ite (.v 43) (
 .row (.v 29) (.v 41) [.list, (.int .i64)] <|
 .letp .eqI [⟨(.int .i64), (.v 45)⟩, ⟨(.int .i64), (.n 4)⟩] <|
 .ite (.v 46) (
 .row (.v 29) (.v 41) [.list, (.int .i64)] <|
 .row (.v 47) (.v 30) [(.int .i64)] <|
 .letp (.add .i64) [⟨(.int .i64), (.v 40)⟩, ⟨(.int .i64), (.v 49)⟩] <|
 .letp (.add .i64) [⟨(.int .i64), (.v 41)⟩, ⟨(.int .i64), (.n 1)⟩] <|
 .jump [⟨(.int .i64), (.v 50)⟩, ⟨(.int .i64), (.v 51)⟩]) <|
 .letp (.add .i64) [⟨(.int .i64), (.v 41)⟩, ⟨(.int .i64), (.n 1)⟩] <|
 .jump [⟨(.int .i64), (.v 40)⟩, ⟨(.int .i64), (.v 47)⟩]) <|
 .up <|
 .row (.v 3) (.v 30) [(.int .i64)] <|
 .letp .neI [⟨(.int .i64), (.v 40)⟩, ⟨(.int .i64), (.v 44)⟩] <|
 .ite (.v 45) (
 .up <|
 .ret [⟨.bool, (.b false)⟩]) <|
 .letp (.add .i64) [⟨(.int .i64), (.v 30)⟩, ⟨(.int .i64), (.n 1)⟩] <|
 .jump [⟨(.int .i64), (.v 46)⟩]) <|
.up <|
.ret [⟨.bool, (.b true)⟩]
noncomputable def Φ_be : Phi := fun n => match n with
  | 0 => φ_ax
  | 1 => φ_cg
  | 2 => φ_cm
  | 3 => φ_ev
  | 4 => φ_cu
  | 5 => φ_cs
  | 6 => φ_by
  | 7 => φ_db
  | _ => fun _ => none
noncomputable def φ_be (cs : List C) : Option (List C) := retOf (den Φ_be t_be cs)
end Dx
/- A law, as it is drawn: in a calm nothing is held for nobody. -/
namespace Dx
open Go
section
variable {code more : List Int}
theorem law_WorldFree (hl : code.length ≤ 1099511627776) (hc : Bytes code) : φ_be [.list (code.map eB)] = some [.bool true] := by
  unfold φ_be t_be
  refine worldHead_den rfl rfl rfl rfl hl hc fun rooms es w hw hr hel hes => ?_
  obtain ⟨ow, I⟩ := inv_play hw
  have e4 : Φ_be 4 = φ_cu := rfl
  have e5 : Φ_be 5 = φ_cs := rfl
  have e6 : Φ_be 6 = φ_by := rfl
  have e7 : Φ_be 7 = φ_db := rfl
  have f := calm_fin ow I
  have hrm := (calm_A ow I 9).2.2
  rw [show wrooms w = rooms from play_rooms hw] at hrm
  have c1 : _ = some (wcalm w 9).e := i_WorldCalm ow (r := 9) (by omega)
  generalize wcalm w 9 = x at *
  have ox := f.ok
  have hdS : DkS ⟨x.dk.up, ⟨x.dk.lg.rs, x.dk.lg.f⟩, x.dk.td⟩ := ox.dk.S
  have hdo : deskOk ⟨x.dk.up, ⟨x.dk.lg.rs, x.dk.lg.f⟩, x.dk.td⟩ = true := deskOk_iff.2 ox.dk
  have tr : TrOk (ltrips x.dk.lg true) := ox.dk.trOk true
  have tr6 := tr.len
  have h3 := ox.len
  simp only [Wd.e] at c1
  simp (disch := first | assumption | omega | (simp only [List.length_append, List.length_map, List.length_cons, List.length_nil]; omega)) only [wEnv, wEnv2, den_row, den_up, den_jump, den_chk, den_join, den_letp, den_ite, den_ret, den_call, dens, Cell.den, At.den, Prim.den, List.cons_append, List.nil_append, padC, cellKs, CK.of, beqI, bneI, Bool.decide_eq_true, e4, c1, e5, i_DeskTrips hdS, hdo, if_true, Int.reduceEq, reduceIte, zU, zT, getC, Bool.and_true, List.length_map, List.length_nil, List.length_cons, List.nil_append]
  rw [den_iter]
  simp only [dens, Cell.den, At.den, C.toInt_int]
  rw [loopAll (l := x.hs) (o := .ret [.bool true])]
  · rfl
  · intro h y hy
    have hi := (List.getElem?_eq_some_iff.1 hy).1
    have hi' : (h : Int) < 3 := by omega
    obtain ⟨c1, c2, c3⟩ := ox.cells hy
    have oh := houseOk_iff.1 c2
    have hs := oh.stOk true
    have hs' : StOk ⟨(hstock ⟨y.id, y.up, y.room, ⟨y.lg.rs, y.lg.f⟩⟩ true).room, (hstock ⟨y.id, y.up, y.room, ⟨y.lg.rs, y.lg.f⟩⟩ true).hs⟩ := hs
    have hri : rooms[h]? = some y.room := by rw [← hrm, wrooms, List.getElem?_map, hy]; rfl
    have hH : isH ((h + 1 : Nat) : Int) := ⟨by omega, by omega⟩
    have hyh : houseAt x ((h + 1 : Nat) : Int) = y := by
      have e : (((h + 1 : Nat) : Int) - 1).toNat = h := by omega
      unfold houseAt; rw [e, hy]; rfl
    have hfree := f.free hH
    rw [hyh] at hfree
    have hroom : 0 ≤ y.room ∧ y.room ≤ 9 := by
      have := hs.room
      rw [show (hstock ⟨y.id, y.up, y.room, ⟨y.lg.rs, y.lg.f⟩⟩ true).room = y.room from oh.room true] at this
      exact this
    have hf0 : 0 ≤ free (hstock y true) := by
      have := hs.free
      rwa [show (⟨y.id, y.up, y.room, ⟨y.lg.rs, y.lg.f⟩⟩ : House) = y from rfl] at this
    have hlt : h < 3 := by omega
    simp (disch := first | assumption | omega | (simp only [List.length_append, List.length_map, List.length_cons, List.length_nil]; omega)) only [wEnv, wEnv2, den_row, den_up, den_jump, den_chk, den_join, den_letp, den_ite, den_ret, den_call, dens, Cell.den, At.den, Prim.den, List.cons_append, List.nil_append, padC, cellKs, CK.of, beqI, bneI, Bool.decide_eq_true, row_Hs hy, House.e, hi', e6, i_HouseStock c1.S, c2, Stock.e, e7, i_StockFree hs', if_true, Int.reduceEq, reduceIte, zU, zT, getC, Bool.and_true, List.length_map, List.length_nil, List.length_cons, List.nil_append]
    rw [den_iter]
    simp only [dens, Cell.den, At.den, C.toInt_int, getC]
    refine loopTo (l := ltrips x.dk.lg true) (enc := fun i (n : Int) => [.int .i64 n, .int .i64 i]) (P := fun i n => n + keptSum ((ltrips x.dk.lg true).drop i) ((h + 1 : Nat) : Int) = y.room ∧ 0 ≤ n) (s0 := free (hstock y true)) (o := .jump [.int .i64 ((h + 1 : Nat) : Int)]) ⟨hfree, hf0⟩ ?_ ?_
    · intro i z n hz hP
      have hiz := (List.getElem?_eq_some_iff.1 hz).1
      have hiz' : (i : Int) < ((ltrips x.dk.lg true).length : Nat) := by omega
      obtain ⟨hP1, hP2⟩ := hP
      have hdr : (ltrips x.dk.lg true).drop i = z :: (ltrips x.dk.lg true).drop (i + 1) := by rw [List.drop_eq_getElem_cons hiz, (List.getElem?_eq_some_iff.1 hz).2]
      rw [hdr, keptSum_cons] at hP1
      have hzo := tr.ok z (List.mem_of_getElem? hz)
      have hm3 := manyOk_len (tripOk_iff.1 hzo).1
      have hk0 := keptSum_nonneg ((h + 1 : Nat) : Int) (l := (ltrips x.dk.lg true).drop (i + 1)) fun y hy => tr.ok y (List.mem_of_mem_drop hy)
      have hm0 := mAt_nonneg hzo ((h + 1 : Nat) : Int)
      by_cases h4 : z.s = 4
      · rw [if_pos h4] at hP1
        refine ⟨n + mAt z.m ((h + 1 : Nat) : Int), ?_, by omega, by omega⟩
        have hw1 : IntKind.wrap .i64 (n + mAt z.m ((h + 1 : Nat) : Int)) = n + mAt z.m ((h + 1 : Nat) : Int) := wrap64 (by omega) (by omega)
        simp (disch := first | assumption | omega | (simp only [List.length_append, List.length_map, List.length_cons, List.length_nil]; omega)) only [wEnv, wEnv2, den_row, den_up, den_jump, den_chk, den_join, den_letp, den_ite, den_ret, den_call, dens, Cell.den, At.den, Prim.den, List.cons_append, List.nil_append, padC, cellKs, CK.of, beqI, bneI, Bool.decide_eq_true, hiz', if_true, row_T hz, Trip.e, h4, rowN hm3 hlt, eI, hw1, wrap_nat, Int.reduceEq, reduceIte, zU, zT, getC, Bool.and_true, List.length_map, List.length_nil, List.length_cons, List.nil_append]
        try rfl
      · rw [if_neg h4] at hP1
        refine ⟨n, ?_, by omega, by omega⟩
        simp (disch := first | assumption | omega | (simp only [List.length_append, List.length_map, List.length_cons, List.length_nil]; omega)) only [wEnv, wEnv2, den_row, den_up, den_jump, den_chk, den_join, den_letp, den_ite, den_ret, den_call, dens, Cell.den, At.den, Prim.den, List.cons_append, List.nil_append, padC, cellKs, CK.of, beqI, bneI, Bool.decide_eq_true, hiz', if_true, row_T hz, Trip.e, h4, if_false, wrap_nat, Int.reduceEq, reduceIte, zU, zT, getC, Bool.and_true, List.length_map, List.length_nil, List.length_cons, List.nil_append]
        try rfl
    · intro n hP
      have hn : n = y.room := by
        have := hP.1
        rw [List.drop_length] at this
        simpa [keptSum] using this
      have h : ¬ (((ltrips x.dk.lg true).length : Int) < ((ltrips x.dk.lg true).length : Nat)) := by omega
      subst hn
      simp (disch := first | assumption | omega | (simp only [List.length_append, List.length_map, List.length_cons, List.length_nil]; omega)) only [wEnv, wEnv2, den_row, den_up, den_jump, den_chk, den_join, den_letp, den_ite, den_ret, den_call, dens, Cell.den, At.den, Prim.den, List.cons_append, List.nil_append, padC, cellKs, CK.of, beqI, bneI, Bool.decide_eq_true, h, if_false, if_true, row_I hri, eI, wrap_nat, Int.reduceEq, reduceIte, zU, zT, getC, Bool.and_true, List.length_map, List.length_nil, List.length_cons, List.nil_append]
      try rfl
  · have h : ¬ ((x.hs.length : Int) < 3) := by omega
    simp (disch := first | assumption | omega | (simp only [List.length_append, List.length_map, List.length_cons, List.length_nil]; omega)) only [wEnv, wEnv2, den_row, den_up, den_jump, den_chk, den_join, den_letp, den_ite, den_ret, den_call, dens, Cell.den, At.den, Prim.den, List.cons_append, List.nil_append, padC, cellKs, CK.of, beqI, bneI, Bool.decide_eq_true, h, if_false, Int.reduceEq, reduceIte, zU, zT, getC, Bool.and_true, List.length_map, List.length_nil, List.length_cons, List.nil_append]
    try rfl
end
end Dx


namespace Dx
open Go Go.Proofs
def c_be : Con := ⟨[.own false [.val] [.list] false], [⟨false, [.val], [.bool], false⟩]⟩
def h_be : How := ⟨getH [(0, ⟨[kI], [(2, (.bool (.b false))), (11, (sI 0))], [], [], 0⟩), (2, ⟨[kI, kI], [(12, (sI 0)), (13, (sI 1))], [], [], 0⟩)],
  getH [],
  getH []⟩
theorem has_be : Has Tryz.prog 5 c_be φ_be := fp (R := []) (tr := false) (E := [(21, 0, c_ax), (22, 1, c_cg), (23, 2, c_cm), (17, 3, c_ev), (16, 4, c_cu), (24, 5, c_cs), (26, 6, c_by), (25, 7, c_db)]) (Φ := Φ_be) (t := t_be) ⟨has_ax, has_cg, has_cm, has_ev, has_cu, has_cs, has_by, has_db, trivial⟩ Tryz.f5 h_be (by kernel_rfl)
end Dx
namespace Go.Proofs.YtcgenclbnnigeaaGreat.fnWorldFree
open Go.ChangeShapes Go.WideShapes Go.ChangeAt Go.RowKit Dx
set_option linter.unusedVariables false
set_option maxRecDepth 100000

theorem own : ownKnob Tryz.prog.godebug = none := by kernel_rfl
theorem params : Tryz.f5.params = #[22] := by kernel_rfl
theorem results : Tryz.f5.resultTypes = #[4] := by kernel_rfl
theorem t22 : Tryz.prog.underlying 22 = some (.slice 5) := by kernel_rfl
theorem t5 : Tryz.prog.underlying 5 = some (.int .u8) := by kernel_rfl
theorem t4 : Tryz.prog.underlying 4 = some .bool := by kernel_rfl
theorem c5 : Tryz.prog.cellsOf 5 = 1 := by kernel_rfl
theorem func : Tryz.prog.funcs[5]? = some Tryz.f5 := by kernel_rfl

theorem small {H : Type} {d : DataW H} (hk : Rows.uptoSmall H [d] = true) : Rows.uptoBulkAll [d] ≤ 1048576 := of_decide_eq_true hk
theorem bytes_bulk {H : Type} : ∀ l : List Int, l.length ≤ Rows.uptoBulkAll (Go.ChangeShapes.lits (H := H) .u8 l)
  | [] => Nat.zero_le _
  | x :: l => by
    have e : Go.ChangeShapes.lits (H := H) .u8 (x :: l) = .lit (.int .u8 x) :: Go.ChangeShapes.lits .u8 l := rfl
    have := bytes_bulk (H := H) l
    rw [e]
    simp only [Rows.uptoBulkAll, Rows.uptoBulk, List.length_cons]
    omega

theorem contract (H : Type) (enc : TypeId × Value → H) (W : World) (base : Nat) (args : Array Value) (ds gs : List (DataW H)) (before : List MemPlace)
    (hval : ∀ (j : Nat) t v, Tryz.f5.params[j]? = some t → args[j]? = some v → Value.okWide Tryz.prog W .any base t v)
    (hW : DataW.Whole enc Tryz.prog Tryz.f5.params.toList Rows.fnWorldFreeSpec.vars false W args.toList ds gs before) (hk : Rows.uptoSmall H (ds ++ gs) = true) :
    Calls Tryz.prog 5 args W fun e W' => ∃ v, e = .returned v ∧ Rows.fnWorldFreeSpec.post enc Tryz.prog Tryz.f5 false true false false W args v W' := by
  have hW' := hW
  obtain ⟨p, q, hA0, hV, rfl, hfz, hnd⟩ := hW
  have hA : DataW.TrodAll enc Tryz.prog W 0 (fun _ => true) true Tryz.f5.params.toList args.toList ds p := hA0
  rw [params] at hA hval
  obtain ⟨v0, vs0, d0, ds0, p0, q0, hargs, rfl, rfl, h0, r0⟩ := trodAll_cons hA
  obtain ⟨rfl, rfl, rfl⟩ := trodAll_nil r0
  obtain rfl : args = #[v0] := by cases args; simp_all
  obtain ⟨rfl, rfl⟩ := trodVars_none hV
  obtain ⟨code, hb, hrep, hd, hshut⟩ := open_code t22 t5 c5 (hval 0 22 v0 rfl rfl) h0
  have hlen : code.length ≤ 1048576 := by
    have hk := small hk
    rcases hd with ⟨_, rfl⟩ | ⟨spare, rfl⟩
    · exact Nat.zero_le _
    · have := bytes_bulk (H := H) code
      simp only [Rows.uptoBulkAll, Rows.uptoBulk] at hk
      omega
  refine (law_calls (vs := [v0]) has_be (by simp [lawPar]) ⟨[.list (code.map cB)], [], v0, [], [], [], rfl, rfl, rfl, law_par (hrep (by omega)), rfl, rfl, rfl⟩ (law_WorldFree (by omega) hb)).mono ?_
  rintro e W' ⟨rfl, h1, h2, h3⟩
  refine ⟨_, rfl, [d0], [], p0, [], p0, [], by simpa using hW', trodAll_cons_mk (shut_bool t4 _) trodAll_mk0, ?_, rfl, kept_of h1 h2 h3 _, fun h => by cases h⟩
  rw [params]
  have := trodAll_cons_mk (hshut W' h3) (trodAll_mk0 (enc := enc) (P := Tryz.prog) (w := W') (base := 0) (spare := fun b => decide (b < W.heap.size)) (held := true))
  rw [List.append_nil] at this
  exact this

set_option maxRecDepth 100000 in
theorem lifted (os : Os) (started : os.Started) (H : Type) (enc : TypeId × Value → H) (F : Stop.Interp) :
    ReturnsInHanded {} Tryz.checked os 5 .any ((Rows.OpenSpec.upto Rows.fnWorldFreeSpec).pre6 enc Tryz.prog Tryz.f5 Rows.fnWorldFreeUptoRow.domain false) (((Rows.OpenSpec.upto Rows.fnWorldFreeSpec).at F).post enc Tryz.prog Tryz.f5 false true false false) := by
  refine returnsInHanded_of_cond (C := Tryz.checked) (s := Rows.OpenSpec.upto Rows.fnWorldFreeSpec) (k := Rows.uptoSmall) rfl own started (by kernel_rfl) func
    (OpenSpec.witness (enc := enc) (C := Tryz.checked) (s := Rows.OpenSpec.upto Rows.fnWorldFreeSpec) (k := Rows.uptoSmall) rfl false ⟨#[], #[.slice none 0 0], []⟩ 8 (by kernel_rfl) (by kernel_rfl) (by kernel_rfl)
      (x := ([.nil], [], [])) (by kernel_rfl) rfl (by kernel_rfl)) ?_
  intro W base args ds gs before hval hW _ hk _
  exact contract H enc W base args ds gs before hval hW hk

theorem proved : Rows.FnWorldFreeUptoSaid :=
  OpenClaim.holds_of_cond 5 Tryz.f5 rfl rfl rfl rfl rfl rfl rfl ⟨rfl, rfl, rfl, rfl, rfl⟩ rfl rfl rfl rfl rfl (by kernel_rfl) func (by kernel_rfl)
    (of_decide_eq_true (by kernel_rfl)) (by unfold Func.isWrapper; first | (rw [if_pos (by decide +kernel)]; kernel_rfl) | (rw [if_neg (by decide +kernel)]; exact ⟨rfl, rfl⟩))
    (fun os started H enc _ F => lifted os started H enc F)
#print axioms proved
end Go.Proofs.YtcgenclbnnigeaaGreat.fnWorldFree
