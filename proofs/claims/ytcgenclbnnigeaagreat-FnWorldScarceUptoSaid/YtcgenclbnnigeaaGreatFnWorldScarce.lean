/- PROVED: Rows.FnWorldScarceUptoSaid: whatever the input of bulk at most 1048576, laws.FnWorldScarce returns true, and its arguments read as they did. No condition beyond the statement's own. -/
import Derived.Test.YtcgenclbnnigeaaGreatZb
import Derived.Test.YtcgenclbnnigeaaGreatHa
import Derived.Test.YtcgenclbnnigeaaGreatJa
import Derived.Test.YtcgenclbnnigeaaGreatRows
set_option linter.all false
set_option linter.unusedVariables false
set_option linter.unusedSimpArgs false
set_option linter.unnecessarySimpa false
namespace Dx
open Go Go.Proofs
def t_ay : Tree :=
 worldHead2 <|
.letp .len [⟨.list, (.v 1)⟩] <|
.letp (.rem .i64) [⟨(.int .i64), (.v 26)⟩, ⟨(.int .i64), (.n 3)⟩] <|
.letp (.add .i64) [⟨(.int .i64), (.n 1)⟩, ⟨(.int .i64), (.v 27)⟩] <|
.letp (.mul .i64) [⟨(.int .i64), (.n 2)⟩, ⟨(.int .i64), (.v 28)⟩] <|
.letp (.sub .i64) [⟨(.int .i64), (.v 29)⟩, ⟨(.int .i64), (.n 1)⟩] <|
.letp (.mkl 1) [⟨(.int .i64), (.v 30)⟩, ⟨(.int .i64), (.n 3)⟩, ⟨(.int .i64), (.n 3)⟩] <|
.call 4 [⟨.list, (.v 31)⟩] [.bool, .list, (.int .i64), .list, .list, .list, .bool] <|
.letp (.mkl 1) [⟨(.int .i64), (.v 28)⟩, ⟨(.int .i64), (.n 1)⟩, ⟨(.int .i64), (.n 0)⟩] <|
.call 5 [⟨.bool, (.v 32)⟩, ⟨.list, (.v 33)⟩, ⟨(.int .i64), (.v 34)⟩, ⟨.list, (.v 35)⟩, ⟨.list, (.v 36)⟩, ⟨.list, (.v 37)⟩, ⟨(.int .i64), (.n 1)⟩, ⟨(.int .i64), (.n 0)⟩, ⟨(.int .i64), (.n 0)⟩, ⟨.list, (.v 39)⟩] [.bool, .list, (.int .i64), .list, .list, .list] <|
.letp (.mkl 1) [⟨(.int .i64), (.v 28)⟩, ⟨(.int .i64), (.n 0)⟩, ⟨(.int .i64), (.n 1)⟩] <|
.call 5 [⟨.bool, (.v 40)⟩, ⟨.list, (.v 41)⟩, ⟨(.int .i64), (.v 42)⟩, ⟨.list, (.v 43)⟩, ⟨.list, (.v 44)⟩, ⟨.list, (.v 45)⟩, ⟨(.int .i64), (.n 1)⟩, ⟨(.int .i64), (.n 0)⟩, ⟨(.int .i64), (.n 0)⟩, ⟨.list, (.v 46)⟩] [.bool, .list, (.int .i64), .list, .list, .list] <|
.call 6 [⟨.bool, (.v 47)⟩, ⟨.list, (.v 48)⟩, ⟨(.int .i64), (.v 49)⟩, ⟨.list, (.v 50)⟩, ⟨.list, (.v 51)⟩, ⟨.list, (.v 52)⟩, ⟨(.int .i64), (.n 9)⟩] [.bool, .list, (.int .i64), .list, .list, .list] <|
.call 7 [⟨.bool, (.v 53)⟩, ⟨.list, (.v 54)⟩, ⟨(.int .i64), (.v 55)⟩, ⟨.list, (.v 56)⟩, ⟨.bool, (.b true)⟩] [.list] <|
.iter [⟨(.int .i64), (.n 0)⟩, ⟨(.int .i64), (.n 0)⟩] <|
.letp .len [⟨.list, (.v 59)⟩] <|
.letp .ltI [⟨(.int .i64), (.v 61)⟩, ⟨(.int .i64), (.v 62)⟩] <|
.ite (.v 63) (
 .row (.v 59) (.v 61) [.list, (.int .i64)] <|
 .letp .eqI [⟨(.int .i64), (.v 65)⟩, ⟨(.int .i64), (.n 4)⟩] <|
 .ite (.v 66) (
 .letp (.add .i64) [⟨(.int .i64), (.v 60)⟩, ⟨(.int .i64), (.n 1)⟩] <|
 .letp (.add .i64) [⟨(.int .i64), (.v 61)⟩, ⟨(.int .i64), (.n 1)⟩] <|
 .jump [⟨(.int .i64), (.v 67)⟩, ⟨(.int .i64), (.v 68)⟩]) <|
 .letp (.add .i64) [⟨(.int .i64), (.v 61)⟩, ⟨(.int .i64), (.n 1)⟩] <|
 .jump [⟨(.int .i64), (.v 60)⟩, ⟨(.int .i64), (.v 67)⟩]) <|
.up <|
.ite (.v 38) (
 .letp .len [⟨.list, (.v 59)⟩] <|
 .letp .eqI [⟨(.int .i64), (.v 64)⟩, ⟨(.int .i64), (.n 2)⟩] <|
 .ite (.v 65) (
 .letp .eqI [⟨(.int .i64), (.v 60)⟩, ⟨(.int .i64), (.n 1)⟩] <|
 .ite (.v 66) (
 .row (.v 57) (.n 0) [(.int .i64), .bool, (.int .i64), .list, (.int .i64)] <|
 .call 8 [⟨(.int .i64), (.v 67)⟩, ⟨.bool, (.v 68)⟩, ⟨(.int .i64), (.v 69)⟩, ⟨.list, (.v 70)⟩, ⟨(.int .i64), (.v 71)⟩, ⟨.bool, (.b true)⟩] [(.int .i64), .list] <|
 .call 9 [⟨(.int .i64), (.v 72)⟩, ⟨.list, (.v 73)⟩] [(.int .i64)] <|
 .letp (.sub .i64) [⟨(.int .i64), (.v 28)⟩, ⟨(.int .i64), (.n 1)⟩] <|
 .letp .eqI [⟨(.int .i64), (.v 74)⟩, ⟨(.int .i64), (.v 75)⟩] <|
 .ret [⟨.bool, (.v 76)⟩]) <|
 .ret [⟨.bool, (.b false)⟩]) <|
 .ret [⟨.bool, (.b false)⟩]) <|
.ret [⟨.bool, (.b false)⟩]
noncomputable def Φ_ay : Phi := fun n => match n with
  | 0 => φ_ax
  | 1 => φ_cg
  | 2 => φ_cm
  | 3 => φ_ev
  | 4 => φ_dk
  | 5 => φ_ew
  | 6 => φ_cu
  | 7 => φ_cs
  | 8 => φ_by
  | 9 => φ_db
  | _ => fun _ => none
noncomputable def φ_ay (cs : List C) : Option (List C) := retOf (den Φ_ay t_ay cs)
end Dx
/- A law, as it is drawn: of two trips that want the last one at most one is kept. -/
namespace Dx
open Go
section
variable {code more : List Int}
theorem scarce_new {n : Int} (h : 1 ≤ n ∧ n ≤ 3) : ∃ w, worldNew [2 * n - 1, 3, 3] = some w := by
  have : [2 * n - 1, 3, 3].length = 3 ∧ [2 * n - 1, 3, 3].all (fun n => in_ n 0 9) = true := by
    refine ⟨rfl, ?_⟩
    simp only [List.all_cons, List.all_nil, Bool.and_true, Bool.and_eq_true, in_iff]
    omega
  exact ⟨_, if_pos this⟩
theorem law_WorldScarce (hl : code.length ≤ 1099511627776) (hc : Bytes code) : φ_ay [.list (code.map eB), .list (more.map eB)] = some [.bool true] := by
  unfold φ_ay t_ay
  refine worldHead2_den rfl rfl rfl rfl hl hc fun rooms es w hm hw hr hel hes => ?_
  have e4 : Φ_ay 4 = φ_dk := rfl
  have e5 : Φ_ay 5 = φ_ew := rfl
  have e6 : Φ_ay 6 = φ_cu := rfl
  have e7 : Φ_ay 7 = φ_cs := rfl
  have e8 : Φ_ay 8 = φ_by := rfl
  have e9 : Φ_ay 9 = φ_db := rfl
  have hlt : more.length % 3 < 3 := Nat.mod_lt _ (by omega)
  have hmod : Int.tmod ((more.length : Nat) : Int) 3 = ((more.length % 3 : Nat) : Int) := rfl
  generalize hk : more.length % 3 = k at hlt hmod
  obtain ⟨n, hn⟩ : ∃ n : Int, n = 1 + (k : Int) := ⟨_, rfl⟩
  have hn3 : 1 ≤ n ∧ n ≤ 3 := by omega
  have hw1 : IntKind.wrap .i64 (1 + (k : Int)) = n := by rw [wrap64 (by omega) (by omega)]; omega
  have hw2 : IntKind.wrap .i64 (2 * n) = 2 * n := wrap64 (by omega) (by omega)
  have hw3 : IntKind.wrap .i64 (2 * n - 1) = 2 * n - 1 := wrap64 (by omega) (by omega)
  have hw4 : IntKind.wrap .i64 (n - 1) = n - 1 := wrap64 (by omega) (by omega)
  have hT : scarceT n = true := by
    have := scarce_ok
    simp only [Bool.and_eq_true] at this
    rcases (show n = 1 ∨ n = 2 ∨ n = 3 by omega) with e | e | e <;> subst e <;> simp [this]
  unfold scarceT at hT
  simp only [Bool.and_eq_true, beq_iff_eq] at hT
  obtain ⟨t1, t3⟩ := hT
  obtain ⟨w0, h0⟩ := scarce_new hn3
  have o0 := worldNew_ok h0
  have hnew := i_WorldNew (rooms := [2 * n - 1, 3, 3]) (by simp)
  have eB : scarceB n = wdo (wdo w0 ⟨1, 0, 0, [n, 1, 0]⟩) ⟨1, 0, 0, [n, 0, 1]⟩ := by unfold scarceB begin1; rw [h0]; rfl
  rw [h0] at hnew
  simp only [Wd.e, List.map_cons, List.map_nil, eI, Option.getD_some, Option.isSome_some, List.cons_append, List.nil_append] at hnew
  have d1 := i_WorldDo o0 (e := ⟨1, 0, 0, [n, 1, 0]⟩) (by simp)
  have o1 := o0.do_ ⟨1, 0, 0, [n, 1, 0]⟩
  generalize wdo w0 ⟨1, 0, 0, [n, 1, 0]⟩ = w1 at *
  have d2 := i_WorldDo o1 (e := ⟨1, 0, 0, [n, 0, 1]⟩) (by simp)
  have o2 := o1.do_ ⟨1, 0, 0, [n, 0, 1]⟩
  generalize wdo w1 ⟨1, 0, 0, [n, 0, 1]⟩ = w2 at *
  have c1 : _ = some (wcalm w2 9).e := i_WorldCalm o2 (r := 9) (by omega)
  have oy := o2.calm 9
  have ey : wcalm w2 9 = scarceW n := by unfold scarceW; rw [eB]
  rw [ey] at c1 oy
  generalize scarceW n = y at *
  have hdS' : DkS ⟨y.dk.up, ⟨y.dk.lg.rs, y.dk.lg.f⟩, y.dk.td⟩ := oy.dk.S
  have hdo' : deskOk ⟨y.dk.up, ⟨y.dk.lg.rs, y.dk.lg.f⟩, y.dk.td⟩ = true := deskOk_iff.2 oy.dk
  have hH : isH 1 := ⟨by omega, by omega⟩
  obtain ⟨g1, g2, g3⟩ := oy.houseAt hH
  have g1' : y.hs[(0 : Int).toNat]? = some (houseAt y 1) := g1
  obtain ⟨b1, b2, _⟩ := oy.cells g1
  have hs := g2.stOk true
  generalize houseAt y 1 = z at *
  have hs' : StOk ⟨(hstock ⟨z.id, z.up, z.room, ⟨z.lg.rs, z.lg.f⟩⟩ true).room, (hstock ⟨z.id, z.up, z.room, ⟨z.lg.rs, z.lg.f⟩⟩ true).hs⟩ := hs
  have hrow : ∀ f : List C → Option Out, rowD (.list (y.hs.map House.e)) (.int .i64 0) [.int .i64, .bool, .int .i64, .list, .int .i64] f = f z.e := fun f => rowD_mapI (by omega) g1' rfl
  have t3' : free ⟨(hstock ⟨z.id, z.up, z.room, ⟨z.lg.rs, z.lg.f⟩⟩ true).room, (hstock ⟨z.id, z.up, z.room, ⟨z.lg.rs, z.lg.f⟩⟩ true).hs⟩ = n - 1 := t3
  have tl : (ltrips y.dk.lg true).length = 2 := by have := congrArg List.length t1; simpa using this
  have tl' : (((ltrips y.dk.lg true).length : Nat) : Int) = 2 := by omega
  simp only [Wd.e, List.map_cons, List.map_nil, eI] at c1 d1 d2
  simp (disch := first | assumption | omega | (simp only [List.length_append, List.length_map, List.length_cons, List.length_nil]; omega)) only [wEnv, wEnv2, den_row, den_up, den_jump, den_chk, den_join, den_letp, den_ite, den_ret, den_call, dens, Cell.den, At.den, Prim.den, List.cons_append, List.nil_append, padC, cellKs, CK.of, beqI, bneI, Bool.decide_eq_true, hmod, hk, hw1, hw2, hw3, chunk3, e4, hnew, e5, d1, d2, e6, c1, e7, i_DeskTrips hdS', hdo', if_true, Int.reduceEq, reduceIte, zU, zT, getC, Bool.and_true, List.length_map, List.length_nil, List.length_cons, List.nil_append]
  rw [den_iter]
  simp only [dens, Cell.den, At.den, C.toInt_int]
  refine Eq.trans (congrArg retOf (loopTo (l := ltrips y.dk.lg true) (enc := fun i (c : Int) => [.int .i64 c, .int .i64 i]) (P := fun i c => c = if i = 0 then 0 else 1) (s0 := 0) (o := .ret [.bool true]) rfl ?_ ?_)) rfl
  · intro i b c hb hc
    have hi := (List.getElem?_eq_some_iff.1 hb).1
    have hi' : (i : Int) < 2 := by omega
    have hst : ([4, 5] : List Int)[i]? = some b.s := by rw [← t1, List.getElem?_map, hb]; rfl
    rcases (show i = 0 ∨ i = 1 by omega) with e | e
    · subst e
      have hs4 : b.s = 4 := by simpa using hst.symm
      have hc0 : c = 0 := hc
      subst hc0
      have hb0 : ∀ f : List C → Option Out, rowD (.list ((ltrips y.dk.lg true).map Trip.e)) (.int .i64 ((0 : Nat) : Int)) [.list, .int .i64] f = f b.e := fun f => row_T hb
      refine ⟨1, ?_, rfl⟩
      simp (disch := first | assumption | omega | (simp only [List.length_append, List.length_map, List.length_cons, List.length_nil]; omega)) only [wEnv, wEnv2, den_row, den_up, den_jump, den_chk, den_join, den_letp, den_ite, den_ret, den_call, dens, Cell.den, At.den, Prim.den, List.cons_append, List.nil_append, padC, cellKs, CK.of, beqI, bneI, Bool.decide_eq_true, tl', hi', if_true, hb0, Trip.e, hs4, wrap64, Int.reduceEq, reduceIte, zU, zT, getC, Bool.and_true, List.length_map, List.length_nil, List.length_cons, List.nil_append]
      try rfl
    · subst e
      have hs5 : b.s = 5 := by simpa using hst.symm
      have hs4 : ¬ (b.s = 4) := by omega
      have hc0 : c = 1 := hc
      subst hc0
      refine ⟨1, ?_, rfl⟩
      simp (disch := first | assumption | omega | (simp only [List.length_append, List.length_map, List.length_cons, List.length_nil]; omega)) only [wEnv, wEnv2, den_row, den_up, den_jump, den_chk, den_join, den_letp, den_ite, den_ret, den_call, dens, Cell.den, At.den, Prim.den, List.cons_append, List.nil_append, padC, cellKs, CK.of, beqI, bneI, Bool.decide_eq_true, tl', hi', if_true, row_T hb, Trip.e, hs4, if_false, wrap_nat, Int.reduceEq, reduceIte, zU, zT, getC, Bool.and_true, List.length_map, List.length_nil, List.length_cons, List.nil_append]
      try rfl
  · intro c hc
    rw [tl] at hc ⊢
    have hc0 : c = 1 := hc
    subst hc0
    have h : ¬ (((2 : Nat) : Int) < 2) := by omega
    simp (disch := first | assumption | omega | (simp only [List.length_append, List.length_map, List.length_cons, List.length_nil]; omega)) only [wEnv, wEnv2, den_row, den_up, den_jump, den_chk, den_join, den_letp, den_ite, den_ret, den_call, dens, Cell.den, At.den, Prim.den, List.cons_append, List.nil_append, padC, cellKs, CK.of, beqI, bneI, Bool.decide_eq_true, tl', h, if_false, if_true, decide_true, hrow, House.e, e8, i_HouseStock b1.S, b2, Stock.e, e9, i_StockFree hs', t3', hw4, Int.reduceEq, reduceIte, zU, zT, getC, Bool.and_true, List.length_map, List.length_nil, List.length_cons, List.nil_append]
    try rfl
end
end Dx


namespace Dx
open Go Go.Proofs
def c_ay : Con := ⟨[.own false [.val] [.list] false, .own false [.val] [.list] false], [⟨false, [.val], [.bool], false⟩]⟩
def h_ay : How := ⟨getH [(0, ⟨[kI, kI], [(15, (sI 0)), (16, (sI 1))], [], [], 0⟩)],
  getH [],
  getH []⟩
theorem has_ay : Has Tryz.prog 9 c_ay φ_ay := fp (R := []) (tr := false) (E := [(21, 0, c_ax), (22, 1, c_cg), (23, 2, c_cm), (17, 3, c_ev), (27, 4, c_dk), (28, 5, c_ew), (16, 6, c_cu), (24, 7, c_cs), (26, 8, c_by), (25, 9, c_db)]) (Φ := Φ_ay) (t := t_ay) ⟨has_ax, has_cg, has_cm, has_ev, has_dk, has_ew, has_cu, has_cs, has_by, has_db, trivial⟩ Tryz.f9 h_ay (by kernel_rfl)
end Dx
namespace Go.Proofs.YtcgenclbnnigeaaGreat.fnWorldScarce
open Go.ChangeShapes Go.WideShapes Go.ChangeAt Go.RowKit Dx
set_option linter.unusedVariables false
set_option maxRecDepth 100000

theorem own : ownKnob Tryz.prog.godebug = none := by kernel_rfl
theorem params : Tryz.f9.params = #[22, 22] := by kernel_rfl
theorem results : Tryz.f9.resultTypes = #[4] := by kernel_rfl
theorem t22 : Tryz.prog.underlying 22 = some (.slice 5) := by kernel_rfl
theorem t5 : Tryz.prog.underlying 5 = some (.int .u8) := by kernel_rfl
theorem t4 : Tryz.prog.underlying 4 = some .bool := by kernel_rfl
theorem c5 : Tryz.prog.cellsOf 5 = 1 := by kernel_rfl
theorem func : Tryz.prog.funcs[9]? = some Tryz.f9 := by kernel_rfl

theorem small {H : Type} {d : DataW H} (hk : Rows.uptoSmall H [d] = true) : Rows.uptoBulkAll [d] ≤ 1048576 := of_decide_eq_true hk
theorem bytes_bulk {H : Type} : ∀ l : List Int, l.length ≤ Rows.uptoBulkAll (Go.ChangeShapes.lits (H := H) .u8 l)
  | [] => Nat.zero_le _
  | x :: l => by
    have e : Go.ChangeShapes.lits (H := H) .u8 (x :: l) = .lit (.int .u8 x) :: Go.ChangeShapes.lits .u8 l := rfl
    have := bytes_bulk (H := H) l
    rw [e]
    simp only [Rows.uptoBulkAll, Rows.uptoBulk, List.length_cons]
    omega

theorem small2 {H : Type} {d e : DataW H} (hk : Rows.uptoSmall H [d, e] = true) : Rows.uptoBulkAll [d, e] ≤ 1048576 := of_decide_eq_true hk
theorem code_bulk {H : Type} {d : DataW H} {code : List Int} (hd : d = .nil ∧ code = [] ∨ ∃ spare, d = .slice (Go.ChangeShapes.lits .u8 code) spare) : code.length ≤ Rows.uptoBulk d := by
  rcases hd with ⟨_, rfl⟩ | ⟨spare, rfl⟩
  · exact Nat.zero_le _
  · have := bytes_bulk (H := H) code
    simp only [Rows.uptoBulk]
    omega

theorem contract (H : Type) (enc : TypeId × Value → H) (W : World) (base : Nat) (args : Array Value) (ds gs : List (DataW H)) (before : List MemPlace)
    (hval : ∀ (j : Nat) t v, Tryz.f9.params[j]? = some t → args[j]? = some v → Value.okWide Tryz.prog W .any base t v)
    (hW : DataW.Whole enc Tryz.prog Tryz.f9.params.toList Rows.fnWorldScarceSpec.vars false W args.toList ds gs before) (hk : Rows.uptoSmall H (ds ++ gs) = true) :
    Calls Tryz.prog 9 args W fun e W' => ∃ v, e = .returned v ∧ Rows.fnWorldScarceSpec.post enc Tryz.prog Tryz.f9 false true false false W args v W' := by
  have hW' := hW
  obtain ⟨p, q, hA0, hV, rfl, hfz, hnd⟩ := hW
  have hA : DataW.TrodAll enc Tryz.prog W 0 (fun _ => true) true Tryz.f9.params.toList args.toList ds p := hA0
  rw [params] at hA hval
  obtain ⟨v0, vs0, d0, ds0, p0, q0, hargs, rfl, rfl, h0, r0⟩ := trodAll_cons hA
  obtain ⟨v1, vs1, d1, ds1, p1, q1, rfl, rfl, rfl, h1, r1⟩ := trodAll_cons r0
  obtain ⟨rfl, rfl, rfl⟩ := trodAll_nil r1
  obtain rfl : args = #[v0, v1] := by cases args; simp_all
  obtain ⟨rfl, rfl⟩ := trodVars_none hV
  obtain ⟨code, hb, hrep, hd, hshut⟩ := open_code t22 t5 c5 (hval 0 22 v0 rfl rfl) h0
  obtain ⟨more, hb1, hrep1, hd1, hshut1⟩ := open_code t22 t5 c5 (hval 1 22 v1 rfl rfl) h1
  have hk := small2 hk
  simp only [Rows.uptoBulkAll] at hk
  have l0 := code_bulk hd
  have l1 := code_bulk hd1
  have hlen : code.length ≤ 1048576 := by omega
  have hlen1 : more.length ≤ 1048576 := by omega
  refine (law_calls (vs := [v0, v1]) has_ay (by simp [lawPar]) ⟨[.list (code.map cB)], [.list (more.map cB)], v0, [v1], [], [], rfl, rfl, rfl, law_par (hrep (by omega)), [.list (more.map cB)], [], v1, [], [], [], rfl, rfl, rfl, law_par (hrep1 (by omega)), rfl, rfl, rfl⟩ (law_WorldScarce (by omega) hb)).mono ?_
  rintro e W' ⟨rfl, g1, g2, g3⟩
  refine ⟨_, rfl, [d0, d1], [], p0 ++ p1, [], p0 ++ p1, [], by simpa using hW', trodAll_cons_mk (shut_bool t4 _) trodAll_mk0, ?_, rfl, kept_of g1 g2 g3 _, fun h => by cases h⟩
  rw [params]
  have := trodAll_cons_mk (hshut W' g3) (trodAll_cons_mk (hshut1 W' g3) (trodAll_mk0 (enc := enc) (P := Tryz.prog) (w := W') (base := 0) (spare := fun b => decide (b < W.heap.size)) (held := true)))
  rw [List.append_nil] at this
  exact this

set_option maxRecDepth 100000 in
theorem lifted (os : Os) (started : os.Started) (H : Type) (enc : TypeId × Value → H) (F : Stop.Interp) :
    ReturnsInHanded {} Tryz.checked os 9 .any ((Rows.OpenSpec.upto Rows.fnWorldScarceSpec).pre6 enc Tryz.prog Tryz.f9 Rows.fnWorldScarceUptoRow.domain false) (((Rows.OpenSpec.upto Rows.fnWorldScarceSpec).at F).post enc Tryz.prog Tryz.f9 false true false false) := by
  refine returnsInHanded_of_cond (C := Tryz.checked) (s := Rows.OpenSpec.upto Rows.fnWorldScarceSpec) (k := Rows.uptoSmall) rfl own started (by kernel_rfl) func
    (OpenSpec.witness (enc := enc) (C := Tryz.checked) (s := Rows.OpenSpec.upto Rows.fnWorldScarceSpec) (k := Rows.uptoSmall) rfl false ⟨#[], #[.slice none 0 0, .slice none 0 0], []⟩ 8 (by kernel_rfl) (by kernel_rfl) (by kernel_rfl)
      (x := ([.nil, .nil], [], [])) (by kernel_rfl) rfl (by kernel_rfl)) ?_
  intro W base args ds gs before hval hW _ hk _
  exact contract H enc W base args ds gs before hval hW hk

theorem proved : Rows.FnWorldScarceUptoSaid :=
  OpenClaim.holds_of_cond 9 Tryz.f9 rfl rfl rfl rfl rfl rfl rfl ⟨rfl, rfl, rfl, rfl, rfl⟩ rfl rfl rfl rfl rfl (by kernel_rfl) func (by kernel_rfl)
    (of_decide_eq_true (by kernel_rfl)) (by unfold Func.isWrapper; first | (rw [if_pos (by decide +kernel)]; kernel_rfl) | (rw [if_neg (by decide +kernel)]; exact ⟨rfl, rfl⟩))
    (fun os started H enc _ F => lifted os started H enc F)
#print axioms proved
end Go.Proofs.YtcgenclbnnigeaaGreat.fnWorldScarce
