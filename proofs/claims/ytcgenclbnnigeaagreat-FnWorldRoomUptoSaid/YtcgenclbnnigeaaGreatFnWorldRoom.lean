/- PROVED: Rows.FnWorldRoomUptoSaid: whatever the input of bulk at most 1048576, laws.FnWorldRoom returns true, and its arguments read as they did. No condition beyond the statement's own. -/
import Derived.Test.YtcgenclbnnigeaaGreatZb
import Derived.Test.YtcgenclbnnigeaaGreatHa
import Derived.Test.YtcgenclbnnigeaaGreatJa
import Derived.Test.YtcgenclbnnigeaaGreatRows
set_option linter.all false
set_option linter.unusedVariables false
set_option linter.unusedSimpArgs false
set_option linter.unnecessarySimpa false
namespace Dx
open Go Go.Proofs
def t_bk : Tree :=
 worldHead2 <|
.letp (.mkl 1) [⟨(.int .i64), (.n 9)⟩, ⟨(.int .i64), (.n 9)⟩, ⟨(.int .i64), (.n 9)⟩] <|
.call 4 [⟨.list, (.v 26)⟩] [.bool, .list, (.int .i64), .list, .list, .list, .bool] <|
.letp .len [⟨.list, (.v 1)⟩] <|
.letp (.rem .i64) [⟨(.int .i64), (.v 34)⟩, ⟨(.int .i64), (.n 4)⟩] <|
.letp (.add .i64) [⟨(.int .i64), (.n 1)⟩, ⟨(.int .i64), (.v 35)⟩] <|
.iter [⟨(.int .i64), (.n 0)⟩, ⟨.bool, (.v 27)⟩, ⟨.list, (.v 28)⟩, ⟨(.int .i64), (.v 29)⟩, ⟨.list, (.v 30)⟩, ⟨.list, (.v 31)⟩, ⟨.list, (.v 32)⟩] <|
.letp .ltI [⟨(.int .i64), (.v 37)⟩, ⟨(.int .i64), (.v 36)⟩] <|
.ite (.v 44) (
 .letp (.rem .i64) [⟨(.int .i64), (.v 37)⟩, ⟨(.int .i64), (.n 3)⟩] <|
 .letp (.mkl 1) [⟨(.int .i64), (.v 45)⟩, ⟨(.int .i64), (.n 2)⟩, ⟨(.int .i64), (.n 1)⟩] <|
 .call 5 [⟨.bool, (.v 38)⟩, ⟨.list, (.v 39)⟩, ⟨(.int .i64), (.v 40)⟩, ⟨.list, (.v 41)⟩, ⟨.list, (.v 42)⟩, ⟨.list, (.v 43)⟩, ⟨(.int .i64), (.n 1)⟩, ⟨(.int .i64), (.n 0)⟩, ⟨(.int .i64), (.n 0)⟩, ⟨.list, (.v 46)⟩] [.bool, .list, (.int .i64), .list, .list, .list] <|
 .letp (.add .i64) [⟨(.int .i64), (.v 37)⟩, ⟨(.int .i64), (.n 1)⟩] <|
 .jump [⟨(.int .i64), (.v 53)⟩, ⟨.bool, (.v 47)⟩, ⟨.list, (.v 48)⟩, ⟨(.int .i64), (.v 49)⟩, ⟨.list, (.v 50)⟩, ⟨.list, (.v 51)⟩, ⟨.list, (.v 52)⟩]) <|
.up <|
.call 6 [⟨.bool, (.v 38)⟩, ⟨.list, (.v 39)⟩, ⟨(.int .i64), (.v 40)⟩, ⟨.list, (.v 41)⟩, ⟨.list, (.v 42)⟩, ⟨.list, (.v 43)⟩, ⟨(.int .i64), (.n 9)⟩] [.bool, .list, (.int .i64), .list, .list, .list] <|
.call 7 [⟨.bool, (.v 45)⟩, ⟨.list, (.v 46)⟩, ⟨(.int .i64), (.v 47)⟩, ⟨.list, (.v 48)⟩, ⟨.bool, (.b true)⟩] [.list] <|
.iter [⟨(.int .i64), (.n 0)⟩] <|
.letp .len [⟨.list, (.v 51)⟩] <|
.letp .ltI [⟨(.int .i64), (.v 52)⟩, ⟨(.int .i64), (.v 53)⟩] <|
.ite (.v 54) (
 .row (.v 51) (.v 52) [.list, (.int .i64)] <|
 .letp .neI [⟨(.int .i64), (.v 56)⟩, ⟨(.int .i64), (.n 4)⟩] <|
 .ite (.v 57) (
 .up <|
 .ret [⟨.bool, (.b false)⟩]) <|
 .letp (.add .i64) [⟨(.int .i64), (.v 52)⟩, ⟨(.int .i64), (.n 1)⟩] <|
 .jump [⟨(.int .i64), (.v 58)⟩]) <|
.up <|
.ite (.v 33) (
 .letp .len [⟨.list, (.v 51)⟩] <|
 .letp .eqI [⟨(.int .i64), (.v 55)⟩, ⟨(.int .i64), (.v 36)⟩] <|
 .ite (.v 56) (
 .row (.v 49) (.n 1) [(.int .i64), .bool, (.int .i64), .list, (.int .i64)] <|
 .call 8 [⟨(.int .i64), (.v 57)⟩, ⟨.bool, (.v 58)⟩, ⟨(.int .i64), (.v 59)⟩, ⟨.list, (.v 60)⟩, ⟨(.int .i64), (.v 61)⟩, ⟨.bool, (.b true)⟩] [(.int .i64), .list] <|
 .call 9 [⟨(.int .i64), (.v 62)⟩, ⟨.list, (.v 63)⟩] [(.int .i64)] <|
 .letp (.mul .i64) [⟨(.int .i64), (.n 2)⟩, ⟨(.int .i64), (.v 36)⟩] <|
 .letp (.sub .i64) [⟨(.int .i64), (.n 9)⟩, ⟨(.int .i64), (.v 65)⟩] <|
 .letp .eqI [⟨(.int .i64), (.v 64)⟩, ⟨(.int .i64), (.v 66)⟩] <|
 .ret [⟨.bool, (.v 67)⟩]) <|
 .ret [⟨.bool, (.b false)⟩]) <|
.ret [⟨.bool, (.b false)⟩]
noncomputable def Φ_bk : Phi := fun n => match n with
  | 0 => φ_ax
  | 1 => φ_cg
  | 2 => φ_cm
  | 3 => φ_ev
  | 4 => φ_dk
  | 5 => φ_ew
  | 6 => φ_cu
  | 7 => φ_cs
  | 8 => φ_by
  | 9 => φ_db
  | _ => fun _ => none
noncomputable def φ_bk (cs : List C) : Option (List C) := retOf (den Φ_bk t_bk cs)
end Dx
/- A law, as it is drawn: with room enough each trip is kept. -/
namespace Dx
open Go
section
variable {code more : List Int}
theorem roomB_ok : ∀ i, WOk (roomB i)
  | 0 => worldNew_ok (rooms := [9, 9, 9]) rfl
  | i + 1 => (roomB_ok i).do_ ⟨1, 0, 0, [(i : Int) % 3, 2, 1]⟩
theorem law_WorldRoom (hl : code.length ≤ 1099511627776) (hc : Bytes code) : φ_bk [.list (code.map eB), .list (more.map eB)] = some [.bool true] := by
  unfold φ_bk t_bk
  refine worldHead2_den rfl rfl rfl rfl hl hc fun rooms es w hm hw hr hel hes => ?_
  have e4 : Φ_bk 4 = φ_dk := rfl
  have e5 : Φ_bk 5 = φ_ew := rfl
  have e6 : Φ_bk 6 = φ_cu := rfl
  have e7 : Φ_bk 7 = φ_cs := rfl
  have e8 : Φ_bk 8 = φ_by := rfl
  have e9 : Φ_bk 9 = φ_db := rfl
  have hlt : more.length % 4 < 4 := Nat.mod_lt _ (by omega)
  have hmod : Int.tmod ((more.length : Nat) : Int) 4 = ((more.length % 4 : Nat) : Int) := rfl
  generalize hk : more.length % 4 = k at hlt hmod
  have hw1 : IntKind.wrap .i64 (1 + (k : Int)) = ((k + 1 : Nat) : Int) := by rw [wrap64 (by omega) (by omega)]; omega
  have hnew : φ_dk [.list [[.int .i64 9], [.int .i64 9], [.int .i64 9]]] = some ((roomB 0).e ++ [.bool true]) := i_WorldNew (rooms := [9, 9, 9]) (by simp)
  simp only [Wd.e, List.cons_append, List.nil_append] at hnew
  have hT : roomT (k + 1) = true := by
    have := room_ok
    simp only [Bool.and_eq_true] at this
    rcases (show k = 0 ∨ k = 1 ∨ k = 2 ∨ k = 3 by omega) with e | e | e | e <;> subst e <;> simp [this]
  unfold roomT at hT
  simp only [Bool.and_eq_true, beq_iff_eq, List.all_eq_true] at hT
  obtain ⟨⟨t1, t2⟩, t3⟩ := hT
  simp (disch := first | assumption | omega | (simp only [List.length_append, List.length_map, List.length_cons, List.length_nil]; omega)) only [wEnv, wEnv2, den_row, den_up, den_jump, den_chk, den_join, den_letp, den_ite, den_ret, den_call, dens, Cell.den, At.den, Prim.den, List.cons_append, List.nil_append, padC, cellKs, CK.of, beqI, bneI, Bool.decide_eq_true, hmod, hk, hw1, chunk3, e4, hnew, Int.reduceEq, reduceIte, zU, zT, getC, Bool.and_true, List.length_map, List.length_nil, List.length_cons, List.nil_append]
  rw [den_iter]
  simp only [dens, Cell.den, At.den, C.toInt_int, getC, C.toBool_bool, C.toList_list]
  refine Eq.trans (congrArg retOf (loopTo (l := List.replicate (k + 1) ()) (enc := fun i (x : Wd) => .int .i64 i :: x.e) (P := fun i x => x = roomB i) (s0 := roomB 0) (o := .ret [.bool true]) rfl ?_ ?_)) rfl
  · intro i a x ha hx
    have hi := (List.getElem?_eq_some_iff.1 ha).1
    rw [List.length_replicate] at hi
    have hi' : (i : Int) < ((k + 1 : Nat) : Int) := by omega
    have ox := roomB_ok i
    rw [← hx] at ox
    have hm3 : Int.tmod (i : Int) 3 = (i : Int) % 3 := rfl
    have d1 := i_WorldDo ox (e := ⟨1, 0, 0, [(i : Int) % 3, 2, 1]⟩) (by simp)
    simp only [List.map_cons, List.map_nil, eI, Wd.e] at d1
    refine ⟨wdo x ⟨1, 0, 0, [(i : Int) % 3, 2, 1]⟩, ?_, by rw [hx]; rfl⟩
    simp (disch := first | assumption | omega | (simp only [List.length_append, List.length_map, List.length_cons, List.length_nil]; omega)) only [wEnv, wEnv2, den_row, den_up, den_jump, den_chk, den_join, den_letp, den_ite, den_ret, den_call, dens, Cell.den, At.den, Prim.den, List.cons_append, List.nil_append, padC, cellKs, CK.of, beqI, bneI, Bool.decide_eq_true, Wd.e, hi', if_true, hm3, chunk3, e5, d1, wrap_nat, Int.reduceEq, reduceIte, zU, zT, getC, Bool.and_true, List.length_map, List.length_nil, List.length_cons, List.nil_append]
    try rfl
  · intro x hx
    rw [List.length_replicate] at hx ⊢
    have ox := roomB_ok (k + 1)
    have hx : x = roomB (k + 1) := hx
    rw [← hx] at ox
    have h4 : ¬ (((k + 1 : Nat) : Int) < ((k + 1 : Nat) : Int)) := by omega
    have c1 : _ = some (wcalm x 9).e := i_WorldCalm ox (r := 9) (by omega)
    have oy := ox.calm 9
    have ey : wcalm x 9 = roomW (k + 1) := by rw [hx]; rfl
    rw [ey] at c1 oy
    generalize roomW (k + 1) = y at *
    have hdS' : DkS ⟨y.dk.up, ⟨y.dk.lg.rs, y.dk.lg.f⟩, y.dk.td⟩ := oy.dk.S
    have hdo' : deskOk ⟨y.dk.up, ⟨y.dk.lg.rs, y.dk.lg.f⟩, y.dk.td⟩ = true := deskOk_iff.2 oy.dk
    have hH : isH 2 := ⟨by omega, by omega⟩
    obtain ⟨g1, g2, g3⟩ := oy.houseAt hH
    have g1' : y.hs[(1 : Int).toNat]? = some (houseAt y 2) := g1
    obtain ⟨b1, b2, _⟩ := oy.cells g1
    have hs := g2.stOk true
    generalize houseAt y 2 = z at *
    have hs' : StOk ⟨(hstock ⟨z.id, z.up, z.room, ⟨z.lg.rs, z.lg.f⟩⟩ true).room, (hstock ⟨z.id, z.up, z.room, ⟨z.lg.rs, z.lg.f⟩⟩ true).hs⟩ := hs
    have hrow : ∀ f : List C → Option Out, rowD (.list (y.hs.map House.e)) (.int .i64 1) [.int .i64, .bool, .int .i64, .list, .int .i64] f = f z.e := fun f => rowD_mapI (by omega) g1' rfl
    have t1' : (((ltrips y.dk.lg true).length : Nat) : Int) = ((k + 1 : Nat) : Int) := by omega
    have t3' : free ⟨(hstock ⟨z.id, z.up, z.room, ⟨z.lg.rs, z.lg.f⟩⟩ true).room, (hstock ⟨z.id, z.up, z.room, ⟨z.lg.rs, z.lg.f⟩⟩ true).hs⟩ = 9 - 2 * ((k + 1 : Nat) : Int) := t3
    have hw2 : IntKind.wrap .i64 (2 * ((k + 1 : Nat) : Int)) = 2 * ((k + 1 : Nat) : Int) := wrap64 (by omega) (by omega)
    have hw3 : IntKind.wrap .i64 (9 - 2 * ((k + 1 : Nat) : Int)) = 9 - 2 * ((k + 1 : Nat) : Int) := wrap64 (by omega) (by omega)
    simp only [Wd.e] at c1
    simp (disch := first | assumption | omega | (simp only [List.length_append, List.length_map, List.length_cons, List.length_nil]; omega)) only [wEnv, wEnv2, den_row, den_up, den_jump, den_chk, den_join, den_letp, den_ite, den_ret, den_call, dens, Cell.den, At.den, Prim.den, List.cons_append, List.nil_append, padC, cellKs, CK.of, beqI, bneI, Bool.decide_eq_true, Wd.e, h4, if_false, e6, c1, e7, i_DeskTrips hdS', hdo', if_true, Int.reduceEq, reduceIte, zU, zT, getC, Bool.and_true, List.length_map, List.length_nil, List.length_cons, List.nil_append]
    rw [den_iter]
    simp only [dens, Cell.den, At.den, C.toInt_int]
    rw [loopAll (l := ltrips y.dk.lg true) (o := .ret [.bool true])]
    · rfl
    · intro i b hb
      have hi := (List.getElem?_eq_some_iff.1 hb).1
      have hi' : (i : Int) < ((ltrips y.dk.lg true).length : Nat) := by omega
      have hs4 : b.s = 4 := by simpa using t2 b (List.mem_of_getElem? hb)
      simp (disch := first | assumption | omega | (simp only [List.length_append, List.length_map, List.length_cons, List.length_nil]; omega)) only [wEnv, wEnv2, den_row, den_up, den_jump, den_chk, den_join, den_letp, den_ite, den_ret, den_call, dens, Cell.den, At.den, Prim.den, List.cons_append, List.nil_append, padC, cellKs, CK.of, beqI, bneI, Bool.decide_eq_true, hi', if_true, row_T hb, Trip.e, hs4, wrap_nat, Int.reduceEq, reduceIte, zU, zT, getC, Bool.and_true, List.length_map, List.length_nil, List.length_cons, List.nil_append]
      try rfl
    · have h : ¬ (((ltrips y.dk.lg true).length : Int) < ((ltrips y.dk.lg true).length : Nat)) := by omega
      simp (disch := first | assumption | omega | (simp only [List.length_append, List.length_map, List.length_cons, List.length_nil]; omega)) only [wEnv, wEnv2, den_row, den_up, den_jump, den_chk, den_join, den_letp, den_ite, den_ret, den_call, dens, Cell.den, At.den, Prim.den, List.cons_append, List.nil_append, padC, cellKs, CK.of, beqI, bneI, Bool.decide_eq_true, h, if_false, Int.reduceEq, reduceIte, zU, zT, getC, Bool.and_true, List.length_map, List.length_nil, List.length_cons, List.nil_append]
      simp (disch := first | assumption | omega | (simp only [List.length_append, List.length_map, List.length_cons, List.length_nil]; omega)) only [wEnv, wEnv2, den_row, den_up, den_jump, den_chk, den_join, den_letp, den_ite, den_ret, den_call, dens, Cell.den, At.den, Prim.den, List.cons_append, List.nil_append, padC, cellKs, CK.of, beqI, bneI, Bool.decide_eq_true, t1', hrow, House.e, e8, i_HouseStock b1.S, b2, Stock.e, e9, i_StockFree hs', t3', hw2, hw3, if_true, decide_true, Int.reduceEq, reduceIte, zU, zT, getC, Bool.and_true, List.length_map, List.length_nil, List.length_cons, List.nil_append]
      try rfl
end
end Dx


namespace Dx
open Go Go.Proofs
def c_bk : Con := ⟨[.own false [.val] [.list] false, .own false [.val] [.list] false], [⟨false, [.val], [.bool], false⟩]⟩
def h_bk : How := ⟨getH [(2, ⟨[kI], [(4, (.bool (.b false))), (16, (sI 0))], [], [], 0⟩), (0, ⟨[kI, .bool, .list, kI, .list, .list, .list], [(14, (sI 0))], [(6, .cells [(.bool (.v 1)), (.view true (.v 2)), (sI 3), (.view true (.v 4)), (.view true (.v 5)), (.view true (.v 6))])], [], 0⟩)],
  getH [],
  getH []⟩
theorem has_bk : Has Tryz.prog 8 c_bk φ_bk := fp (R := []) (tr := false) (E := [(21, 0, c_ax), (22, 1, c_cg), (23, 2, c_cm), (17, 3, c_ev), (27, 4, c_dk), (28, 5, c_ew), (16, 6, c_cu), (24, 7, c_cs), (26, 8, c_by), (25, 9, c_db)]) (Φ := Φ_bk) (t := t_bk) ⟨has_ax, has_cg, has_cm, has_ev, has_dk, has_ew, has_cu, has_cs, has_by, has_db, trivial⟩ Tryz.f8 h_bk (by kernel_rfl)
end Dx
namespace Go.Proofs.YtcgenclbnnigeaaGreat.fnWorldRoom
open Go.ChangeShapes Go.WideShapes Go.ChangeAt Go.RowKit Dx
set_option linter.unusedVariables false
set_option maxRecDepth 100000

theorem own : ownKnob Tryz.prog.godebug = none := by kernel_rfl
theorem params : Tryz.f8.params = #[22, 22] := by kernel_rfl
theorem results : Tryz.f8.resultTypes = #[4] := by kernel_rfl
theorem t22 : Tryz.prog.underlying 22 = some (.slice 5) := by kernel_rfl
theorem t5 : Tryz.prog.underlying 5 = some (.int .u8) := by kernel_rfl
theorem t4 : Tryz.prog.underlying 4 = some .bool := by kernel_rfl
theorem c5 : Tryz.prog.cellsOf 5 = 1 := by kernel_rfl
theorem func : Tryz.prog.funcs[8]? = some Tryz.f8 := by kernel_rfl

theorem small {H : Type} {d : DataW H} (hk : Rows.uptoSmall H [d] = true) : Rows.uptoBulkAll [d] ≤ 1048576 := of_decide_eq_true hk
theorem bytes_bulk {H : Type} : ∀ l : List Int, l.length ≤ Rows.uptoBulkAll (Go.ChangeShapes.lits (H := H) .u8 l)
  | [] => Nat.zero_le _
  | x :: l => by
    have e : Go.ChangeShapes.lits (H := H) .u8 (x :: l) = .lit (.int .u8 x) :: Go.ChangeShapes.lits .u8 l := rfl
    have := bytes_bulk (H := H) l
    rw [e]
    simp only [Rows.uptoBulkAll, Rows.uptoBulk, List.length_cons]
    omega

theorem small2 {H : Type} {d e : DataW H} (hk : Rows.uptoSmall H [d, e] = true) : Rows.uptoBulkAll [d, e] ≤ 1048576 := of_decide_eq_true hk
theorem code_bulk {H : Type} {d : DataW H} {code : List Int} (hd : d = .nil ∧ code = [] ∨ ∃ spare, d = .slice (Go.ChangeShapes.lits .u8 code) spare) : code.length ≤ Rows.uptoBulk d := by
  rcases hd with ⟨_, rfl⟩ | ⟨spare, rfl⟩
  · exact Nat.zero_le _
  · have := bytes_bulk (H := H) code
    simp only [Rows.uptoBulk]
    omega

theorem contract (H : Type) (enc : TypeId × Value → H) (W : World) (base : Nat) (args : Array Value) (ds gs : List (DataW H)) (before : List MemPlace)
    (hval : ∀ (j : Nat) t v, Tryz.f8.params[j]? = some t → args[j]? = some v → Value.okWide Tryz.prog W .any base t v)
    (hW : DataW.Whole enc Tryz.prog Tryz.f8.params.toList Rows.fnWorldRoomSpec.vars false W args.toList ds gs before) (hk : Rows.uptoSmall H (ds ++ gs) = true) :
    Calls Tryz.prog 8 args W fun e W' => ∃ v, e = .returned v ∧ Rows.fnWorldRoomSpec.post enc Tryz.prog Tryz.f8 false true false false W args v W' := by
  have hW' := hW
  obtain ⟨p, q, hA0, hV, rfl, hfz, hnd⟩ := hW
  have hA : DataW.TrodAll enc Tryz.prog W 0 (fun _ => true) true Tryz.f8.params.toList args.toList ds p := hA0
  rw [params] at hA hval
  obtain ⟨v0, vs0, d0, ds0, p0, q0, hargs, rfl, rfl, h0, r0⟩ := trodAll_cons hA
  obtain ⟨v1, vs1, d1, ds1, p1, q1, rfl, rfl, rfl, h1, r1⟩ := trodAll_cons r0
  obtain ⟨rfl, rfl, rfl⟩ := trodAll_nil r1
  obtain rfl : args = #[v0, v1] := by cases args; simp_all
  obtain ⟨rfl, rfl⟩ := trodVars_none hV
  obtain ⟨code, hb, hrep, hd, hshut⟩ := open_code t22 t5 c5 (hval 0 22 v0 rfl rfl) h0
  obtain ⟨more, hb1, hrep1, hd1, hshut1⟩ := open_code t22 t5 c5 (hval 1 22 v1 rfl rfl) h1
  have hk := small2 hk
  simp only [Rows.uptoBulkAll] at hk
  have l0 := code_bulk hd
  have l1 := code_bulk hd1
  have hlen : code.length ≤ 1048576 := by omega
  have hlen1 : more.length ≤ 1048576 := by omega
  refine (law_calls (vs := [v0, v1]) has_bk (by simp [lawPar]) ⟨[.list (code.map cB)], [.list (more.map cB)], v0, [v1], [], [], rfl, rfl, rfl, law_par (hrep (by omega)), [.list (more.map cB)], [], v1, [], [], [], rfl, rfl, rfl, law_par (hrep1 (by omega)), rfl, rfl, rfl⟩ (law_WorldRoom (by omega) hb)).mono ?_
  rintro e W' ⟨rfl, g1, g2, g3⟩
  refine ⟨_, rfl, [d0, d1], [], p0 ++ p1, [], p0 ++ p1, [], by simpa using hW', trodAll_cons_mk (shut_bool t4 _) trodAll_mk0, ?_, rfl, kept_of g1 g2 g3 _, fun h => by cases h⟩
  rw [params]
  have := trodAll_cons_mk (hshut W' g3) (trodAll_cons_mk (hshut1 W' g3) (trodAll_mk0 (enc := enc) (P := Tryz.prog) (w := W') (base := 0) (spare := fun b => decide (b < W.heap.size)) (held := true)))
  rw [List.append_nil] at this
  exact this

set_option maxRecDepth 100000 in
theorem lifted (os : Os) (started : os.Started) (H : Type) (enc : TypeId × Value → H) (F : Stop.Interp) :
    ReturnsInHanded {} Tryz.checked os 8 .any ((Rows.OpenSpec.upto Rows.fnWorldRoomSpec).pre6 enc Tryz.prog Tryz.f8 Rows.fnWorldRoomUptoRow.domain false) (((Rows.OpenSpec.upto Rows.fnWorldRoomSpec).at F).post enc Tryz.prog Tryz.f8 false true false false) := by
  refine returnsInHanded_of_cond (C := Tryz.checked) (s := Rows.OpenSpec.upto Rows.fnWorldRoomSpec) (k := Rows.uptoSmall) rfl own started (by kernel_rfl) func
    (OpenSpec.witness (enc := enc) (C := Tryz.checked) (s := Rows.OpenSpec.upto Rows.fnWorldRoomSpec) (k := Rows.uptoSmall) rfl false ⟨#[], #[.slice none 0 0, .slice none 0 0], []⟩ 8 (by kernel_rfl) (by kernel_rfl) (by kernel_rfl)
      (x := ([.nil, .nil], [], [])) (by kernel_rfl) rfl (by kernel_rfl)) ?_
  intro W base args ds gs before hval hW _ hk _
  exact contract H enc W base args ds gs before hval hW hk

theorem proved : Rows.FnWorldRoomUptoSaid :=
  OpenClaim.holds_of_cond 8 Tryz.f8 rfl rfl rfl rfl rfl rfl rfl ⟨rfl, rfl, rfl, rfl, rfl⟩ rfl rfl rfl rfl rfl (by kernel_rfl) func (by kernel_rfl)
    (of_decide_eq_true (by kernel_rfl)) (by unfold Func.isWrapper; first | (rw [if_pos (by decide +kernel)]; kernel_rfl) | (rw [if_neg (by decide +kernel)]; exact ⟨rfl, rfl⟩))
    (fun os started H enc _ F => lifted os started H enc F)
#print axioms proved
end Go.Proofs.YtcgenclbnnigeaaGreat.fnWorldRoom
