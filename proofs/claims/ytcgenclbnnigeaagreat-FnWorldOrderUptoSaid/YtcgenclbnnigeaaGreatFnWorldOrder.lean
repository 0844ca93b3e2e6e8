/- PROVED: Rows.FnWorldOrderUptoSaid: whatever the input of bulk at most 1048576, laws.FnWorldOrder returns true, and its arguments read as they did. No condition beyond the statement's own. -/
import Derived.Test.YtcgenclbnnigeaaGreatZb
import Derived.Test.YtcgenclbnnigeaaGreatHa
import Derived.Test.YtcgenclbnnigeaaGreatJa
import Derived.Test.YtcgenclbnnigeaaGreatRows
set_option linter.all false
set_option linter.unusedVariables false
set_option linter.unusedSimpArgs false
set_option linter.unnecessarySimpa false
namespace Dx
open Go Go.Proofs
def t_bc : Tree :=
 worldHead2 <|
.letp .len [⟨.list, (.v 1)⟩] <|
.letp (.rem .i64) [⟨(.int .i64), (.v 26)⟩, ⟨(.int .i64), (.n 3)⟩] <|
.letp (.add .i64) [⟨(.int .i64), (.n 1)⟩, ⟨(.int .i64), (.v 27)⟩] <|
.letp (.mkl 1) [⟨(.int .i64), (.v 28)⟩, ⟨(.int .i64), (.n 0)⟩, ⟨(.int .i64), (.n 0)⟩] <|
.letp (.mkl 1) [⟨(.int .i64), (.n 0)⟩, ⟨(.int .i64), (.v 28)⟩, ⟨(.int .i64), (.n 1)⟩] <|
.letp (.mkl 1) [⟨.list, (.v 29)⟩, ⟨.list, (.v 30)⟩] <|
.letp (.mkl 1) [⟨.list, (.v 30)⟩, ⟨.list, (.v 29)⟩] <|
.letp (.mkl 1) [⟨.list, (.v 31)⟩, ⟨.list, (.v 32)⟩] <|
.iter [⟨(.int .i64), (.n 0)⟩] <|
.letp .len [⟨.list, (.v 33)⟩] <|
.letp .ltI [⟨(.int .i64), (.v 34)⟩, ⟨(.int .i64), (.v 35)⟩] <|
.ite (.v 36) (
 .letp (.mkl 1) [⟨(.int .i64), (.v 28)⟩, ⟨(.int .i64), (.v 28)⟩, ⟨(.int .i64), (.n 1)⟩] <|
 .call 4 [⟨.list, (.v 37)⟩] [.bool, .list, (.int .i64), .list, .list, .list, .bool] <|
 .join [.bool, .list, (.int .i64), .list, .list, .list] (
 .chk .idx [⟨(.int .i64), (.v 34)⟩, ⟨.list, (.v 33)⟩] <|
 .row (.v 33) (.v 34) [.list] <|
 .row (.v 45) (.n 0) [.list] <|
 .call 5 [⟨.bool, (.v 38)⟩, ⟨.list, (.v 39)⟩, ⟨(.int .i64), (.v 40)⟩, ⟨.list, (.v 41)⟩, ⟨.list, (.v 42)⟩, ⟨.list, (.v 43)⟩, ⟨(.int .i64), (.n 1)⟩, ⟨(.int .i64), (.n 0)⟩, ⟨(.int .i64), (.n 0)⟩, ⟨.list, (.v 46)⟩] [.bool, .list, (.int .i64), .list, .list, .list] <|
 .jump [⟨.bool, (.v 47)⟩, ⟨.list, (.v 48)⟩, ⟨(.int .i64), (.v 49)⟩, ⟨.list, (.v 50)⟩, ⟨.list, (.v 51)⟩, ⟨.list, (.v 52)⟩]) <|
 .join [.bool, .list, (.int .i64), .list, .list, .list] (
 .chk .idx [⟨(.int .i64), (.v 34)⟩, ⟨.list, (.v 33)⟩] <|
 .row (.v 33) (.v 34) [.list] <|
 .row (.v 51) (.n 1) [.list] <|
 .call 5 [⟨.bool, (.v 45)⟩, ⟨.list, (.v 46)⟩, ⟨(.int .i64), (.v 47)⟩, ⟨.list, (.v 48)⟩, ⟨.list, (.v 49)⟩, ⟨.list, (.v 50)⟩, ⟨(.int .i64), (.n 1)⟩, ⟨(.int .i64), (.n 0)⟩, ⟨(.int .i64), (.n 0)⟩, ⟨.list, (.v 52)⟩] [.bool, .list, (.int .i64), .list, .list, .list] <|
 .jump [⟨.bool, (.v 53)⟩, ⟨.list, (.v 54)⟩, ⟨(.int .i64), (.v 55)⟩, ⟨.list, (.v 56)⟩, ⟨.list, (.v 57)⟩, ⟨.list, (.v 58)⟩]) <|
 .call 6 [⟨.bool, (.v 51)⟩, ⟨.list, (.v 52)⟩, ⟨(.int .i64), (.v 53)⟩, ⟨.list, (.v 54)⟩, ⟨.list, (.v 55)⟩, ⟨.list, (.v 56)⟩, ⟨(.int .i64), (.n 9)⟩] [.bool, .list, (.int .i64), .list, .list, .list] <|
 .call 7 [⟨.bool, (.v 57)⟩, ⟨.list, (.v 58)⟩, ⟨(.int .i64), (.v 59)⟩, ⟨.list, (.v 60)⟩, ⟨.bool, (.b true)⟩] [.list] <|
 .letp .len [⟨.list, (.v 63)⟩] <|
 .letp .neI [⟨(.int .i64), (.v 64)⟩, ⟨(.int .i64), (.n 2)⟩] <|
 .ite (.v 65) (
 .up <|
 .ret [⟨.bool, (.b false)⟩]) <|
 .row (.v 63) (.n 0) [.list, (.int .i64)] <|
 .letp .neI [⟨(.int .i64), (.v 67)⟩, ⟨(.int .i64), (.n 4)⟩] <|
 .ite (.v 68) (
 .up <|
 .ret [⟨.bool, (.b false)⟩]) <|
 .row (.v 63) (.n 1) [.list, (.int .i64)] <|
 .letp .neI [⟨(.int .i64), (.v 70)⟩, ⟨(.int .i64), (.n 4)⟩] <|
 .ite (.v 71) (
 .up <|
 .ret [⟨.bool, (.b false)⟩]) <|
 .letp (.add .i64) [⟨(.int .i64), (.v 34)⟩, ⟨(.int .i64), (.n 1)⟩] <|
 .jump [⟨(.int .i64), (.v 72)⟩]) <|
.up <|
.ret [⟨.bool, (.b true)⟩]
noncomputable def Φ_bc : Phi := fun n => match n with
  | 0 => φ_ax
  | 1 => φ_cg
  | 2 => φ_cm
  | 3 => φ_ev
  | 4 => φ_dk
  | 5 => φ_ew
  | 6 => φ_cu
  | 7 => φ_cs
  | _ => fun _ => none
noncomputable def φ_bc (cs : List C) : Option (List C) := retOf (den Φ_bc t_bc cs)
end Dx
/- A law, as it is drawn: two trips that want nothing in common do not mind each other. -/
namespace Dx
open Go
section
variable {code more : List Int}
theorem rowL0 (x y : List (List C)) (f : List C → Option Out) : rowD (.list [[.list x], [.list y]]) (.int .i64 0) [.list] f = f [.list x] := rfl
theorem rowL1 (x y : List (List C)) (f : List C → Option Out) : rowD (.list [[.list x], [.list y]]) (.int .i64 1) [.list] f = f [.list y] := rfl
theorem order_new {n : Int} (h : 1 ≤ n ∧ n ≤ 3) : ∃ w, worldNew [n, n, 1] = some w := by
  have : [n, n, 1].length = 3 ∧ [n, n, 1].all (fun n => in_ n 0 9) = true := by
    refine ⟨rfl, ?_⟩
    simp only [List.all_cons, List.all_nil, Bool.and_true, Bool.and_eq_true, in_iff]
    omega
  exact ⟨_, if_pos this⟩
theorem law_WorldOrder (hl : code.length ≤ 1099511627776) (hc : Bytes code) : φ_bc [.list (code.map eB), .list (more.map eB)] = some [.bool true] := by
  unfold φ_bc t_bc
  refine worldHead2_den rfl rfl rfl rfl hl hc fun rooms es w hm hw hr hel hes => ?_
  have e4 : Φ_bc 4 = φ_dk := rfl
  have e5 : Φ_bc 5 = φ_ew := rfl
  have e6 : Φ_bc 6 = φ_cu := rfl
  have e7 : Φ_bc 7 = φ_cs := rfl
  have hlt : more.length % 3 < 3 := Nat.mod_lt _ (by omega)
  have hmod : Int.tmod ((more.length : Nat) : Int) 3 = ((more.length % 3 : Nat) : Int) := rfl
  generalize hk : more.length % 3 = k at hlt hmod
  obtain ⟨n, hn⟩ : ∃ n : Int, n = 1 + (k : Int) := ⟨_, rfl⟩
  have hn3 : 1 ≤ n ∧ n ≤ 3 := by omega
  have hw1 : IntKind.wrap .i64 (1 + (k : Int)) = n := by rw [wrap64 (by omega) (by omega)]; omega
  have hT : orderT n = true := by
    have := order_ok
    simp only [Bool.and_eq_true] at this
    rcases (show n = 1 ∨ n = 2 ∨ n = 3 by omega) with e | e | e <;> subst e <;> simp [this]
  unfold orderT at hT
  simp only [Bool.and_eq_true, beq_iff_eq] at hT
  obtain ⟨t1, t2⟩ := hT
  have hA : ∃ a b : List Int, a = [n, 0, 0] ∧ b = [0, n, 1] := ⟨_, _, rfl, rfl⟩
  obtain ⟨A, B, eA, eB⟩ := hA
  rw [← eA, ← eB] at t1 t2
  obtain ⟨w0, h0⟩ := order_new hn3
  have o0 := worldNew_ok h0
  have hnew := i_WorldNew (rooms := [n, n, 1]) (by simp)
  rw [h0] at hnew
  simp only [Wd.e, List.map_cons, List.map_nil, eI, Option.getD_some, Option.isSome_some, List.cons_append, List.nil_append] at hnew
  -- one order of the two
  have one : ∀ a b : List Int, a.length ≤ 3 → b.length ≤ 3 → (ltrips (orderW n a b).dk.lg true).map (·.s) = [4, 4] → ∃ w1 w2 y : Wd,
      φ_ew (w0.e ++ [.int .i64 1, .int .i64 0, .int .i64 0, .list (a.map eI)]) = some w1.e ∧ φ_ew (w1.e ++ [.int .i64 1, .int .i64 0, .int .i64 0, .list (b.map eI)]) = some w2.e ∧
      φ_cu (w2.e ++ [.int .i64 9]) = some y.e ∧ ∃ t u : Trip, φ_cs (y.dk.e ++ [.bool true]) = some [.list [t.e, u.e]] ∧ t.s = 4 ∧ u.s = 4 := by
    intro a b ha hb hT
    have d1 := i_WorldDo o0 (e := ⟨1, 0, 0, a⟩) (by simp only; omega)
    have o1 := o0.do_ ⟨1, 0, 0, a⟩
    have d2 := i_WorldDo o1 (e := ⟨1, 0, 0, b⟩) (by simp only; omega)
    have o2 := o1.do_ ⟨1, 0, 0, b⟩
    have c1 : _ = some (wcalm (wdo (wdo w0 ⟨1, 0, 0, a⟩) ⟨1, 0, 0, b⟩) 9).e := i_WorldCalm o2 (r := 9) (by omega)
    have oy := o2.calm 9
    have ey : wcalm (wdo (wdo w0 ⟨1, 0, 0, a⟩) ⟨1, 0, 0, b⟩) 9 = orderW n a b := by unfold orderW orderB begin1; rw [h0]; rfl
    rw [ey] at c1 oy
    generalize orderW n a b = y at c1 oy hT
    refine ⟨_, _, y, d1, d2, c1, ?_⟩
    have hdo : deskOk ⟨y.dk.up, ⟨y.dk.lg.rs, y.dk.lg.f⟩, y.dk.td⟩ = true := deskOk_iff.2 oy.dk
    have hdt := i_DeskTrips (b := true) (up := y.dk.up) (rs := y.dk.lg.rs) (f := y.dk.lg.f) (td := y.dk.td) oy.dk.S
    rw [if_pos hdo] at hdt
    have hl2 : (ltrips y.dk.lg true).length = 2 := by have := congrArg List.length hT; simpa using this
    match hq : ltrips y.dk.lg true, hl2 with
    | [t, u], _ =>
      rw [hq] at hT
      simp only [List.map_cons, List.map_nil, List.cons.injEq, and_true] at hT
      refine ⟨t, u, ?_, hT.1, hT.2⟩
      have e1 : ltrips ⟨y.dk.lg.rs, y.dk.lg.f⟩ true = [t, u] := hq
      rw [e1] at hdt
      exact hdt
  obtain ⟨a1, a2, a3, p1, p2, p3, p, q, p4, p5, p6⟩ := one A B (by rw [eA]; simp) (by rw [eB]; simp) t1
  obtain ⟨b1, b2, b3, q1, q2, q3, p', q', q4, q5, q6⟩ := one B A (by rw [eB]; simp) (by rw [eA]; simp) t2
  clear t1 t2 one
  subst eA eB
  simp only [Wd.e, Desk.e, List.cons_append, List.nil_append, List.map_cons, List.map_nil, eI, Trip.e] at p1 p2 p3 p4 q1 q2 q3 q4
  have r0 : ∀ (x : List (List C)) (s : Int) (y : List C) (f : List C → Option Out), rowD (.list [[.list x, .int .i64 s], y]) (.int .i64 0) [.list, .int .i64] f = f [.list x, .int .i64 s] := fun x s y f => rfl
  have r1 : ∀ (x : List C) (y : List (List C)) (s : Int) (f : List C → Option Out), rowD (.list [x, [.list y, .int .i64 s]]) (.int .i64 1) [.list, .int .i64] f = f [.list y, .int .i64 s] := fun x y s f => rfl
  simp (disch := first | assumption | omega | (simp only [List.length_append, List.length_map, List.length_cons, List.length_nil]; omega)) only [wEnv, wEnv2, den_row, den_up, den_jump, den_chk, den_join, den_letp, den_ite, den_ret, den_call, dens, Cell.den, At.den, Prim.den, List.cons_append, List.nil_append, padC, cellKs, CK.of, beqI, bneI, Bool.decide_eq_true, hmod, hk, hw1, chunk3, chunk2, Int.reduceEq, reduceIte, zU, zT, getC, Bool.and_true, List.length_map, List.length_nil, List.length_cons, List.nil_append]
  rw [den_iter]
  simp only [dens, Cell.den, At.den, C.toInt_int]
  refine Eq.trans (congrArg retOf (Eq.trans (iter_jump (q := [.int .i64 1]) ?_) (Eq.trans (iter_jump (q := [.int .i64 2]) ?_) (iter_up (o := .ret [.bool true]) ?_)))) rfl
  · simp (disch := first | assumption | omega | (simp only [List.length_append, List.length_map, List.length_cons, List.length_nil]; omega)) only [wEnv, wEnv2, den_row, den_up, den_jump, den_chk, den_join, den_letp, den_ite, den_ret, den_call, dens, Cell.den, At.den, Prim.den, List.cons_append, List.nil_append, padC, cellKs, CK.of, beqI, bneI, Bool.decide_eq_true, chunk3, chunk2, e4, hnew, e5, e6, e7, rowL0, rowL1, p1, p2, p3, p4, p5, p6, r0, r1, Int.reduceLT, if_true, if_false, wrap64, Int.reduceEq, reduceIte, zU, zT, getC, Bool.and_true, List.length_map, List.length_nil, List.length_cons, List.nil_append]
    try rfl
  · simp (disch := first | assumption | omega | (simp only [List.length_append, List.length_map, List.length_cons, List.length_nil]; omega)) only [wEnv, wEnv2, den_row, den_up, den_jump, den_chk, den_join, den_letp, den_ite, den_ret, den_call, dens, Cell.den, At.den, Prim.den, List.cons_append, List.nil_append, padC, cellKs, CK.of, beqI, bneI, Bool.decide_eq_true, chunk3, chunk2, e4, hnew, e5, e6, e7, rowL0, rowL1, q1, q2, q3, q4, q5, q6, r0, r1, Int.reduceLT, if_true, if_false, wrap64, Int.reduceEq, reduceIte, zU, zT, getC, Bool.and_true, List.length_map, List.length_nil, List.length_cons, List.nil_append]
    try rfl
  · simp (disch := first | assumption | omega | (simp only [List.length_append, List.length_map, List.length_cons, List.length_nil]; omega)) only [wEnv, wEnv2, den_row, den_up, den_jump, den_chk, den_join, den_letp, den_ite, den_ret, den_call, dens, Cell.den, At.den, Prim.den, List.cons_append, List.nil_append, padC, cellKs, CK.of, beqI, bneI, Bool.decide_eq_true, Int.reduceLT, if_false, Int.reduceEq, reduceIte, zU, zT, getC, Bool.and_true, List.length_map, List.length_nil, List.length_cons, List.nil_append]
    try rfl
end
end Dx


namespace Dx
open Go Go.Proofs
def c_bc : Con := ⟨[.own false [.val] [.list] false, .own false [.val] [.list] false], [⟨false, [.val], [.bool], false⟩]⟩
def h_bc : How := ⟨getH [(0, ⟨[kI], [(4, (.bool (.b false))), (15, (sI 0))], [], [], 0⟩)],
  getH [(18, ⟨kW, [], [(11, .cells [(.bool (.v 0)), (.view true (.v 1)), (sI 2), (.view true (.v 3)), (.view true (.v 4)), (.view true (.v 5))])], [], 0⟩), (17, ⟨kW, [], [(11, .cells [(.bool (.v 0)), (.view true (.v 1)), (sI 2), (.view true (.v 3)), (.view true (.v 4)), (.view true (.v 5))])], [], 0⟩)],
  getH []⟩
theorem has_bc : Has Tryz.prog 6 c_bc φ_bc := fp (R := []) (tr := false) (E := [(21, 0, c_ax), (22, 1, c_cg), (23, 2, c_cm), (17, 3, c_ev), (27, 4, c_dk), (28, 5, c_ew), (16, 6, c_cu), (24, 7, c_cs)]) (Φ := Φ_bc) (t := t_bc) ⟨has_ax, has_cg, has_cm, has_ev, has_dk, has_ew, has_cu, has_cs, trivial⟩ Tryz.f6 h_bc (by kernel_rfl)
end Dx
namespace Go.Proofs.YtcgenclbnnigeaaGreat.fnWorldOrder
open Go.ChangeShapes Go.WideShapes Go.ChangeAt Go.RowKit Dx
set_option linter.unusedVariables false
set_option maxRecDepth 100000

theorem own : ownKnob Tryz.prog.godebug = none := by kernel_rfl
theorem params : Tryz.f6.params = #[22, 22] := by kernel_rfl
theorem results : Tryz.f6.resultTypes = #[4] := by kernel_rfl
theorem t22 : Tryz.prog.underlying 22 = some (.slice 5) := by kernel_rfl
theorem t5 : Tryz.prog.underlying 5 = some (.int .u8) := by kernel_rfl
theorem t4 : Tryz.prog.underlying 4 = some .bool := by kernel_rfl
theorem c5 : Tryz.prog.cellsOf 5 = 1 := by kernel_rfl
theorem func : Tryz.prog.funcs[6]? = some Tryz.f6 := by kernel_rfl

theorem small {H : Type} {d : DataW H} (hk : Rows.uptoSmall H [d] = true) : Rows.uptoBulkAll [d] ≤ 1048576 := of_decide_eq_true hk
theorem bytes_bulk {H : Type} : ∀ l : List Int, l.length ≤ Rows.uptoBulkAll (Go.ChangeShapes.lits (H := H) .u8 l)
  | [] => Nat.zero_le _
  | x :: l => by
    have e : Go.ChangeShapes.lits (H := H) .u8 (x :: l) = .lit (.int .u8 x) :: Go.ChangeShapes.lits .u8 l := rfl
    have := bytes_bulk (H := H) l
    rw [e]
    simp only [Rows.uptoBulkAll, Rows.uptoBulk, List.length_cons]
    omega

theorem small2 {H : Type} {d e : DataW H} (hk : Rows.uptoSmall H [d, e] = true) : Rows.uptoBulkAll [d, e] ≤ 1048576 := of_decide_eq_true hk
theorem code_bulk {H : Type} {d : DataW H} {code : List Int} (hd : d = .nil ∧ code = [] ∨ ∃ spare, d = .slice (Go.ChangeShapes.lits .u8 code) spare) : code.length ≤ Rows.uptoBulk d := by
  rcases hd with ⟨_, rfl⟩ | ⟨spare, rfl⟩
  · exact Nat.zero_le _
  · have := bytes_bulk (H := H) code
    simp only [Rows.uptoBulk]
    omega

theorem contract (H : Type) (enc : TypeId × Value → H) (W : World) (base : Nat) (args : Array Value) (ds gs : List (DataW H)) (before : List MemPlace)
    (hval : ∀ (j : Nat) t v, Tryz.f6.params[j]? = some t → args[j]? = some v → Value.okWide Tryz.prog W .any base t v)
    (hW : DataW.Whole enc Tryz.prog Tryz.f6.params.toList Rows.fnWorldOrderSpec.vars false W args.toList ds gs before) (hk : Rows.uptoSmall H (ds ++ gs) = true) :
    Calls Tryz.prog 6 args W fun e W' => ∃ v, e = .returned v ∧ Rows.fnWorldOrderSpec.post enc Tryz.prog Tryz.f6 false true false false W args v W' := by
  have hW' := hW
  obtain ⟨p, q, hA0, hV, rfl, hfz, hnd⟩ := hW
  have hA : DataW.TrodAll enc Tryz.prog W 0 (fun _ => true) true Tryz.f6.params.toList args.toList ds p := hA0
  rw [params] at hA hval
  obtain ⟨v0, vs0, d0, ds0, p0, q0, hargs, rfl, rfl, h0, r0⟩ := trodAll_cons hA
  obtain ⟨v1, vs1, d1, ds1, p1, q1, rfl, rfl, rfl, h1, r1⟩ := trodAll_cons r0
  obtain ⟨rfl, rfl, rfl⟩ := trodAll_nil r1
  obtain rfl : args = #[v0, v1] := by cases args; simp_all
  obtain ⟨rfl, rfl⟩ := trodVars_none hV
  obtain ⟨code, hb, hrep, hd, hshut⟩ := open_code t22 t5 c5 (hval 0 22 v0 rfl rfl) h0
  obtain ⟨more, hb1, hrep1, hd1, hshut1⟩ := open_code t22 t5 c5 (hval 1 22 v1 rfl rfl) h1
  have hk := small2 hk
  simp only [Rows.uptoBulkAll] at hk
  have l0 := code_bulk hd
  have l1 := code_bulk hd1
  have hlen : code.length ≤ 1048576 := by omega
  have hlen1 : more.length ≤ 1048576 := by omega
  refine (law_calls (vs := [v0, v1]) has_bc (by simp [lawPar]) ⟨[.list (code.map cB)], [.list (more.map cB)], v0, [v1], [], [], rfl, rfl, rfl, law_par (hrep (by omega)), [.list (more.map cB)], [], v1, [], [], [], rfl, rfl, rfl, law_par (hrep1 (by omega)), rfl, rfl, rfl⟩ (law_WorldOrder (by omega) hb)).mono ?_
  rintro e W' ⟨rfl, g1, g2, g3⟩
  refine ⟨_, rfl, [d0, d1], [], p0 ++ p1, [], p0 ++ p1, [], by simpa using hW', trodAll_cons_mk (shut_bool t4 _) trodAll_mk0, ?_, rfl, kept_of g1 g2 g3 _, fun h => by cases h⟩
  rw [params]
  have := trodAll_cons_mk (hshut W' g3) (trodAll_cons_mk (hshut1 W' g3) (trodAll_mk0 (enc := enc) (P := Tryz.prog) (w := W') (base := 0) (spare := fun b => decide (b < W.heap.size)) (held := true)))
  rw [List.append_nil] at this
  exact this

set_option maxRecDepth 100000 in
theorem lifted (os : Os) (started : os.Started) (H : Type) (enc : TypeId × Value → H) (F : Stop.Interp) :
    ReturnsInHanded {} Tryz.checked os 6 .any ((Rows.OpenSpec.upto Rows.fnWorldOrderSpec).pre6 enc Tryz.prog Tryz.f6 Rows.fnWorldOrderUptoRow.domain false) (((Rows.OpenSpec.upto Rows.fnWorldOrderSpec).at F).post enc Tryz.prog Tryz.f6 false true false false) := by
  refine returnsInHanded_of_cond (C := Tryz.checked) (s := Rows.OpenSpec.upto Rows.fnWorldOrderSpec) (k := Rows.uptoSmall) rfl own started (by kernel_rfl) func
    (OpenSpec.witness (enc := enc) (C := Tryz.checked) (s := Rows.OpenSpec.upto Rows.fnWorldOrderSpec) (k := Rows.uptoSmall) rfl false ⟨#[], #[.slice none 0 0, .slice none 0 0], []⟩ 8 (by kernel_rfl) (by kernel_rfl) (by kernel_rfl)
      (x := ([.nil, .nil], [], [])) (by kernel_rfl) rfl (by kernel_rfl)) ?_
  intro W base args ds gs before hval hW _ hk _
  exact contract H enc W base args ds gs before hval hW hk

theorem proved : Rows.FnWorldOrderUptoSaid :=
  OpenClaim.holds_of_cond 6 Tryz.f6 rfl rfl rfl rfl rfl rfl rfl ⟨rfl, rfl, rfl, rfl, rfl⟩ rfl rfl rfl rfl rfl (by kernel_rfl) func (by kernel_rfl)
    (of_decide_eq_true (by kernel_rfl)) (by unfold Func.isWrapper; first | (rw [if_pos (by decide +kernel)]; kernel_rfl) | (rw [if_neg (by decide +kernel)]; exact ⟨rfl, rfl⟩))
    (fun os started H enc _ F => lifted os started H enc F)
#print axioms proved
end Go.Proofs.YtcgenclbnnigeaaGreat.fnWorldOrder
