/- PROVED: Rows.FnWorldDoUptoSaid: whatever the input of bulk at most 1048576, laws.FnWorldDo returns true, and its arguments read as they did. No condition beyond the statement's own. -/
import Derived.Test.YtcgenclbnnigeabGreatZb
import Derived.Test.YtcgenclbnnigeabGreatHa
import Derived.Test.YtcgenclbnnigeabGreatJa
import Derived.Test.YtcgenclbnnigeabGreatRows
set_option linter.all false
set_option linter.unusedVariables false
set_option linter.unusedSimpArgs false
set_option linter.unnecessarySimpa false
namespace Dx
open Go Go.Proofs
def t_ci : Tree :=
.letp .len [⟨.list, (.v 0)⟩] <|
.letp .gtI [⟨(.int .i64), (.v 1)⟩, ⟨(.int .i64), (.n 1048576)⟩] <|
.ite (.v 2) (
 .ret [⟨.bool, (.b true)⟩]) <|
.call 0 [⟨.list, (.v 0)⟩] [.bool, .list, (.int .i64), .list, .list, .list, (.int .i64), (.int .i64), (.int .i64), .list] <|
.call 1 [⟨.bool, (.v 3)⟩, ⟨.list, (.v 4)⟩, ⟨(.int .i64), (.v 5)⟩, ⟨.list, (.v 6)⟩, ⟨.list, (.v 7)⟩, ⟨.list, (.v 8)⟩, ⟨(.int .i64), (.v 9)⟩, ⟨(.int .i64), (.v 10)⟩, ⟨(.int .i64), (.v 11)⟩, ⟨.list, (.v 12)⟩] [.bool, .list, (.int .i64), .list, .list, .list] <|
.call 2 [⟨.bool, (.v 3)⟩, ⟨.list, (.v 4)⟩, ⟨(.int .i64), (.v 5)⟩, ⟨.list, (.v 6)⟩, ⟨.list, (.v 7)⟩, ⟨.list, (.v 8)⟩, ⟨(.int .i64), (.v 9)⟩, ⟨(.int .i64), (.v 10)⟩, ⟨(.int .i64), (.v 11)⟩, ⟨.list, (.v 12)⟩] [.bool, .list, (.int .i64), .list, .list, .list] <|
.call 3 [⟨.bool, (.v 13)⟩, ⟨.list, (.v 14)⟩, ⟨(.int .i64), (.v 15)⟩, ⟨.list, (.v 16)⟩, ⟨.list, (.v 17)⟩, ⟨.list, (.v 18)⟩, ⟨.bool, (.v 19)⟩, ⟨.list, (.v 20)⟩, ⟨(.int .i64), (.v 21)⟩, ⟨.list, (.v 22)⟩, ⟨.list, (.v 23)⟩, ⟨.list, (.v 24)⟩] [.bool] <|
.letp .not [⟨.bool, (.v 25)⟩] <|
.ite (.v 26) (
 .call 2 [⟨.bool, (.v 3)⟩, ⟨.list, (.v 4)⟩, ⟨(.int .i64), (.v 5)⟩, ⟨.list, (.v 6)⟩, ⟨.list, (.v 7)⟩, ⟨.list, (.v 8)⟩, ⟨(.int .i64), (.v 9)⟩, ⟨(.int .i64), (.v 10)⟩, ⟨(.int .i64), (.v 11)⟩, ⟨.list, (.v 12)⟩] [.bool, .list, (.int .i64), .list, .list, .list] <|
 .call 3 [⟨.bool, (.v 13)⟩, ⟨.list, (.v 14)⟩, ⟨(.int .i64), (.v 15)⟩, ⟨.list, (.v 16)⟩, ⟨.list, (.v 17)⟩, ⟨.list, (.v 18)⟩, ⟨.bool, (.v 27)⟩, ⟨.list, (.v 28)⟩, ⟨(.int .i64), (.v 29)⟩, ⟨.list, (.v 30)⟩, ⟨.list, (.v 31)⟩, ⟨.list, (.v 32)⟩] [.bool] <|
 .ret [⟨.bool, (.v 33)⟩]) <|
.call 4 [⟨.bool, (.v 3)⟩, ⟨.list, (.v 4)⟩, ⟨(.int .i64), (.v 5)⟩, ⟨.list, (.v 6)⟩, ⟨.list, (.v 7)⟩, ⟨.list, (.v 8)⟩] [.bool] <|
.letp .not [⟨.bool, (.v 27)⟩] <|
.ite (.v 28) (
 .call 2 [⟨.bool, (.v 3)⟩, ⟨.list, (.v 4)⟩, ⟨(.int .i64), (.v 5)⟩, ⟨.list, (.v 6)⟩, ⟨.list, (.v 7)⟩, ⟨.list, (.v 8)⟩, ⟨(.int .i64), (.v 9)⟩, ⟨(.int .i64), (.v 10)⟩, ⟨(.int .i64), (.v 11)⟩, ⟨.list, (.v 12)⟩] [.bool, .list, (.int .i64), .list, .list, .list] <|
 .call 3 [⟨.bool, (.v 13)⟩, ⟨.list, (.v 14)⟩, ⟨(.int .i64), (.v 15)⟩, ⟨.list, (.v 16)⟩, ⟨.list, (.v 17)⟩, ⟨.list, (.v 18)⟩, ⟨.bool, (.v 29)⟩, ⟨.list, (.v 30)⟩, ⟨(.int .i64), (.v 31)⟩, ⟨.list, (.v 32)⟩, ⟨.list, (.v 33)⟩, ⟨.list, (.v 34)⟩] [.bool] <|
 .ret [⟨.bool, (.v 35)⟩]) <|
.letp .ltI [⟨(.int .i64), (.v 15)⟩, ⟨(.int .i64), (.v 5)⟩] <|
.ite (.v 29) (
 .ret [⟨.bool, (.b false)⟩]) <|
.chk .upto [⟨(.int .i64), (.v 5)⟩, ⟨.list, (.v 14)⟩] <|
.letp .take [⟨.list, (.v 14)⟩, ⟨(.int .i64), (.v 5)⟩] <|
.chk .upto [⟨(.int .i64), (.v 5)⟩, ⟨.list, (.v 4)⟩] <|
.letp .take [⟨.list, (.v 4)⟩, ⟨(.int .i64), (.v 5)⟩] <|
.call 5 [⟨.list, (.v 30)⟩, ⟨.list, (.v 31)⟩] [.bool] <|
.letp .not [⟨.bool, (.v 32)⟩] <|
.ite (.v 33) (
 .ret [⟨.bool, (.b false)⟩]) <|
.iter [⟨(.int .i64), (.n 0)⟩] <|
.letp .len [⟨.list, (.v 7)⟩] <|
.letp .ltI [⟨(.int .i64), (.v 34)⟩, ⟨(.int .i64), (.v 35)⟩] <|
.ite (.v 36) (
 .row (.v 7) (.v 34) [(.int .i64), .bool, (.int .i64), .list, (.int .i64)] <|
 .row (.v 17) (.v 34) [(.int .i64), .bool, (.int .i64), .list, (.int .i64)] <|
 .letp .ltI [⟨(.int .i64), (.v 46)⟩, ⟨(.int .i64), (.v 41)⟩] <|
 .ite (.v 47) (
 .up <|
 .ret [⟨.bool, (.b false)⟩]) <|
 .row (.v 17) (.v 34) [(.int .i64), .bool, (.int .i64), .list, (.int .i64)] <|
 .chk .upto [⟨(.int .i64), (.v 41)⟩, ⟨.list, (.v 51)⟩] <|
 .letp .take [⟨.list, (.v 51)⟩, ⟨(.int .i64), (.v 41)⟩] <|
 .row (.v 7) (.v 34) [(.int .i64), .bool, (.int .i64), .list, (.int .i64)] <|
 .chk .upto [⟨(.int .i64), (.v 41)⟩, ⟨.list, (.v 57)⟩] <|
 .letp .take [⟨.list, (.v 57)⟩, ⟨(.int .i64), (.v 41)⟩] <|
 .call 5 [⟨.list, (.v 53)⟩, ⟨.list, (.v 59)⟩] [.bool] <|
 .letp .not [⟨.bool, (.v 60)⟩] <|
 .ite (.v 61) (
 .up <|
 .ret [⟨.bool, (.b false)⟩]) <|
 .letp (.add .i64) [⟨(.int .i64), (.v 34)⟩, ⟨(.int .i64), (.n 1)⟩] <|
 .jump [⟨(.int .i64), (.v 62)⟩]) <|
.up <|
.call 6 [⟨.bool, (.v 13)⟩, ⟨.list, (.v 14)⟩, ⟨(.int .i64), (.v 15)⟩, ⟨.list, (.v 16)⟩, ⟨.list, (.v 17)⟩, ⟨.list, (.v 18)⟩] [.bool] <|
.ret [⟨.bool, (.v 37)⟩]
noncomputable def Φ_ci : Phi := fun n => match n with
  | 0 => φ_bc
  | 1 => φ_dq
  | 2 => φ_dn
  | 3 => φ_dk
  | 4 => φ_dj
  | 5 => φ_fg
  | 6 => φ_em
  | _ => fun _ => none
noncomputable def φ_ci (cs : List C) : Option (List C) := retOf (den Φ_ci t_ci cs)
end Dx
/- A law, as it is drawn: whatever happens, a world is ok, and what was forced stays. -/
namespace Dx
open Go
section
variable {code more : List Int}
theorem recs_kp {a b : Log} (h : Kp a b) (ha : LgOk a) (hb : LgOk b) : φ_fg [.list ((b.rs.map Rec.e).take a.f.toNat), .list ((a.rs.map Rec.e).take a.f.toNat)] = some [.bool true] := by
  rw [← List.map_take, ← List.map_take, h.t]
  have := n_Recs (rs := a.rs.take a.f.toNat) (rs' := a.rs.take a.f.toNat) (by rw [List.length_take]; have := ha.len; omega) (fun r hr => ha.S.2 r (List.mem_of_mem_take hr))
  simpa only [decide_true] using this
set_option maxHeartbeats 2000000 in
theorem law_WorldDo (hl : code.length ≤ 1099511627776) (hc : Bytes code) : φ_ci [.list (code.map eB)] = some [.bool true] := by
  unfold φ_ci t_ci
  refine doHead_den rfl rfl rfl rfl rfl hl hc fun w e x ow he hx => ?_
  have e5 : Φ_ci 5 = φ_fg := rfl
  have e6 : Φ_ci 6 = φ_em := rfl
  have ox : WOk x := by rw [hx]; exact ow.do_ e
  have kp : KpW w x := by rw [hx]; exact kpw_do ow e
  have h3 := ow.len
  have k0 := kp.dk
  have kr := recs_kp k0 ow.dk.lg ox.dk.lg
  have wl := ow.dk.lg
  have xl := ox.dk.lg
  have f1 := wl.lo
  have f2 := wl.hi
  have f3 := xl.hi
  have f4 := k0.f
  have g1 : ¬ (x.dk.lg.f < w.dk.lg.f) := by omega
  have g2 : (decide ((0 : Int) ≤ w.dk.lg.f) && decide (w.dk.lg.f ≤ ((x.dk.lg.rs.map Rec.e).length : Nat))) = true := by simp; omega
  have g3 : (decide ((0 : Int) ≤ w.dk.lg.f) && decide (w.dk.lg.f ≤ ((w.dk.lg.rs.map Rec.e).length : Nat))) = true := by simp; omega
  unfold doEnv
  refine sl (congrArg C.bool (decide_eq_false g1)) (sf rfl (sk g2 (sl rfl (sk g3 (sl rfl (sc e5 kr rfl rfl (sl rfl (sf rfl ?_))))))))
  simp only [List.cons_append, List.nil_append]
  rw [den_iter]
  simp only [dens, Cell.den, At.den, C.toInt_int]
  rw [loopAll (l := w.hs) (o := .ret [.bool true])]
  · rfl
  · intro i y hy
    have hi := (List.getElem?_eq_some_iff.1 hy).1
    have hi' : (i : Int) < (w.hs.length : Nat) := by omega
    obtain ⟨z, hz, kz⟩ := kp.hs i y hy
    have yl := (ow.hs i y hy).1.lg
    have zl := (ox.hs i z hz).1.lg
    have y1 := yl.lo
    have y2 := yl.hi
    have y4 := zl.hi
    have y3 := kz.f
    have kr := recs_kp kz yl zl
    have g1 : ¬ (z.lg.f < y.lg.f) := by omega
    have g2 : y.lg.f ≤ ((z.lg.rs.length : Nat) : Int) := by omega
    simp (disch := first | assumption | omega | (simp only [zL]; omega)) only [wEnv, wEnv2, den_row, den_up, den_jump, den_chk, den_join, den_letp, den_ite, den_ret, den_call, dens, Cell.den, At.den, Prim.den, List.cons_append, List.nil_append, padC, cellKs, CK.of, beqI, bneI, Bool.decide_eq_true, hi', if_true, row_Hs hz, row_Hs hy, House.e, g1, g2, y1, y2, decide_true, Bool.and_self, e5, kr, if_false, wrap_nat, Int.reduceEq, reduceIte, zU, zT, getC]
    try rfl
  · have h : ¬ ((w.hs.length : Int) < (w.hs.length : Nat)) := by omega
    simp (disch := first | assumption | omega | (simp only [zL]; omega)) only [wEnv, wEnv2, den_row, den_up, den_jump, den_chk, den_join, den_letp, den_ite, den_ret, den_call, dens, Cell.den, At.den, Prim.den, List.cons_append, List.nil_append, padC, cellKs, CK.of, beqI, bneI, Bool.decide_eq_true, h, if_false, e6, i_WorldOk ox, Int.reduceEq, reduceIte, zU, zT, getC]
    try rfl
end
end Dx


namespace Dx
open Go Go.Proofs
def c_ci : Con := ⟨[.own false [.val] [.list] false], [⟨false, [.val], [.bool], false⟩]⟩
def h_ci : How := ⟨getH [(0, ⟨[kI], [(2, (.bool (.b false))), (7, (sI 0))], [], [], 0⟩)],
  getH [],
  getH []⟩
theorem has_ci : Has Tryz.prog 3 c_ci φ_ci := fp (R := []) (tr := false) (E := [(15, 0, c_bc), (16, 1, c_dq), (18, 2, c_dn), (17, 3, c_dk), (19, 4, c_dj), (20, 5, c_fg), (21, 6, c_em)]) (Φ := Φ_ci) (t := t_ci) ⟨has_bc, has_dq, has_dn, has_dk, has_dj, has_fg, has_em, trivial⟩ Tryz.f3 h_ci (by kernel_rfl)
end Dx
namespace Go.Proofs.YtcgenclbnnigeabGreat.fnWorldDo
open Go.ChangeShapes Go.WideShapes Go.ChangeAt Go.RowKit Dx
set_option linter.unusedVariables false
set_option maxRecDepth 100000

theorem own : ownKnob Tryz.prog.godebug = none := by kernel_rfl
theorem params : Tryz.f3.params = #[22] := by kernel_rfl
theorem results : Tryz.f3.resultTypes = #[4] := by kernel_rfl
theorem t22 : Tryz.prog.underlying 22 = some (.slice 5) := by kernel_rfl
theorem t5 : Tryz.prog.underlying 5 = some (.int .u8) := by kernel_rfl
theorem t4 : Tryz.prog.underlying 4 = some .bool := by kernel_rfl
theorem c5 : Tryz.prog.cellsOf 5 = 1 := by kernel_rfl
theorem func : Tryz.prog.funcs[3]? = some Tryz.f3 := by kernel_rfl

theorem small {H : Type} {d : DataW H} (hk : Rows.uptoSmall H [d] = true) : Rows.uptoBulkAll [d] ≤ 1048576 := of_decide_eq_true hk
theorem bytes_bulk {H : Type} : ∀ l : List Int, l.length ≤ Rows.uptoBulkAll (Go.ChangeShapes.lits (H := H) .u8 l)
  | [] => Nat.zero_le _
  | x :: l => by
    have e : Go.ChangeShapes.lits (H := H) .u8 (x :: l) = .lit (.int .u8 x) :: Go.ChangeShapes.lits .u8 l := rfl
    have := bytes_bulk (H := H) l
    rw [e]
    simp only [Rows.uptoBulkAll, Rows.uptoBulk, List.length_cons]
    omega

theorem contract (H : Type) (enc : TypeId × Value → H) (W : World) (base : Nat) (args : Array Value) (ds gs : List (DataW H)) (before : List MemPlace)
    (hval : ∀ (j : Nat) t v, Tryz.f3.params[j]? = some t → args[j]? = some v → Value.okWide Tryz.prog W .any base t v)
    (hW : DataW.Whole enc Tryz.prog Tryz.f3.params.toList Rows.fnWorldDoSpec.vars false W args.toList ds gs before) (hk : Rows.uptoSmall H (ds ++ gs) = true) :
    Calls Tryz.prog 3 args W fun e W' => ∃ v, e = .returned v ∧ Rows.fnWorldDoSpec.post enc Tryz.prog Tryz.f3 false true false false W args v W' := by
  have hW' := hW
  obtain ⟨p, q, hA0, hV, rfl, hfz, hnd⟩ := hW
  have hA : DataW.TrodAll enc Tryz.prog W 0 (fun _ => true) true Tryz.f3.params.toList args.toList ds p := hA0
  rw [params] at hA hval
  obtain ⟨v0, vs0, d0, ds0, p0, q0, hargs, rfl, rfl, h0, r0⟩ := trodAll_cons hA
  obtain ⟨rfl, rfl, rfl⟩ := trodAll_nil r0
  obtain rfl : args = #[v0] := by cases args; simp_all
  obtain ⟨rfl, rfl⟩ := trodVars_none hV
  obtain ⟨code, hb, hrep, hd, hshut⟩ := open_code t22 t5 c5 (hval 0 22 v0 rfl rfl) h0
  have hlen : code.length ≤ 1048576 := by
    have hk := small hk
    rcases hd with ⟨_, rfl⟩ | ⟨spare, rfl⟩
    · exact Nat.zero_le _
    · have := bytes_bulk (H := H) code
      simp only [Rows.uptoBulkAll, Rows.uptoBulk] at hk
      omega
  refine (law_calls (vs := [v0]) has_ci (by simp [lawPar]) ⟨[.list (code.map cB)], [], v0, [], [], [], rfl, rfl, rfl, law_par (hrep (by omega)), rfl, rfl, rfl⟩ (law_WorldDo (by omega) hb)).mono ?_
  rintro e W' ⟨rfl, h1, h2, h3⟩
  refine ⟨_, rfl, [d0], [], p0, [], p0, [], by simpa using hW', trodAll_cons_mk (shut_bool t4 _) trodAll_mk0, ?_, rfl, kept_of h1 h2 h3 _, fun h => by cases h⟩
  rw [params]
  have := trodAll_cons_mk (hshut W' h3) (trodAll_mk0 (enc := enc) (P := Tryz.prog) (w := W') (base := 0) (spare := fun b => decide (b < W.heap.size)) (held := true))
  rw [List.append_nil] at this
  exact this

set_option maxRecDepth 100000 in
theorem lifted (os : Os) (started : os.Started) (H : Type) (enc : TypeId × Value → H) (F : Stop.Interp) :
    ReturnsInHanded {} Tryz.checked os 3 .any ((Rows.OpenSpec.upto Rows.fnWorldDoSpec).pre6 enc Tryz.prog Tryz.f3 Rows.fnWorldDoUptoRow.domain false) (((Rows.OpenSpec.upto Rows.fnWorldDoSpec).at F).post enc Tryz.prog Tryz.f3 false true false false) := by
  refine returnsInHanded_of_cond (C := Tryz.checked) (s := Rows.OpenSpec.upto Rows.fnWorldDoSpec) (k := Rows.uptoSmall) rfl own started (by kernel_rfl) func
    (OpenSpec.witness (enc := enc) (C := Tryz.checked) (s := Rows.OpenSpec.upto Rows.fnWorldDoSpec) (k := Rows.uptoSmall) rfl false ⟨#[], #[.slice none 0 0], []⟩ 8 (by kernel_rfl) (by kernel_rfl) (by kernel_rfl)
      (x := ([.nil], [], [])) (by kernel_rfl) rfl (by kernel_rfl)) ?_
  intro W base args ds gs before hval hW _ hk _
  exact contract H enc W base args ds gs before hval hW hk

theorem proved : Rows.FnWorldDoUptoSaid :=
  OpenClaim.holds_of_cond 3 Tryz.f3 rfl rfl rfl rfl rfl rfl rfl ⟨rfl, rfl, rfl, rfl, rfl⟩ rfl rfl rfl rfl rfl (by kernel_rfl) func (by kernel_rfl)
    (of_decide_eq_true (by kernel_rfl)) (by unfold Func.isWrapper; first | (rw [if_pos (by decide +kernel)]; kernel_rfl) | (rw [if_neg (by decide +kernel)]; exact ⟨rfl, rfl⟩))
    (fun os started H enc _ F => lifted os started H enc F)
#print axioms proved
end Go.Proofs.YtcgenclbnnigeabGreat.fnWorldDo
