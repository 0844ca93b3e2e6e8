/- PROVED: Rows.FnWorldCalmUptoSaid: whatever the input of bulk at most 1048576, laws.FnWorldCalm returns true, and its arguments read as they did. No condition beyond the statement's own. -/
import Derived.Test.YtcgenclbnnigeaaGreatZb
import Derived.Test.YtcgenclbnnigeaaGreatHa
import Derived.Test.YtcgenclbnnigeaaGreatJa
import Derived.Test.YtcgenclbnnigeaaGreatRows
set_option linter.all false
set_option linter.unusedVariables false
set_option linter.unusedSimpArgs false
set_option linter.unnecessarySimpa false
namespace Dx
open Go Go.Proofs
def t_bh : Tree :=
 worldHead <|
.call 4 [⟨.bool, (.v 5)⟩, ⟨.list, (.v 6)⟩, ⟨(.int .i64), (.v 7)⟩, ⟨.list, (.v 8)⟩, ⟨.list, (.v 9)⟩, ⟨.list, (.v 10)⟩, ⟨(.int .i64), (.n 9)⟩] [.bool, .list, (.int .i64), .list, .list, .list] <|
.call 5 [⟨.bool, (.v 23)⟩, ⟨.list, (.v 24)⟩, ⟨(.int .i64), (.v 25)⟩, ⟨.list, (.v 26)⟩, ⟨.bool, (.b true)⟩] [.list] <|
.iter [⟨(.int .i64), (.n 1)⟩] <|
.letp .len [⟨.list, (.v 29)⟩] <|
.letp .leI [⟨(.int .i64), (.v 30)⟩, ⟨(.int .i64), (.v 31)⟩] <|
.ite (.v 32) (
 .letp (.sub .i64) [⟨(.int .i64), (.v 30)⟩, ⟨(.int .i64), (.n 1)⟩] <|
 .row (.v 29) (.v 33) [.list, (.int .i64)] <|
 .letp .ltI [⟨(.int .i64), (.v 35)⟩, ⟨(.int .i64), (.n 4)⟩] <|
 .ite (.v 36) (
 .up <|
 .ret [⟨.bool, (.b false)⟩]) <|
 .call 6 [⟨.bool, (.v 23)⟩, ⟨.list, (.v 24)⟩, ⟨(.int .i64), (.v 25)⟩, ⟨.list, (.v 26)⟩, ⟨.list, (.v 27)⟩, ⟨.list, (.v 28)⟩, ⟨(.int .i64), (.v 30)⟩] [.list] <|
 .iter [⟨(.int .i64), (.n 0)⟩] <|
 .letp .len [⟨.list, (.v 37)⟩] <|
 .letp .ltI [⟨(.int .i64), (.v 38)⟩, ⟨(.int .i64), (.v 39)⟩] <|
 .ite (.v 40) (
 .row (.v 37) (.v 38) [(.int .i64), (.int .i64)] <|
 .letp .eqI [⟨(.int .i64), (.v 42)⟩, ⟨(.int .i64), (.n 1)⟩] <|
 .ite (.v 43) (
 .up <|
 .up <|
 .ret [⟨.bool, (.b false)⟩]) <|
 .letp (.add .i64) [⟨(.int .i64), (.v 38)⟩, ⟨(.int .i64), (.n 1)⟩] <|
 .jump [⟨(.int .i64), (.v 44)⟩]) <|
 .up <|
 .letp (.add .i64) [⟨(.int .i64), (.v 30)⟩, ⟨(.int .i64), (.n 1)⟩] <|
 .jump [⟨(.int .i64), (.v 41)⟩]) <|
.up <|
.call 7 [⟨.bool, (.v 23)⟩, ⟨.list, (.v 24)⟩, ⟨(.int .i64), (.v 25)⟩, ⟨.list, (.v 26)⟩, ⟨.list, (.v 27)⟩, ⟨.list, (.v 28)⟩] [.bool] <|
.ite (.v 33) (
 .letp .len [⟨.list, (.v 29)⟩] <|
 .call 5 [⟨.bool, (.v 5)⟩, ⟨.list, (.v 6)⟩, ⟨(.int .i64), (.v 7)⟩, ⟨.list, (.v 8)⟩, ⟨.bool, (.b false)⟩] [.list] <|
 .letp .len [⟨.list, (.v 35)⟩] <|
 .letp .eqI [⟨(.int .i64), (.v 34)⟩, ⟨(.int .i64), (.v 36)⟩] <|
 .ite (.v 37) (
 .call 8 [⟨.bool, (.v 23)⟩, ⟨.list, (.v 24)⟩, ⟨(.int .i64), (.v 25)⟩, ⟨.list, (.v 26)⟩] [.list] <|
 .letp .len [⟨.list, (.v 38)⟩] <|
 .letp .eqI [⟨(.int .i64), (.v 39)⟩, ⟨(.int .i64), (.n 0)⟩] <|
 .ret [⟨.bool, (.v 40)⟩]) <|
 .ret [⟨.bool, (.b false)⟩]) <|
.ret [⟨.bool, (.b false)⟩]
noncomputable def Φ_bh : Phi := fun n => match n with
  | 0 => φ_ax
  | 1 => φ_cg
  | 2 => φ_cm
  | 3 => φ_ev
  | 4 => φ_cu
  | 5 => φ_cs
  | 6 => φ_cb
  | 7 => φ_fv
  | 8 => φ_cy
  | _ => fun _ => none
noncomputable def φ_bh (cs : List C) : Option (List C) := retOf (den Φ_bh t_bh cs)
end Dx
/- A law, as it is drawn: in a calm each trip ends. -/
namespace Dx
open Go
section
variable {code more : List Int}
theorem law_WorldCalm (hl : code.length ≤ 1099511627776) (hc : Bytes code) : φ_bh [.list (code.map eB)] = some [.bool true] := by
  unfold φ_bh t_bh
  refine worldHead_den rfl rfl rfl rfl hl hc fun rooms es w hw hr hel hes => ?_
  obtain ⟨ow, I⟩ := inv_play hw
  have e4 : Φ_bh 4 = φ_cu := rfl
  have e5 : Φ_bh 5 = φ_cs := rfl
  have e6 : Φ_bh 6 = φ_cb := rfl
  have e7 : Φ_bh 7 = φ_fv := rfl
  have e8 : Φ_bh 8 = φ_cy := rfl
  have f := calm_fin ow I
  have hlen := (calm_A ow I 9).2.1
  have c1 : _ = some (wcalm w 9).e := i_WorldCalm ow (r := 9) (by omega)
  generalize wcalm w 9 = x at *
  have ox := f.ok
  have hdS : DkS ⟨x.dk.up, ⟨x.dk.lg.rs, x.dk.lg.f⟩, x.dk.td⟩ := ox.dk.S
  have hdo : deskOk ⟨x.dk.up, ⟨x.dk.lg.rs, x.dk.lg.f⟩, x.dk.td⟩ = true := deskOk_iff.2 ox.dk
  have hdS' : DkS ⟨w.dk.up, ⟨w.dk.lg.rs, w.dk.lg.f⟩, w.dk.td⟩ := ow.dk.S
  have hdo' : deskOk ⟨w.dk.up, ⟨w.dk.lg.rs, w.dk.lg.f⟩, w.dk.td⟩ = true := deskOk_iff.2 ow.dk
  have tr : TrOk (ltrips x.dk.lg true) := ox.dk.trOk true
  have tr6 := tr.len
  have hlen' : (((ltrips x.dk.lg true).length : Nat) : Int) = ((ltrips w.dk.lg false).length : Nat) := by
    have : (ltrips x.dk.lg true).length = (ltrips w.dk.lg false).length := by
      have h1 : (vw x).F.length = (vw w).A.length := by rw [f.F]; exact hlen
      exact h1
    rw [this]
  have hwords : dwords ⟨x.dk.up, ⟨x.dk.lg.rs, x.dk.lg.f⟩, x.dk.td⟩ = [] := f.words
  simp only [Wd.e] at c1
  simp (disch := first | assumption | omega | (simp only [List.length_append, List.length_map, List.length_cons, List.length_nil]; omega)) only [wEnv, wEnv2, den_row, den_up, den_jump, den_chk, den_join, den_letp, den_ite, den_ret, den_call, dens, Cell.den, At.den, Prim.den, List.cons_append, List.nil_append, padC, cellKs, CK.of, beqI, bneI, Bool.decide_eq_true, e4, c1, e5, i_DeskTrips hdS, hdo, if_true, Int.reduceEq, reduceIte, zU, zT, getC, Bool.and_true, List.length_map, List.length_nil, List.length_cons, List.nil_append]
  rw [den_iter]
  simp only [dens, Cell.den, At.den, C.toInt_int]
  rw [loopAll1 (l := ltrips x.dk.lg true) (o := .ret [.bool true])]
  · rfl
  · intro i y hy
    have hi := (List.getElem?_eq_some_iff.1 hy).1
    have hi' : ((i + 1 : Nat) : Int) ≤ ((ltrips x.dk.lg true).length : Nat) := by omega
    have ht1 : (1 : Int) ≤ ((i + 1 : Nat) : Int) := by omega
    have ht : isT ((i + 1 : Nat) : Int) := ⟨by omega, by omega⟩
    have hho := i_WorldHolds ox (t := ((i + 1 : Nat) : Int)) ht
    have hst : (tAt (ltrips x.dk.lg true) ((i + 1 : Nat) : Int)).s = 4 ∨ (tAt (ltrips x.dk.lg true) ((i + 1 : Nat) : Int)).s = 5 := f.fin _ ht1 hi'
    have hst4 : ¬ ((tAt (ltrips x.dk.lg true) ((i + 1 : Nat) : Int)).s < 4) := by omega
    have hw64 : IntKind.wrap .i64 (((i + 1 : Nat) : Int) - 1) = ((i + 1 : Nat) : Int) - 1 := wrap64 (by omega) (by omega)
    simp (disch := first | assumption | omega | (simp only [List.length_append, List.length_map, List.length_cons, List.length_nil]; omega)) only [wEnv, wEnv2, den_row, den_up, den_jump, den_chk, den_join, den_letp, den_ite, den_ret, den_call, dens, Cell.den, At.den, Prim.den, List.cons_append, List.nil_append, padC, cellKs, CK.of, beqI, bneI, Bool.decide_eq_true, hi', if_true, hw64, rowT ht1 hi', Trip.e, hst4, if_false, e6, hho, Int.reduceEq, reduceIte, zU, zT, getC, Bool.and_true, List.length_map, List.length_nil, List.length_cons, List.nil_append]
    rw [den_iter]
    simp only [dens, Cell.den, At.den, C.toInt_int]
    have hh3 : (holdsOf x ((i + 1 : Nat) : Int)).length = 3 := by unfold holdsOf; rw [List.length_map, ox.len]
    rw [loopAll (l := holdsOf x ((i + 1 : Nat) : Int)) (o := .jump [.int .i64 ((i + 1 + 1 : Nat) : Int)])]
    · intro h y hy
      have hh := (List.getElem?_eq_some_iff.1 hy).1
      have hh' : (h : Int) < ((holdsOf x ((i + 1 : Nat) : Int)).length : Nat) := by omega
      have hlt : h < 3 := by omega
      have hyA : y = (vw x).hA ((h + 1 : Nat) : Int) ((i + 1 : Nat) : Int) := by
        have := holds_at ox hlt ((i + 1 : Nat) : Int)
        rw [hy] at this
        simpa using this
      have hH : isH ((h + 1 : Nat) : Int) := ⟨by omega, by omega⟩
      have hho := f.hold hH ht
      rw [← hyA] at hho
      have h1 : ¬ (y.s = 1) := by omega
      simp (disch := first | assumption | omega | (simp only [List.length_append, List.length_map, List.length_cons, List.length_nil]; omega)) only [wEnv, wEnv2, den_row, den_up, den_jump, den_chk, den_join, den_letp, den_ite, den_ret, den_call, dens, Cell.den, At.den, Prim.den, List.cons_append, List.nil_append, padC, cellKs, CK.of, beqI, bneI, Bool.decide_eq_true, row_H hy, Hold.e, hh', h1, if_true, if_false, wrap_nat, Int.reduceEq, reduceIte, zU, zT, getC, Bool.and_true, List.length_map, List.length_nil, List.length_cons, List.nil_append]
      try rfl
    · have h : ¬ (((holdsOf x ((i + 1 : Nat) : Int)).length : Int) < ((holdsOf x ((i + 1 : Nat) : Int)).length : Nat)) := by omega
      simp (disch := first | assumption | omega | (simp only [List.length_append, List.length_map, List.length_cons, List.length_nil]; omega)) only [wEnv, wEnv2, den_row, den_up, den_jump, den_chk, den_join, den_letp, den_ite, den_ret, den_call, dens, Cell.den, At.den, Prim.den, List.cons_append, List.nil_append, padC, cellKs, CK.of, beqI, bneI, Bool.decide_eq_true, h, if_false, wrap_nat, Int.reduceEq, reduceIte, zU, zT, getC, Bool.and_true, List.length_map, List.length_nil, List.length_cons, List.nil_append]
      try rfl
  · have h : ¬ ((((ltrips x.dk.lg true).length + 1 : Nat) : Int) ≤ ((ltrips x.dk.lg true).length : Nat)) := by omega
    simp (disch := first | assumption | omega | (simp only [List.length_append, List.length_map, List.length_cons, List.length_nil]; omega)) only [wEnv, wEnv2, den_row, den_up, den_jump, den_chk, den_join, den_letp, den_ite, den_ret, den_call, dens, Cell.den, At.den, Prim.den, List.cons_append, List.nil_append, padC, cellKs, CK.of, beqI, bneI, Bool.decide_eq_true, h, if_false, e7, n_Fit ox f.I, e5, i_DeskTrips hdS', hdo', if_true, decide_true, Int.reduceEq, reduceIte, zU, zT, getC, Bool.and_true, List.length_map, List.length_nil, List.length_cons, List.nil_append]
    simp (disch := first | assumption | omega | (simp only [List.length_append, List.length_map, List.length_cons, List.length_nil]; omega)) only [wEnv, wEnv2, den_row, den_up, den_jump, den_chk, den_join, den_letp, den_ite, den_ret, den_call, dens, Cell.den, At.den, Prim.den, List.cons_append, List.nil_append, padC, cellKs, CK.of, beqI, bneI, Bool.decide_eq_true, hlen', e8, i_DeskWords hdS, hdo, hwords, if_true, decide_true, Int.reduceEq, reduceIte, zU, zT, getC, Bool.and_true, List.length_map, List.length_nil, List.length_cons, List.nil_append]
    try rfl
end
end Dx


namespace Dx
open Go Go.Proofs
def c_bh : Con := ⟨[.own false [.val] [.list] false], [⟨false, [.val], [.bool], false⟩]⟩
def h_bh : How := ⟨getH [(0, ⟨[kI], [(2, (.bool (.b false))), (11, (sI 0))], [], [], 0⟩), (2, ⟨[kI], [(2, (.bool (.b false))), (13, (sI 0))], [], [], 0⟩)],
  getH [],
  getH []⟩
theorem has_bh : Has Tryz.prog 10 c_bh φ_bh := fp (R := []) (tr := false) (E := [(21, 0, c_ax), (22, 1, c_cg), (23, 2, c_cm), (17, 3, c_ev), (16, 4, c_cu), (24, 5, c_cs), (29, 6, c_cb), (30, 7, c_fv), (31, 8, c_cy)]) (Φ := Φ_bh) (t := t_bh) ⟨has_ax, has_cg, has_cm, has_ev, has_cu, has_cs, has_cb, has_fv, has_cy, trivial⟩ Tryz.f10 h_bh (by kernel_rfl)
end Dx
namespace Go.Proofs.YtcgenclbnnigeaaGreat.fnWorldCalm
open Go.ChangeShapes Go.WideShapes Go.ChangeAt Go.RowKit Dx
set_option linter.unusedVariables false
set_option maxRecDepth 100000

theorem own : ownKnob Tryz.prog.godebug = none := by kernel_rfl
theorem params : Tryz.f10.params = #[22] := by kernel_rfl
theorem results : Tryz.f10.resultTypes = #[4] := by kernel_rfl
theorem t22 : Tryz.prog.underlying 22 = some (.slice 5) := by kernel_rfl
theorem t5 : Tryz.prog.underlying 5 = some (.int .u8) := by kernel_rfl
theorem t4 : Tryz.prog.underlying 4 = some .bool := by kernel_rfl
theorem c5 : Tryz.prog.cellsOf 5 = 1 := by kernel_rfl
theorem func : Tryz.prog.funcs[10]? = some Tryz.f10 := by kernel_rfl

theorem small {H : Type} {d : DataW H} (hk : Rows.uptoSmall H [d] = true) : Rows.uptoBulkAll [d] ≤ 1048576 := of_decide_eq_true hk
theorem bytes_bulk {H : Type} : ∀ l : List Int, l.length ≤ Rows.uptoBulkAll (Go.ChangeShapes.lits (H := H) .u8 l)
  | [] => Nat.zero_le _
  | x :: l => by
    have e : Go.ChangeShapes.lits (H := H) .u8 (x :: l) = .lit (.int .u8 x) :: Go.ChangeShapes.lits .u8 l := rfl
    have := bytes_bulk (H := H) l
    rw [e]
    simp only [Rows.uptoBulkAll, Rows.uptoBulk, List.length_cons]
    omega

theorem contract (H : Type) (enc : TypeId × Value → H) (W : World) (base : Nat) (args : Array Value) (ds gs : List (DataW H)) (before : List MemPlace)
    (hval : ∀ (j : Nat) t v, Tryz.f10.params[j]? = some t → args[j]? = some v → Value.okWide Tryz.prog W .any base t v)
    (hW : DataW.Whole enc Tryz.prog Tryz.f10.params.toList Rows.fnWorldCalmSpec.vars false W args.toList ds gs before) (hk : Rows.uptoSmall H (ds ++ gs) = true) :
    Calls Tryz.prog 10 args W fun e W' => ∃ v, e = .returned v ∧ Rows.fnWorldCalmSpec.post enc Tryz.prog Tryz.f10 false true false false W args v W' := by
  have hW' := hW
  obtain ⟨p, q, hA0, hV, rfl, hfz, hnd⟩ := hW
  have hA : DataW.TrodAll enc Tryz.prog W 0 (fun _ => true) true Tryz.f10.params.toList args.toList ds p := hA0
  rw [params] at hA hval
  obtain ⟨v0, vs0, d0, ds0, p0, q0, hargs, rfl, rfl, h0, r0⟩ := trodAll_cons hA
  obtain ⟨rfl, rfl, rfl⟩ := trodAll_nil r0
  obtain rfl : args = #[v0] := by cases args; simp_all
  obtain ⟨rfl, rfl⟩ := trodVars_none hV
  obtain ⟨code, hb, hrep, hd, hshut⟩ := open_code t22 t5 c5 (hval 0 22 v0 rfl rfl) h0
  have hlen : code.length ≤ 1048576 := by
    have hk := small hk
    rcases hd with ⟨_, rfl⟩ | ⟨spare, rfl⟩
    · exact Nat.zero_le _
    · have := bytes_bulk (H := H) code
      simp only [Rows.uptoBulkAll, Rows.uptoBulk] at hk
      omega
  refine (law_calls (vs := [v0]) has_bh (by simp [lawPar]) ⟨[.list (code.map cB)], [], v0, [], [], [], rfl, rfl, rfl, law_par (hrep (by omega)), rfl, rfl, rfl⟩ (law_WorldCalm (by omega) hb)).mono ?_
  rintro e W' ⟨rfl, h1, h2, h3⟩
  refine ⟨_, rfl, [d0], [], p0, [], p0, [], by simpa using hW', trodAll_cons_mk (shut_bool t4 _) trodAll_mk0, ?_, rfl, kept_of h1 h2 h3 _, fun h => by cases h⟩
  rw [params]
  have := trodAll_cons_mk (hshut W' h3) (trodAll_mk0 (enc := enc) (P := Tryz.prog) (w := W') (base := 0) (spare := fun b => decide (b < W.heap.size)) (held := true))
  rw [List.append_nil] at this
  exact this

set_option maxRecDepth 100000 in
theorem lifted (os : Os) (started : os.Started) (H : Type) (enc : TypeId × Value → H) (F : Stop.Interp) :
    ReturnsInHanded {} Tryz.checked os 10 .any ((Rows.OpenSpec.upto Rows.fnWorldCalmSpec).pre6 enc Tryz.prog Tryz.f10 Rows.fnWorldCalmUptoRow.domain false) (((Rows.OpenSpec.upto Rows.fnWorldCalmSpec).at F).post enc Tryz.prog Tryz.f10 false true false false) := by
  refine returnsInHanded_of_cond (C := Tryz.checked) (s := Rows.OpenSpec.upto Rows.fnWorldCalmSpec) (k := Rows.uptoSmall) rfl own started (by kernel_rfl) func
    (OpenSpec.witness (enc := enc) (C := Tryz.checked) (s := Rows.OpenSpec.upto Rows.fnWorldCalmSpec) (k := Rows.uptoSmall) rfl false ⟨#[], #[.slice none 0 0], []⟩ 8 (by kernel_rfl) (by kernel_rfl) (by kernel_rfl)
      (x := ([.nil], [], [])) (by kernel_rfl) rfl (by kernel_rfl)) ?_
  intro W base args ds gs before hval hW _ hk _
  exact contract H enc W base args ds gs before hval hW hk

theorem proved : Rows.FnWorldCalmUptoSaid :=
  OpenClaim.holds_of_cond 10 Tryz.f10 rfl rfl rfl rfl rfl rfl rfl ⟨rfl, rfl, rfl, rfl, rfl⟩ rfl rfl rfl rfl rfl (by kernel_rfl) func (by kernel_rfl)
    (of_decide_eq_true (by kernel_rfl)) (by unfold Func.isWrapper; first | (rw [if_pos (by decide +kernel)]; kernel_rfl) | (rw [if_neg (by decide +kernel)]; exact ⟨rfl, rfl⟩))
    (fun os started H enc _ F => lifted os started H enc F)
#print axioms proved
end Go.Proofs.YtcgenclbnnigeaaGreat.fnWorldCalm
