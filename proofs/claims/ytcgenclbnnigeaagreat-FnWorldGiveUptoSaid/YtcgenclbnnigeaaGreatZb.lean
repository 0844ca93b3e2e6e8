import Derived.Test.YtcgenclbnnigeaaGreatZa
set_option linter.all false
set_option linter.unusedVariables false
set_option linter.unusedSimpArgs false
set_option linter.unnecessarySimpa false
/- Whether two of the program's data are the same. -/
namespace Dx
open Go

theorem eqLoop {α : Type} [DecidableEq α] {F : List C -> Option Out} {a b : List α} (hl : a.length = b.length)
    (hs : ∀ (i : Nat) (x y : α), a[i]? = some x -> b[i]? = some y -> F [.int .i64 (i : Nat)] = if x = y then some (.jump [.int .i64 ((i + 1 : Nat) : Int)]) else some (.up (.ret [.bool false])))
    (hf : F [.int .i64 ((a.length : Nat) : Int)] = some (.up (.ret [.bool true]))) : iterD F [.int .i64 0] = some (.ret [.bool (decide (a = b))]) := by
  have key := iter_list0 (l := a) (F := F) (enc := fun i (_ : Unit) => [.int .i64 i]) (res := fun xs i _ => .ret [.bool (decide (xs = b.drop i))]) (fun _ _ => True) (s := ()) trivial ?_ ?_
  · have key : iterD _ [C.int .i64 0] = _ := key
    rw [key]; rfl
  · intro i x xs _ hx _
    have hi := (List.getElem?_eq_some_iff.1 hx).1
    have hb : i < b.length := by omega
    have hy : b[i]? = some b[i] := by simp [hb]
    have := hs i x b[i] hx hy
    have hdr := List.drop_eq_getElem_cons hb
    by_cases e : x = b[i]
    · rw [if_pos e] at this
      exact .inl ⟨(), this, trivial, by simp only [hdr, List.cons.injEq, e, true_and, false_and, decide_false]⟩
    · rw [if_neg e] at this
      exact .inr ⟨_, this, by simp only [hdr, List.cons.injEq, e, true_and, false_and, decide_false]⟩
  · intro _ _
    rw [hf, List.drop_of_length_le (by omega)]
    simp

theorem beqI (a b : Int) : (a == b) = decide (a = b) := by by_cases h : a = b <;> simp [h]
theorem bneI (a b : Int) : (a != b) = !decide (a = b) := by by_cases h : a = b <;> simp [h]

section
variable {a b : List Int} {up up' : Bool} {rs rs' : List Rec} {f f' : Int} {td td' : List Word} {k k' t t' id id' room room' h m : Int} {hs hs' : List House} {ns ns' : List Word}

theorem n_Ints (ha : a.length <= 1099511627776) : φ_fp [.list (a.map eI), .list (b.map eI)] = some [.bool (decide (a = b))] := by
  rw [q_fp]; unfold F_fp
  simp only [List.length_map]
  by_cases hl : a.length = b.length
  · have e : (((a.length : Nat) : Int) != ((b.length : Nat) : Int)) = false := by simp [hl]
    simp only [e, iteD_ff]
    rw [eqLoop hl]
    · rfl
    · intro i x y hx hy
      have hi := (List.getElem?_eq_some_iff.1 hx).1
      have hi' : (i : Int) < (a.length : Nat) := by omega
      simp (disch := first | assumption | omega | (simp only [zL]; omega)) only [L_fp_0, row_I hx, row_I hy, eI, wrap_nat, hi', if_true, Int.reduceEq, reduceIte, zU, zT, getC]
      try (by_cases e : x = y <;> simp [e])
    · have h : ¬ ((a.length : Int) < (a.length : Nat)) := by omega
      simp (disch := first | assumption | omega | (simp only [zL]; omega)) only [L_fp_0, h, if_false, Int.reduceEq, reduceIte, zU, zT, getC]
  · have e : (((a.length : Nat) : Int) != ((b.length : Nat) : Int)) = true := by simp; omega
    have : a ≠ b := fun h => hl (by rw [h])
    simp [e, this]
theorem n_Rec {r r' : Rec} (hr : r.m.length <= 1099511627776) : φ_ga [.int .i64 r.k, .int .i64 r.t, .list (r.m.map eI), .int .i64 r'.k, .int .i64 r'.t, .list (r'.m.map eI)] = some [.bool (decide (r = r'))] := by
  rw [q_ga]
  obtain ⟨k, t, m⟩ := r
  obtain ⟨k', t', m'⟩ := r'
  simp (disch := first | assumption | omega | (simp only [zL]; omega)) only [F_ga, n_Ints, Int.reduceEq, reduceIte, zU, zT, getC]
  by_cases e1 : k = k' <;> by_cases e2 : t = t' <;> simp [e1, e2]
theorem n_Recs (hr : rs.length <= 1099511627776) (hm : ∀ r ∈ rs, r.m.length <= 1099511627776) : φ_fa [.list (rs.map Rec.e), .list (rs'.map Rec.e)] = some [.bool (decide (rs = rs'))] := by
  rw [q_fa]; unfold F_fa
  simp only [List.length_map]
  by_cases hl : rs.length = rs'.length
  · have e : (((rs.length : Nat) : Int) != ((rs'.length : Nat) : Int)) = false := by simp [hl]
    simp only [e, iteD_ff]
    rw [eqLoop hl]
    · rfl
    · intro i x y hx hy
      have hi := (List.getElem?_eq_some_iff.1 hx).1
      have hi' : (i : Int) < (rs.length : Nat) := by omega
      have hxm := hm x (List.mem_of_getElem? hx)
      simp (disch := first | assumption | omega | (simp only [zL]; omega)) only [L_fa_0, row_R hx, row_R hy, Rec.e, wrap_nat, hi', if_true, n_Rec, Int.reduceEq, reduceIte, zU, zT, getC]
      try (by_cases e : x = y <;> simp [e])
    · have h : ¬ ((rs.length : Int) < (rs.length : Nat)) := by omega
      simp (disch := first | assumption | omega | (simp only [zL]; omega)) only [L_fa_0, h, if_false, Int.reduceEq, reduceIte, zU, zT, getC]
  · have e : (((rs.length : Nat) : Int) != ((rs'.length : Nat) : Int)) = true := by simp; omega
    have : rs ≠ rs' := fun h => hl (by rw [h])
    simp [e, this]
theorem n_Log (hl : LgS ⟨rs, f⟩) : φ_fx [.list (rs.map Rec.e), .int .i64 f, .list (rs'.map Rec.e), .int .i64 f'] = some [.bool (decide ((⟨rs, f⟩ : Log) = ⟨rs', f'⟩))] := by
  rw [q_fx]
  have h1 : rs.length <= 1099511627776 := by have := hl.1; simp only at this; omega
  have h2 : ∀ r ∈ rs, r.m.length <= 1099511627776 := hl.2
  simp (disch := first | assumption | omega | (simp only [zL]; omega)) only [F_fx, n_Recs h1 h2, Int.reduceEq, reduceIte, zU, zT, getC]
  by_cases e1 : f = f' <;> by_cases e2 : rs = rs' <;> simp [e1, e2]
theorem n_House {x x' : House} (hl : LgS x.lg) : φ_eh [.int .i64 x.id, .bool x.up, .int .i64 x.room, .list (x.lg.rs.map Rec.e), .int .i64 x.lg.f, .int .i64 x'.id, .bool x'.up, .int .i64 x'.room, .list (x'.lg.rs.map Rec.e), .int .i64 x'.lg.f] = some [.bool (decide (x = x'))] := by
  rw [q_eh]
  obtain ⟨id, up, room, ⟨rs, f⟩⟩ := x
  obtain ⟨id', up', room', ⟨rs', f'⟩⟩ := x'
  have key : decide ((⟨id, up, room, ⟨rs, f⟩⟩ : House) = ⟨id', up', room', ⟨rs', f'⟩⟩) = (decide (id = id') && ((up == up') && (decide (room = room') && decide ((⟨rs, f⟩ : Log) = ⟨rs', f'⟩)))) := by
    rw [Bool.eq_iff_iff]; simp
  simp (disch := first | assumption | omega | (simp only [zL]; omega)) only [F_eh, n_Log hl, key, Int.reduceEq, reduceIte, zT, getC]
  rw [beqI id, beqI room]
  generalize decide (id = id') = p1
  generalize (up == up') = p2
  generalize decide (room = room') = p3
  generalize decide ((⟨rs, f⟩ : Log) = ⟨rs', f'⟩) = p4
  cases p1 <;> cases p2 <;> cases p3 <;> rfl
theorem n_Words (hl : td.length <= 1099511627776) : φ_em [.list (td.map Word.e), .list (td'.map Word.e)] = some [.bool (decide (td = td'))] := by
  rw [q_em]; unfold F_em
  simp only [List.length_map]
  by_cases hl' : td.length = td'.length
  · have e : (((td.length : Nat) : Int) != ((td'.length : Nat) : Int)) = false := by simp [hl']
    simp only [e, iteD_ff]
    rw [eqLoop hl']
    · rfl
    · intro i x y hx hy
      have hi := (List.getElem?_eq_some_iff.1 hx).1
      have hi' : (i : Int) < (td.length : Nat) := by omega
      have hb := word_beq x y
      simp (disch := first | assumption | omega | (simp only [zL]; omega)) only [L_em_0, row_W hx, row_W hy, Word.e, wrap_nat, hi', if_true, hb, Int.reduceEq, reduceIte, zU, zT, getC]
      try (by_cases e : x = y <;> simp [e])
    · have h : ¬ ((td.length : Int) < (td.length : Nat)) := by omega
      simp (disch := first | assumption | omega | (simp only [zL]; omega)) only [L_em_0, h, if_false, Int.reduceEq, reduceIte, zU, zT, getC]
  · have e : (((td.length : Nat) : Int) != ((td'.length : Nat) : Int)) = true := by simp; omega
    have : td ≠ td' := fun h => hl' (by rw [h])
    simp [e, this]
theorem n_Desk (hs : DkS ⟨up, ⟨rs, f⟩, td⟩) : φ_fh [.bool up, .list (rs.map Rec.e), .int .i64 f, .list (td.map Word.e), .bool up', .list (rs'.map Rec.e), .int .i64 f', .list (td'.map Word.e)] = some [.bool (decide ((⟨up, ⟨rs, f⟩, td⟩ : Desk) = ⟨up', ⟨rs', f'⟩, td'⟩))] := by
  rw [q_fh]
  have h1 : LgS ⟨rs, f⟩ := hs.lg
  have h2 : td.length <= 1099511627776 := by have := hs.td; simp only at this; omega
  have key : decide ((⟨up, ⟨rs, f⟩, td⟩ : Desk) = ⟨up', ⟨rs', f'⟩, td'⟩) = ((up == up') && (decide ((⟨rs, f⟩ : Log) = ⟨rs', f'⟩) && decide (td = td'))) := by
    rw [Bool.eq_iff_iff]; simp
  simp (disch := first | assumption | omega | (simp only [zL]; omega)) only [F_fh, n_Log h1, n_Words h2, key, Int.reduceEq, reduceIte, zT, getC]
  generalize (up == up') = p1
  generalize decide ((⟨rs, f⟩ : Log) = ⟨rs', f'⟩) = p2
  generalize decide (td = td') = p3
  cases p1 <;> cases p2 <;> rfl
theorem n_World {w w' : Wd} (hd : DkS w.dk) (hh : ∀ x ∈ w.hs, LgS x.lg) (hhl : w.hs.length <= 1000) (hn : w.ns.length <= 1000) :
    φ_ev [.bool w.dk.up, .list (w.dk.lg.rs.map Rec.e), .int .i64 w.dk.lg.f, .list (w.dk.td.map Word.e), .list (w.hs.map House.e), .list (w.ns.map Word.e), .bool w'.dk.up, .list (w'.dk.lg.rs.map Rec.e), .int .i64 w'.dk.lg.f, .list (w'.dk.td.map Word.e), .list (w'.hs.map House.e), .list (w'.ns.map Word.e)] = some [.bool (decide (w = w'))] := by
  rw [q_ev]
  obtain ⟨⟨up, ⟨rs, f⟩, td⟩, hs, ns⟩ := w
  obtain ⟨⟨up', ⟨rs', f'⟩, td'⟩, hs', ns'⟩ := w'
  simp only at hh hhl hn hd
  simp (disch := first | assumption | omega | (simp only [zL]; omega)) only [F_ev, n_Desk hd, n_Words, Int.reduceEq, reduceIte, zU, zT, getC]
  by_cases e1 : (⟨up, ⟨rs, f⟩, td⟩ : Desk) = ⟨up', ⟨rs', f'⟩, td'⟩
  case neg => simp [e1]
  by_cases e2 : ns = ns'
  case neg => simp [e2]
  simp only [e1, e2, decide_true, iteD_tt]
  by_cases hl : hs.length = hs'.length
  · have e : (((hs.length : Nat) : Int) != ((hs'.length : Nat) : Int)) = false := by simp [hl]
    have e' : ((hs.length : Nat) : Int) = ((hs'.length : Nat) : Int) := by omega
    simp only [e', if_true]
    rw [eqLoop (a := hs) (b := hs') hl]
    · simp
    · intro i x y hx hy
      have hi := (List.getElem?_eq_some_iff.1 hx).1
      have hi' : (i : Int) < (hs.length : Nat) := by omega
      have hxm := hh x (List.mem_of_getElem? hx)
      simp (disch := first | assumption | omega | (simp only [zL]; omega)) only [L_ev_0, row_Hs hx, row_Hs hy, House.e, wrap_nat, hi', if_true, n_House hxm, Int.reduceEq, reduceIte, zU, zT, getC]
      try (by_cases e : x = y <;> simp [e])
    · have h : ¬ ((hs.length : Int) < (hs.length : Nat)) := by omega
      simp (disch := first | assumption | omega | (simp only [zL]; omega)) only [L_ev_0, h, if_false, Int.reduceEq, reduceIte, zU, zT, getC]
  · have e' : ¬ ((hs.length : Nat) : Int) = ((hs'.length : Nat) : Int) := by omega
    have : hs ≠ hs' := fun h => hl (by rw [h])
    simp [e', this]
theorem WOk.n {w w' : Wd} (ho : WOk w) :
    φ_ev [.bool w.dk.up, .list (w.dk.lg.rs.map Rec.e), .int .i64 w.dk.lg.f, .list (w.dk.td.map Word.e), .list (w.hs.map House.e), .list (w.ns.map Word.e), .bool w'.dk.up, .list (w'.dk.lg.rs.map Rec.e), .int .i64 w'.dk.lg.f, .list (w'.dk.td.map Word.e), .list (w'.hs.map House.e), .list (w'.ns.map Word.e)] = some [.bool (decide (w = w'))] :=
  n_World ho.dk.S (fun x hx => by
    obtain ⟨i, hi⟩ := List.mem_iff_getElem?.1 hx
    exact (ho.hs i x hi).1.lg.S) (by rw [ho.len]; omega) (by have := ho.nlen; omega)
end
end Dx


/- Laws on worlds: how they begin. -/
namespace Dx
open Go

def Bytes (code : List Int) : Prop := ∀ b ∈ code, 0 <= b /\ b <= 255

def wEnv (code : List Int) (rooms : List Int) (es : List Ev) (w : Wd) : List C :=
  [.list (code.map eB), .int .i64 code.length, .bool false, .list (rooms.map eI), .list (es.map Ev.e),
   .bool w.dk.up, .list (w.dk.lg.rs.map Rec.e), .int .i64 w.dk.lg.f, .list (w.dk.td.map Word.e), .list (w.hs.map House.e), .list (w.ns.map Word.e), .bool true,
   .bool w.dk.up, .list (w.dk.lg.rs.map Rec.e), .int .i64 w.dk.lg.f, .list (w.dk.td.map Word.e), .list (w.hs.map House.e), .list (w.ns.map Word.e), .bool true, .bool false, .bool true, .bool false, .bool false]

theorem den_letp (Φ : Phi) (p : Prim) (args : List Cell) (t : Tree) (env : List C) : den Φ (.letp p args t) env = den Φ t (env ++ [p.den (dens env args)]) := by rw [den]
theorem den_ite (Φ : Phi) (a : At) (t e : Tree) (env : List C) : den Φ (.ite a t e) env = iteD (a.den env).toBool (den Φ t env) (den Φ e env) := by rw [den]
theorem den_ret (Φ : Phi) (xs : List Cell) (env : List C) : den Φ (.ret xs) env = some (.ret (dens env xs)) := by rw [den]

theorem worldHead_den {Φ : Phi} {t : Tree} {code : List Int} (h0 : Φ 0 = φ_ax) (h1 : Φ 1 = φ_cg) (h2 : Φ 2 = φ_cm) (h3 : Φ 3 = φ_ev)
    (hl : code.length <= 1099511627776) (hc : Bytes code)
    (ht : ∀ (rooms : List Int) (es : List Ev) (w : Wd), worldPlay rooms es = some w -> rooms.length <= 4 -> es.length <= 81 -> (∀ e ∈ es, EvS e) -> retOf (den Φ t (wEnv code rooms es w)) = some [.bool true]) :
    retOf (den Φ (worldHead t) [.list (code.map eB)]) = some [.bool true] := by
  obtain ⟨rooms, es, hd, hr, hel, hes⟩ := m_DrawWorldPlay hl hc
  have p1 := i_WorldPlay (rooms := rooms) (es := es) (by omega) (by omega) hes
  have p2 := m_WorldPlay (rooms := rooms) (es := es) (by omega) (by omega) hes
  have hself := n_World (w := wd0) (w' := wd0) ⟨⟨by simp [wd0], by simp [wd0]⟩, by simp [wd0]⟩ (by simp [wd0]) (by simp [wd0]) (by simp [wd0])
  unfold worldHead
  rw [den_letp, den_letp, den_ite]
  simp only [dens, Cell.den, At.den, Prim.den, List.cons_append, List.nil_append, getC, C.toInt_int, C.toList_list, C.toBool_bool, List.length_map]
  by_cases hbig : ((code.length : Nat) : Int) > 1048576
  · simp only [hbig, decide_true, iteD_tt, den_ret, dens, Cell.den, At.den, C.toBool_bool]; rfl
  simp only [hbig, decide_false, iteD_ff]
  rw [den_call, h0]
  simp only [dens, Cell.den, At.den, getC, C.toList_list, hd]
  rw [callD_ok rfl, den_call, h1]
  simp only [dens, Cell.den, At.den, List.cons_append, List.nil_append, getC, C.toList_list, p1]
  cases hw : worldPlay rooms es with
  | none =>
    rw [hw] at p2
    simp only [Option.getD_none, Option.isSome_none, Wd.e, List.cons_append, List.nil_append] at p2 ⊢
    rw [callD_ok rfl, den_call, h2]
    simp only [dens, Cell.den, At.den, List.cons_append, List.nil_append, getC, C.toList_list, p2]
    rw [callD_ok rfl]
    simp only [den_letp, den_ite, den_call, h3, dens, Cell.den, At.den, Prim.den, List.cons_append, List.nil_append, getC, C.toInt_int, C.toList_list, C.toBool_bool, hself]
    simp only [BEq.rfl, Bool.not_true, iteD_ff, decide_true, cd_b, getC, C.toBool_bool, Bool.not_false, iteD_tt, List.cons_append, List.nil_append, den_letp, den_ite, den_call, den_ret, dens, Cell.den, At.den, Prim.den, h3, hself]
    rfl
  | some w =>
    have ow : WOk w := by
      unfold worldPlay at hw
      split at hw
      · cases hw
      · simp only [Option.map_eq_some_iff] at hw
        obtain ⟨w0, hw0, rfl⟩ := hw
        exact (worldNew_ok hw0).plays es
    have hn := ow.n (w' := w)
    have key := ht rooms es w hw hr hel hes
    rw [hw] at p2
    simp only [Option.getD_some, Option.isSome_some, Wd.e, List.cons_append, List.nil_append] at p2 ⊢
    rw [callD_ok rfl, den_call, h2]
    simp only [dens, Cell.den, At.den, List.cons_append, List.nil_append, getC, C.toList_list, p2]
    rw [callD_ok rfl]
    simp only [den_letp, den_ite, den_call, h3, dens, Cell.den, At.den, Prim.den, List.cons_append, List.nil_append, getC, C.toInt_int, C.toList_list, C.toBool_bool, hn]
    simp only [BEq.rfl, Bool.not_true, iteD_ff, decide_true, cd_b, getC, C.toBool_bool, Bool.not_false, iteD_tt, List.cons_append, List.nil_append, den_letp, den_ite, den_call, den_ret, dens, Cell.den, At.den, Prim.den]
    exact key

def wEnv2 (code more : List Int) (rooms : List Int) (es : List Ev) (w : Wd) : List C :=
  [.list (code.map eB), .list (more.map eB), .int .i64 code.length, .bool false, .int .i64 more.length, .bool false, .list (rooms.map eI), .list (es.map Ev.e),
   .bool w.dk.up, .list (w.dk.lg.rs.map Rec.e), .int .i64 w.dk.lg.f, .list (w.dk.td.map Word.e), .list (w.hs.map House.e), .list (w.ns.map Word.e), .bool true,
   .bool w.dk.up, .list (w.dk.lg.rs.map Rec.e), .int .i64 w.dk.lg.f, .list (w.dk.td.map Word.e), .list (w.hs.map House.e), .list (w.ns.map Word.e), .bool true, .bool false, .bool true, .bool false, .bool false]

theorem worldHead2_den {Φ : Phi} {t : Tree} {code more : List Int} (h0 : Φ 0 = φ_ax) (h1 : Φ 1 = φ_cg) (h2 : Φ 2 = φ_cm) (h3 : Φ 3 = φ_ev)
    (hl : code.length <= 1099511627776) (hc : Bytes code)
    (ht : ∀ (rooms : List Int) (es : List Ev) (w : Wd), more.length <= 1048576 -> worldPlay rooms es = some w -> rooms.length <= 4 -> es.length <= 81 -> (∀ e ∈ es, EvS e) -> retOf (den Φ t (wEnv2 code more rooms es w)) = some [.bool true]) :
    retOf (den Φ (worldHead2 t) [.list (code.map eB), .list (more.map eB)]) = some [.bool true] := by
  obtain ⟨rooms, es, hd, hr, hel, hes⟩ := m_DrawWorldPlay hl hc
  have p1 := i_WorldPlay (rooms := rooms) (es := es) (by omega) (by omega) hes
  have p2 := m_WorldPlay (rooms := rooms) (es := es) (by omega) (by omega) hes
  have hself := n_World (w := wd0) (w' := wd0) ⟨⟨by simp [wd0], by simp [wd0]⟩, by simp [wd0]⟩ (by simp [wd0]) (by simp [wd0]) (by simp [wd0])
  unfold worldHead2
  rw [den_letp, den_letp, den_ite]
  simp only [dens, Cell.den, At.den, Prim.den, List.cons_append, List.nil_append, getC, C.toInt_int, C.toList_list, C.toBool_bool, List.length_map]
  by_cases hbig : ((code.length : Nat) : Int) > 1048576
  · simp only [hbig, decide_true, iteD_tt, den_ret, dens, Cell.den, At.den, C.toBool_bool]; rfl
  simp only [hbig, decide_false, iteD_ff]
  rw [den_letp, den_letp, den_ite]
  simp only [dens, Cell.den, At.den, Prim.den, List.cons_append, List.nil_append, getC, C.toInt_int, C.toList_list, C.toBool_bool, List.length_map]
  by_cases hbig2 : ((more.length : Nat) : Int) > 1048576
  · simp only [hbig2, decide_true, iteD_tt, den_ret, dens, Cell.den, At.den, C.toBool_bool]; rfl
  simp only [hbig2, decide_false, iteD_ff]
  rw [den_call, h0]
  simp only [dens, Cell.den, At.den, getC, C.toList_list, hd]
  rw [callD_ok rfl, den_call, h1]
  simp only [dens, Cell.den, At.den, List.cons_append, List.nil_append, getC, C.toList_list, p1]
  cases hw : worldPlay rooms es with
  | none =>
    rw [hw] at p2
    simp only [Option.getD_none, Option.isSome_none, Wd.e, List.cons_append, List.nil_append] at p2 ⊢
    rw [callD_ok rfl, den_call, h2]
    simp only [dens, Cell.den, At.den, List.cons_append, List.nil_append, getC, C.toList_list, p2]
    rw [callD_ok rfl]
    simp only [den_letp, den_ite, den_call, h3, dens, Cell.den, At.den, Prim.den, List.cons_append, List.nil_append, getC, C.toInt_int, C.toList_list, C.toBool_bool, hself]
    simp only [BEq.rfl, Bool.not_true, iteD_ff, decide_true, cd_b, getC, C.toBool_bool, Bool.not_false, iteD_tt, List.cons_append, List.nil_append, den_letp, den_ite, den_call, den_ret, dens, Cell.den, At.den, Prim.den, h3, hself]
    rfl
  | some w =>
    have ow : WOk w := by
      unfold worldPlay at hw
      split at hw
      · cases hw
      · simp only [Option.map_eq_some_iff] at hw
        obtain ⟨w0, hw0, rfl⟩ := hw
        exact (worldNew_ok hw0).plays es
    have hn := ow.n (w' := w)
    have key := ht rooms es w (by omega) hw hr hel hes
    rw [hw] at p2
    simp only [Option.getD_some, Option.isSome_some, Wd.e, List.cons_append, List.nil_append] at p2 ⊢
    rw [callD_ok rfl, den_call, h2]
    simp only [dens, Cell.den, At.den, List.cons_append, List.nil_append, getC, C.toList_list, p2]
    rw [callD_ok rfl]
    simp only [den_letp, den_ite, den_call, h3, dens, Cell.den, At.den, Prim.den, List.cons_append, List.nil_append, getC, C.toInt_int, C.toList_list, C.toBool_bool, hn]
    simp only [BEq.rfl, Bool.not_true, iteD_ff, decide_true, cd_b, getC, C.toBool_bool, Bool.not_false, iteD_tt, List.cons_append, List.nil_append, den_letp, den_ite, den_call, den_ret, dens, Cell.den, At.den, Prim.den]
    exact key
end Dx


/- Laws on worlds, as they are drawn. -/
namespace Dx
open Go

theorem den_iter (Φ : Phi) (init : List Cell) (body : Tree) (env : List C) : den Φ (.iter init body) env = iterD (fun ps => den Φ body (env ++ padC ps 0 (cellKs init))) (dens env init) := by rw [den]
theorem den_row (Φ : Phi) (l i : At) (ks : List CK) (t : Tree) (env : List C) : den Φ (.row l i ks t) env = rowD (l.den env) (i.den env) ks fun r => den Φ t (env ++ r) := by rw [den]
theorem den_up (Φ : Phi) (t : Tree) (env : List C) : den Φ (.up t) env = upD (den Φ t env) := by rw [den]
theorem den_jump (Φ : Phi) (xs : List Cell) (env : List C) : den Φ (.jump xs) env = some (.jump (dens env xs)) := by rw [den]
theorem den_chk (Φ : Phi) (p : Prim) (args : List Cell) (t : Tree) (env : List C) : den Φ (.chk p args t) env = whenD (p.den (dens env args)).toBool (den Φ t env) := by rw [den]
theorem den_join (Φ : Phi) (ks : List CK) (body k : Tree) (env : List C) : den Φ (.join ks body k) env = joinD (den Φ body env) fun ps => den Φ k (env ++ padC ps 0 ks) := by rw [den]

theorem loopAll {α : Type} {F : List C -> Option Out} {l : List α} {o : Out} (hs : ∀ (i : Nat) (x : α), l[i]? = some x -> F [.int .i64 (i : Nat)] = some (.jump [.int .i64 ((i + 1 : Nat) : Int)]))
    (hf : F [.int .i64 ((l.length : Nat) : Int)] = some (.up o)) : iterD F [.int .i64 0] = some o :=
  iter_list0 (l := l) (F := F) (enc := fun i (_ : Unit) => [.int .i64 i]) (res := fun _ _ _ => o) (fun _ _ => True) (s := ()) trivial (fun i x _ _ hx _ => .inl ⟨(), hs i x hx, trivial, rfl⟩) (fun _ _ => hf)

section
variable {code : List Int}
end
end Dx


/- More laws on worlds, as they are drawn. -/
namespace Dx
open Go

section
variable {code : List Int}
end
end Dx


/- More laws on worlds, as they are drawn: what is not said does nothing. -/
namespace Dx
open Go

theorem loopTo {α σ : Type} {F : List C -> Option Out} {l : List α} {o : Out} {enc : Nat -> σ -> List C} {P : Nat -> σ -> Prop} {s0 : σ} (h0 : P 0 s0)
    (hs : ∀ (i : Nat) (x : α) (s : σ), l[i]? = some x -> P i s -> ∃ s', F (enc i s) = some (.jump (enc (i + 1) s')) /\ P (i + 1) s') (hf : ∀ s, P l.length s -> F (enc l.length s) = some (.up o)) : iterD F (enc 0 s0) = some o :=
  iter_list0 (l := l) (F := F) (enc := enc) (res := fun _ _ _ => o) P h0 (fun i x _ s hx h => by
    obtain ⟨s', h1, h2⟩ := hs i x s hx h
    exact .inl ⟨s', h1, h2, rfl⟩) hf

section
variable {code : List Int}
end
end Dx


/- The program's worlds: what they are asked. -/
namespace Dx
open Go

section
variable {room : Int} {hs : List Hold} {k h t m : Int} {ns : List Word} {w : Wd}

theorem i_StockFree (ho : StOk ⟨room, hs⟩) : φ_db [.int .i64 room, .list (hs.map Hold.e)] = some [.int .i64 (free ⟨room, hs⟩)] := by
  rw [q_db]
  have hl : hs.length = 6 := ho.len
  have hf := i_free (room := room) (hs := hs) ho.room ho.hold (by omega)
  simp (disch := first | assumption | omega | (simp only [zL]; omega)) only [F_db, i_StockOk ho, hf, Int.reduceEq, reduceIte, zU, zT, getC]

theorem i_wordsOk (hL : ns.length <= 1000) : φ_ae [.list (ns.map Word.e)] = some [.bool (ns.any fun x => !wordOk x)] := by
  have h1 : ∀ x : Word, φ_ch [.int .i64 x.k, .int .i64 x.h, .int .i64 x.t, .int .i64 x.m] = some [.bool (!wordOk x)] := fun x => by
    rw [q_ch]; simp (disch := first | assumption | omega | (simp only [zL]; omega)) only [F_ch, i_WordOk, Int.reduceEq, reduceIte, zU, zT, getC]
  have hi : φ_ah [.list (ns.map Word.e)] = some [.int .i64 (fidx (fun x => !wordOk x) 0 ns)] := by
    rw [q_ah]; unfold F_ah
    simp only [List.length_map]
    rw [idxLoop (l := ns) (fun x => !wordOk x)]
    · rfl
    · intro i x hx
      have hi := (List.getElem?_eq_some_iff.1 hx).1
      have hi' : (i : Int) < (ns.length : Nat) := by omega
      simp (disch := first | assumption | omega | (simp only [zL]; omega)) only [L_ah_0, row_W hx, Word.e, h1, wrap_nat, hi', if_true, Int.reduceEq, reduceIte, zT, getC]
      cases wordOk x <;> simp [hi']
    · have h : ¬ ((ns.length : Int) < (ns.length : Nat)) := by omega
      simp (disch := first | assumption | omega | (simp only [zL]; omega)) only [L_ah_0, h, if_false, Int.reduceEq, reduceIte, zU, zT, getC]
  rw [q_ae]
  simp (disch := first | assumption | omega | (simp only [zL]; omega)) only [F_ae, hi, fidx_any, Bool.decide_eq_true, Int.reduceEq, reduceIte, zU, zT, getC]

theorem WOk.cells (ho : WOk w) {i : Nat} {x : House} (hx : w.hs[i]? = some x) : LgOk ⟨x.lg.rs, x.lg.f⟩ /\ houseOk ⟨x.id, x.up, x.room, ⟨x.lg.rs, x.lg.f⟩⟩ = true /\ x.id = ((i + 1 : Nat) : Int) :=
  ⟨(ho.hs i x hx).1.lg, houseOk_iff.2 (ho.hs i x hx).1, by have := (ho.hs i x hx).2; omega⟩
theorem i_WorldOk (ho : WOk w) : φ_dx [.bool w.dk.up, .list (w.dk.lg.rs.map Rec.e), .int .i64 w.dk.lg.f, .list (w.dk.td.map Word.e), .list (w.hs.map House.e), .list (w.ns.map Word.e)] = some [.bool true] := by
  rw [q_dx]
  have hdS : DkS ⟨w.dk.up, ⟨w.dk.lg.rs, w.dk.lg.f⟩, w.dk.td⟩ := ho.dk.S
  have hdo : deskOk ⟨w.dk.up, ⟨w.dk.lg.rs, w.dk.lg.f⟩, w.dk.td⟩ = true := deskOk_iff.2 ho.dk
  have h3 := ho.len
  have hn := ho.nlen
  have h3' : ((w.hs.length : Nat) : Int) = 3 := by omega
  have hn' : ¬ (((w.ns.length : Nat) : Int) > 14) := by omega
  have hw : (w.ns.any fun x => !wordOk x) = false := by
    rw [List.any_eq_false]
    intro x hx
    rw [wordOk_iff.2 (ho.ns x hx)]; simp
  simp (disch := first | assumption | omega | (simp only [zL]; omega)) only [F_dx, i_DeskOk, hdo, h3', hn', if_true, if_false, Int.reduceEq, reduceIte, zU, zT, getC]
  rw [loopAll (l := w.hs) (o := .ret [.bool true])]
  · rfl
  · intro i x hx
    have hi := (List.getElem?_eq_some_iff.1 hx).1
    have hi' : (i : Int) < 3 := by omega
    obtain ⟨c1, c2, c3⟩ := ho.cells hx
    have c2' : houseOk ⟨((i + 1 : Nat) : Int), x.up, x.room, x.lg⟩ = true := by rw [<- c3]; exact c2
    simp (disch := first | assumption | omega | (simp only [zL]; omega)) only [L_dx_0, row_Hs hx, House.e, i_HouseOk c1.S, c2', c3, wrap_nat, hi', if_true, Int.reduceEq, reduceIte, zU, zT, getC]
  · have h : ¬ ((3 : Int) < 3) := by omega
    simp (disch := first | assumption | omega | (simp only [zL]; omega)) only [L_dx_0, h3', if_false, i_wordsOk, hw, Int.lt_irrefl, Int.reduceEq, reduceIte, zU, zT, getC]
    try rfl

theorem i_WorldCopied (ho : WOk w) : φ_ba [.bool w.dk.up, .list (w.dk.lg.rs.map Rec.e), .int .i64 w.dk.lg.f, .list (w.dk.td.map Word.e), .list (w.hs.map House.e), .list (w.ns.map Word.e)] = some w.e := by
  rw [q_ba]
  have hdS : DkS ⟨w.dk.up, ⟨w.dk.lg.rs, w.dk.lg.f⟩, w.dk.td⟩ := ho.dk.S
  have h3 := ho.len
  have hn := ho.nlen
  simp (disch := first | assumption | omega | (simp only [zL]; omega)) only [F_ba, i_DeskCopied hdS, Desk.e, i_CloneW, J_ba_1, Int.reduceEq, reduceIte, zU, zT, getC]
  have key := iter_list0 (l := w.hs) (F := fun ps => L_ba_0 (w.hs.map House.e) w.dk.up (w.dk.lg.rs.map Rec.e) w.dk.lg.f (w.dk.td.map Word.e) (w.ns.map Word.e) ((w.hs.length : Nat) : Int) ((getC ps 0).toInt) ((getC ps 1).toList)) (enc := fun i (s : List House) => [.int .i64 i, .list (s.map House.e)])
    (res := fun xs _ s => .ret [.bool w.dk.up, .list (w.dk.lg.rs.map Rec.e), .int .i64 w.dk.lg.f, .list (w.dk.td.map Word.e), .list ((s ++ xs).map House.e), .list (w.ns.map Word.e)]) (fun i s => s.length = i) (s := []) rfl ?_ ?_
  · have key : iterD _ [C.int .i64 0, C.list []] = _ := key
    rw [key]; rfl
  · intro i x xs s hx hs
    have hi := (List.getElem?_eq_some_iff.1 hx).1
    have hi' : (i : Int) < (w.hs.length : Nat) := by omega
    obtain ⟨c1, c2, c3⟩ := ho.cells hx
    have hc : s.length + 1 <= 1099511627776 := by omega
    simp (disch := first | assumption | omega | (simp only [zL]; omega)) only [L_ba_0, row_Hs hx, House.e, i_HouseCopied c1.S, wrap_nat, hi', hc, if_true, Int.reduceEq, reduceIte, zU, zT, getC]
    exact .inl ⟨s ++ [x], by simp [House.e], by simp [hs], by simp⟩
  · intro s hs
    have h : ¬ ((w.hs.length : Int) < (w.hs.length : Nat)) := by omega
    simp (disch := first | assumption | omega | (simp only [zL]; omega)) only [L_ba_0, h, if_false, Int.reduceEq, reduceIte, zU, zT, getC]
    simp

theorem i_WorldDo (ho : WOk w) {e : Ev} (hm : e.m.length <= 1099511627776) :
    φ_ew [.bool w.dk.up, .list (w.dk.lg.rs.map Rec.e), .int .i64 w.dk.lg.f, .list (w.dk.td.map Word.e), .list (w.hs.map House.e), .list (w.ns.map Word.e), .int .i64 e.k, .int .i64 e.a, .int .i64 e.b, .list (e.m.map eI)] = some (wdo w e).e := by
  rw [q_ew]
  unfold F_ew
  rw [i_WorldOk ho]
  simp only [cd_b, getC, C.toBool_bool, Bool.not_true, iteD_ff]
  rw [i_WorldCopied ho]
  simp only [Wd.e, cd_blilll, getC, C.toInt_int, C.toList_list, C.toBool_bool]
  rw [i_do' ho hm]
  simp only [Wd.e, cd_blilll, getC, C.toInt_int, C.toList_list, C.toBool_bool]
  rfl

def holdsOf (w : Wd) (t : Int) : List Hold := w.hs.map fun h => hAt (hstock h false).hs t
theorem i_WorldHolds (ho : WOk w) (ht : 1 <= t /\ t <= 6) : φ_cb [.bool w.dk.up, .list (w.dk.lg.rs.map Rec.e), .int .i64 w.dk.lg.f, .list (w.dk.td.map Word.e), .list (w.hs.map House.e), .list (w.ns.map Word.e), .int .i64 t] = some [.list ((holdsOf w t).map Hold.e)] := by
  rw [q_cb]
  have h3 := ho.len
  have hit := in_iff.2 ht
  simp (disch := first | assumption | omega | (simp only [zL]; omega)) only [F_cb, i_WorldOk ho, i_isTrip, hit, Int.reduceEq, reduceIte, zU, zT, getC]
  have key := iter_list0 (l := w.hs) (F := fun ps => L_cb_0 (w.hs.map House.e) t ((w.hs.length : Nat) : Int) ((getC ps 0).toInt) ((getC ps 1).toList)) (enc := fun i (s : List Hold) => [.int .i64 i, .list (s.map Hold.e)])
    (res := fun xs _ s => .ret [.list ((s ++ xs.map fun h => hAt (hstock h false).hs t).map Hold.e)]) (fun i s => s.length = i) (s := []) rfl ?_ ?_
  · have key : iterD _ [C.int .i64 0, C.list []] = _ := key
    rw [key]; rfl
  · intro i x xs s hx hs
    have hi := (List.getElem?_eq_some_iff.1 hx).1
    have hi' : (i : Int) < (w.hs.length : Nat) := by omega
    obtain ⟨c1, c2, c3⟩ := ho.cells hx
    have hc : s.length + 1 <= 1099511627776 := by omega
    have s6 : (hstock ⟨x.id, x.up, x.room, ⟨x.lg.rs, x.lg.f⟩⟩ false).hs.length = 6 := ((houseOk_iff.1 c2).stOk false).len
    have ht6 : t <= ((hstock ⟨x.id, x.up, x.room, ⟨x.lg.rs, x.lg.f⟩⟩ false).hs.length : Nat) := by omega
    simp (disch := first | assumption | omega | (simp only [zL]; omega)) only [L_cb_0, row_Hs hx, House.e, i_stock c1, Stock.e, wrap64, rowH ht.1 ht6, Hold.e, wrap_nat, hi', hc, if_true, Int.reduceEq, reduceIte, zU, zT, getC]
    exact .inl ⟨s ++ [hAt (hstock x false).hs t], by simp [Hold.e], by simp [hs], by simp⟩
  · intro s hs
    have h : ¬ ((w.hs.length : Int) < (w.hs.length : Nat)) := by omega
    simp (disch := first | assumption | omega | (simp only [zL]; omega)) only [L_cb_0, h, if_false, Int.reduceEq, reduceIte, zU, zT, getC]
    simp
end
end Dx


/- Laws on worlds, as they are drawn: no house gives more than it has; what is not forced is not said. -/
namespace Dx
open Go

section
variable {code : List Int}
end
end Dx


/- Laws on worlds, as they are drawn: things happen one behind the other; what a fall keeps counts as forced. -/
namespace Dx
open Go

section
variable {code more : List Int}
end
end Dx


/- A law on worlds, as they are drawn: what was asked is held at most by its trip. -/
namespace Dx
open Go

theorem loopAll1 {α : Type} {F : List C -> Option Out} {l : List α} {o : Out} (hs : ∀ (i : Nat) (x : α), l[i]? = some x -> F [.int .i64 ((i + 1 : Nat) : Int)] = some (.jump [.int .i64 ((i + 1 + 1 : Nat) : Int)]))
    (hf : F [.int .i64 ((l.length + 1 : Nat) : Int)] = some (.up o)) : iterD F [.int .i64 1] = some o :=
  iter_list0 (l := l) (F := F) (enc := fun i (_ : Unit) => [.int .i64 ((i + 1 : Nat) : Int)]) (res := fun _ _ _ => o) (fun _ _ => True) (s := ()) trivial (fun i x _ _ hx _ => .inl ⟨(), hs i x hx, trivial, rfl⟩) (fun _ _ => hf)

theorem rowN {m : List Int} (hm : m.length = 3) {h : Nat} (hh : h < 3) {kk : IntKind} {f : List C -> Option Out} : rowD (.list (m.map eI)) (.int kk (h : Int)) [.int .i64] f = f (eI (mAt m ((h + 1 : Nat) : Int))) := by
  refine row_I ?_
  have e : (((h + 1 : Nat) : Int) - 1).toNat = h := by omega
  rw [mAt, e, List.getElem?_eq_getElem (by omega)]; rfl

theorem holds_at {w : Wd} (ow : WOk w) {h : Nat} (hh : h < 3) (t : Int) : (holdsOf w t)[h]? = some ((vw w).hA ((h + 1 : Nat) : Int) t) := by
  have e : (((h + 1 : Nat) : Int) - 1).toNat = h := by omega
  have hl : h < w.hs.length := by rw [ow.len]; exact hh
  unfold holdsOf
  rw [List.getElem?_map, List.getElem?_eq_getElem hl]
  show some _ = some (hAt (hstock (houseAt w ((h + 1 : Nat) : Int)) false).hs t)
  unfold houseAt
  rw [e, List.getElem?_eq_getElem hl]; rfl

section
variable {code : List Int}
end
end Dx


/- A law on worlds, as they are drawn: what is decided stays decided. -/
namespace Dx
open Go

section
variable {code more : List Int}
end
end Dx


/- A world fits: all of a trip is closed, or nothing. -/
namespace Dx
open Go

section
variable {w : Wd}
theorem n_Fit (ow : WOk w) (I : Inv (vw w)) : φ_fv [.bool w.dk.up, .list (w.dk.lg.rs.map Rec.e), .int .i64 w.dk.lg.f, .list (w.dk.td.map Word.e), .list (w.hs.map House.e), .list (w.ns.map Word.e)] = some [.bool true] := by
  rw [q_fv]
  have s0 : DkS ⟨w.dk.up, ⟨w.dk.lg.rs, w.dk.lg.f⟩, w.dk.td⟩ := ow.dk.S
  have k0 : deskOk ⟨w.dk.up, ⟨w.dk.lg.rs, w.dk.lg.f⟩, w.dk.td⟩ = true := deskOk_iff.2 ow.dk
  have dT := i_DeskTrips s0 (b := true)
  rw [k0, if_pos rfl] at dT
  have tr : TrOk (ltrips w.dk.lg true) := ow.dk.trOk true
  have tr6 := tr.len
  have hsF : ∀ t, (vw w).sF t = (tAt (ltrips w.dk.lg true) t).s := fun _ => rfl
  have hwt : ∀ t h, (vw w).want t h = mAt (tAt (ltrips w.dk.lg true) t).m h := fun _ _ => rfl
  unfold F_fv
  have dT' : φ_cs [.bool w.dk.up, .list (w.dk.lg.rs.map Rec.e), .int .i64 w.dk.lg.f, .list (w.dk.td.map Word.e), .bool true] = some [.list ((ltrips w.dk.lg true).map Trip.e)] := dT
  rw [dT']
  simp only [cd_l, getC, C.toList_list]
  rw [loopAll1 (l := List.range 6) (o := .ret [.bool true])]
  · rfl
  · intro i x hx
    have hi : i < 6 := by simpa using (List.getElem?_eq_some_iff.1 hx).1
    have hi' : ((i + 1 : Nat) : Int) <= 6 := by omega
    have ht1 : (1 : Int) <= ((i + 1 : Nat) : Int) := by omega
    have ht : isT ((i + 1 : Nat) : Int) := ⟨by omega, by omega⟩
    have hho := i_WorldHolds ow (t := ((i + 1 : Nat) : Int)) ht
    have hh3 : (holdsOf w ((i + 1 : Nat) : Int)).length = 3 := by unfold holdsOf; rw [List.length_map, ow.len]
    have hh3' : (((holdsOf w ((i + 1 : Nat) : Int)).length : Nat) : Int) = 3 := by omega
    have inner : ∀ st : Int, st = (tAt (ltrips w.dk.lg true) ((i + 1 : Nat) : Int)).s ->
        J_fv_4 ((ltrips w.dk.lg true).map Trip.e) ((i + 1 : Nat) : Int) ((holdsOf w ((i + 1 : Nat) : Int)).map Hold.e) st = some (.jump [.int .i64 ((i + 1 + 1 : Nat) : Int)]) := by
      intro st hst
      unfold J_fv_4
      rw [loopAll (l := holdsOf w ((i + 1 : Nat) : Int)) (o := .jump [.int .i64 ((i + 1 + 1 : Nat) : Int)])]
      · intro h y hy
        have hh := (List.getElem?_eq_some_iff.1 hy).1
        have hh' : (h : Int) < ((holdsOf w ((i + 1 : Nat) : Int)).length : Nat) := by omega
        have hlt : h < 3 := by omega
        have hyA : y = (vw w).hA ((h + 1 : Nat) : Int) ((i + 1 : Nat) : Int) := by
          have := holds_at ow hlt ((i + 1 : Nat) : Int)
          rw [hy] at this
          simpa using this
        have hH : isH ((h + 1 : Nat) : Int) := ⟨by omega, by omega⟩
        have f := fun hs => I.hold ((h + 1 : Nat) : Int) ((i + 1 : Nat) : Int) hH ht hs
        have hle := I.hle ((h + 1 : Nat) : Int) ((i + 1 : Nat) : Int) hH ht
        have hok := hold_rng (I.okA ((h + 1 : Nat) : Int) ((i + 1 : Nat) : Int) hH ht)
        have tf := I.trip ((i + 1 : Nat) : Int) ht
        have hkept := fun h4 => tf.kept h4 ((h + 1 : Nat) : Int) hH
        have hleft := fun h5 => (tf.left h5).2 ((h + 1 : Nat) : Int) hH
        have hFA := fun h0 => I.toBase.FA_s ht.1 h0
        have hrng := fun h0 => I.toBase.F_rng ht.1 h0
        rw [<- hyA] at f hle hok
        have hw64 : IntKind.wrap .i64 (((i + 1 : Nat) : Int) - 1) = ((i + 1 : Nat) : Int) - 1 := wrap64 (by omega) (by omega)
        have hlen : st ≠ 0 -> ((i + 1 : Nat) : Int) <= ((ltrips w.dk.lg true).length : Nat) := fun h0 => by
          have := tAt_len (l := ltrips w.dk.lg true) (t := ((i + 1 : Nat) : Int)) (by rw [<- hst]; exact h0)
          omega
        have hm3 : st ≠ 0 -> (tAt (ltrips w.dk.lg true) ((i + 1 : Nat) : Int)).m.length = 3 := fun h0 => by
          have := tAt_len (l := ltrips w.dk.lg true) (t := ((i + 1 : Nat) : Int)) (by rw [<- hst]; exact h0)
          exact manyOk_len (tripOk_iff.1 (tr.ok _ (tAt_mem this))).1
        rw [hsF, <- hst] at hFA hrng
        generalize hwn : mAt (tAt (ltrips w.dk.lg true) ((i + 1 : Nat) : Int)).m ((h + 1 : Nat) : Int) = wn
        have fs : y.s ≠ 0 -> st ≠ 0 /\ 0 < wn /\ (y.s ≠ 3 -> y.m = wn) /\ (y.s = 2 -> st = 2 \/ st = 4) /\ (y.s = 3 -> st = 3 \/ st = 5) := fun h0 => by
          have g := f h0
          have g1 := g.s; have g2 := g.w; have g3 := g.m; have g4 := g.c; have g5 := g.u
          rw [<- hyA] at g3 g4 g5
          rw [hsF, <- hst] at g1 g4 g5
          rw [hwt, hwn] at g2 g3
          exact ⟨g1, g2, g3, g4, g5⟩
        have k4 : st = 4 -> 0 < wn -> y.s = 2 := fun h4 hw0 => by
          have a := hFA (by omega)
          have := hkept (by omega) (by rw [hwt, hwn]; exact hw0)
          unfold Dx.hle at hle; omega
        have k5 : st = 5 -> 0 < wn -> y.s = 3 := fun h5 hw0 => by
          have a := hFA (by omega)
          have := hleft (by omega) (by rw [hwt, hwn]; exact hw0)
          unfold Dx.hle at hle; omega
        have rr : ∀ {f : List C -> Option Out}, st ≠ 0 -> rowD (.list ((ltrips w.dk.lg true).map Trip.e)) (.int .i64 (((i + 1 : Nat) : Int) - 1)) [.list, .int .i64] f = f (tAt (ltrips w.dk.lg true) ((i + 1 : Nat) : Int)).e := fun h0 => rowT ht1 (hlen h0)
        have rm : ∀ {f : List C -> Option Out}, st ≠ 0 -> rowD (.list ((tAt (ltrips w.dk.lg true) ((i + 1 : Nat) : Int)).m.map eI)) (.int .i64 (h : Int)) [.int .i64] f = f (eI wn) := fun h0 => by rw [rowN (hm3 h0) hlt, hwn]
        have wh : IntKind.wrap .i64 ((h : Int) + 1) = ((h + 1 : Nat) : Int) := wrap_nat (by omega)
        have st6 : 0 <= st /\ st <= 5 := by
          by_cases h0 : st = 0
          · omega
          · have := hrng h0; omega
        have s3 : y.s = 0 \/ y.s = 1 \/ y.s = 2 \/ y.s = 3 := by omega
        have st5 : st = 0 \/ st = 1 \/ st = 2 \/ st = 3 \/ st = 4 \/ st = 5 := by omega
        clear hst hFA hrng hkept hleft tf f hle
        unfold L_fv_3
        generalize ((i + 1 : Nat) : Int) = T at *
        generalize ((h + 1 : Nat) : Int) = H1 at *
        simp only [List.length_map, hh', decide_true, iteD_tt, row_H hy, Hold.e, getC, C.toInt_int]
        have fs' : y.s = 0 \/ (st ≠ 0 /\ 0 < wn /\ (y.s = 3 \/ y.m = wn) /\ (y.s = 2 -> st = 2 \/ st = 4) /\ (y.s = 3 -> st = 3 \/ st = 5)) := by
          by_cases h0 : y.s = 0
          · exact .inl h0
          · obtain ⟨a, b, c, d, e⟩ := fs h0
            refine .inr ⟨a, b, ?_, d, e⟩
            by_cases h3 : y.s = 3
            · exact .inl h3
            · exact .inr (c h3)
        clear fs
        by_cases h00 : st = 0
        · have e2 : y.s = 0 := by omega
          subst h00
          simp [e2, J_fv_2, J_fv_1, J_fv_0, wh]
        · have R := fun f => rr (f := f) h00
          have Mm := fun f => rm (f := f) h00
          have hwz : y.s ≠ 0 -> ¬ (wn = 0) := by omega
          have hme : y.s = 1 \/ y.s = 2 -> y.m = wn := by omega
          by_cases hwp : 0 < wn
          · have hwp' : wn > 0 := hwp
            have hw0 : ¬ (wn = 0) := by omega
            rcases st5 with e | e | e | e | e | e <;> rcases s3 with e2 | e2 | e2 | e2 <;> first
              | (exfalso; omega)
              | (have em := hme (by omega); simp [e, e2, em, R, Mm, getC, hw64, wh, Trip.e, eI, hwp', hw0, J_fv_2, J_fv_1, J_fv_0, wh, bneI, beqI]; done)
              | (simp [e, e2, R, Mm, getC, hw64, wh, Trip.e, eI, hwp', hw0, J_fv_2, J_fv_1, J_fv_0, wh, bneI, beqI]; done)
          · have e2 : y.s = 0 := by omega
            have hwp' : ¬ (wn > 0) := hwp
            rcases st5 with e | e | e | e | e | e <;> first
              | (exfalso; omega)
              | (simp [e, e2, R, Mm, getC, hw64, wh, Trip.e, eI, hwp', J_fv_2, J_fv_1, J_fv_0, wh, bneI, beqI]; done)
      · have h : ¬ (((holdsOf w ((i + 1 : Nat) : Int)).length : Int) < ((holdsOf w ((i + 1 : Nat) : Int)).length : Nat)) := by omega
        simp (disch := first | assumption | omega | (simp only [zL]; omega)) only [L_fv_3, h, if_false, wrap_nat, Int.reduceEq, reduceIte, zU, zT, getC]
    unfold L_fv_5
    have hd : decide (((i + 1 : Nat) : Int) <= 6) = true := decide_eq_true hi'
    have hd3 : decide ((((holdsOf w ((i + 1 : Nat) : Int)).length : Nat) : Int) = 3) = true := decide_eq_true hh3'
    simp only [getC, C.toInt_int, hd, iteD_tt]
    rw [hho]
    simp only [cd_l, getC, C.toList_list, List.length_map, bneI, hd3, Bool.not_true, iteD_ff]
    by_cases hlt : ((i + 1 : Nat) : Int) <= ((ltrips w.dk.lg true).length : Nat)
    · simp (disch := first | assumption | omega | (simp only [zL]; omega)) only [hlt, decide_true, iteD_tt, wrap64, rowT ht1 hlt, Trip.e, getC, C.toInt_int, joinD_jump]
      simp only [iteD_dec, hi', if_true]
      exact inner _ rfl
    · simp only [hlt, decide_false, iteD_ff, joinD_jump, getC, C.toInt_int]
      simp only [iteD_dec, hi', if_true]
      refine inner _ ?_
      rw [tAt_none (by omega)]
  · simp (disch := first | assumption | omega | (simp only [zL]; omega)) only [L_fv_5, Int.reduceEq, reduceIte, zU, zT, getC]
    try rfl
end
end Dx


/- The program's calms. -/
namespace Dx
open Go

theorem heard_v : φ_az = φ_bf := rfl

theorem whears_ns : ∀ (xs : List Word) (w : Wd) (ns : List Word), whears { w with ns := ns } xs = { whears w xs with ns := ns }
  | [], _, _ => rfl
  | x :: xs, w, ns => by
    show whears (whear2 { w with ns := ns } x) xs = { whears (whear2 w x) xs with ns := ns }
    rw [whear2_ns]; exact whears_ns xs _ ns

section
variable {w : Wd}
theorem hs3 (ho : WOk w) : ∃ a b c, w.hs = [a, b, c] := by
  have h := ho.len
  match w.hs, h with
  | [a, b, c], _ => exact ⟨a, b, c, rfl⟩

theorem rises_eq (ho : WOk w) : ([0, 1, 2, 3] : List Int).foldl (fun w i => wnode w ⟨9, i, 0, []⟩) w = wrise w := by
  obtain ⟨a, b, c, h⟩ := hs3 ho
  obtain ⟨d, hs, ns⟩ := w
  simp only at h
  subst h
  rfl
theorem forces_eq (ho : WOk w) : ([0, 1, 2, 3] : List Int).foldl wforce w = wforces w := by
  obtain ⟨a, b, c, h⟩ := hs3 ho
  obtain ⟨d, hs, ns⟩ := w
  simp only at h
  subst h
  rfl

theorem iter_jump {F : List C -> Option Out} {p q : List C} (h : F p = some (.jump q)) : iterD F p = iterD F q := by rw [iterD_eq, h]; rfl
theorem iter_up {F : List C -> Option Out} {p : List C} {o : Out} (h : F p = some (.up o)) : iterD F p = some o := by rw [iterD_eq, h]; rfl
theorem row_LL (a b : List Word) (f : List C -> Option Out) : rowD (.list [[.list (a.map Word.e)], [.list (b.map Word.e)]]) (.int .i64 0) [.list] f = f [.list (a.map Word.e)] := rfl
theorem row_LL1 (a b : List Word) (f : List C -> Option Out) : rowD (.list [[.list (a.map Word.e)], [.list (b.map Word.e)]]) (.int .i64 1) [.list] f = f [.list (b.map Word.e)] := rfl

theorem i_Concat {a b : List Word} (ha : a.length <= 1000) (hb : b.length <= 1000) : φ_aq [.list [[.list (a.map Word.e)], [.list (b.map Word.e)]]] = some [.list ((a ++ b).map Word.e)] := by
  rw [q_aq]
  have hg : φ_av [.list [], .int .i64 ((a.length : Int) + (b.length : Nat))] = some [.list []] := by
    have hc : (decide ((0 : Int) <= (a.length : Int) + (b.length : Nat)) && decide ((a.length : Int) + (b.length : Nat) <= 1099511627776)) = true := by simp; omega
    unfold φ_av
    simp only [hc]
  have h1 : ¬ ((a.length : Int) < 0) := by omega
  have h2 : ¬ ((a.length : Int) + (b.length : Nat) < 0) := by omega
  have hA : ¬ ((0 : Int) + (a.length : Int) < 0) := by omega
  unfold F_aq
  refine Eq.trans (congrArg retOf (iter_jump (q := [.int .i64 a.length, .int .i64 1]) ?_)) ?_
  · show L_aq_1 _ 2 0 0 = _
    unfold L_aq_1
    simp (disch := first | assumption | omega | (simp only [zL]; omega)) only [row_LL, wrap64, h1, if_false, Int.zero_add, Int.reduceAdd, Int.reduceLT, if_true, Int.reduceEq, reduceIte, zU, zT, getC]
  refine Eq.trans (congrArg retOf (iter_jump (q := [.int .i64 ((a.length : Int) + (b.length : Nat)), .int .i64 2]) ?_)) ?_
  · show L_aq_1 _ 2 _ 1 = _
    unfold L_aq_1
    simp (disch := first | assumption | omega | (simp only [zL]; omega)) only [row_LL1, wrap64, h2, if_false, Int.reduceAdd, Int.reduceLT, if_true, C.toInt_int, Int.reduceEq, reduceIte, zU, zT, getC]
  refine Eq.trans (congrArg retOf (iter_up (o := .ret [.list ((a ++ b).map Word.e)]) ?_)) rfl
  show L_aq_1 _ 2 ((a.length : Int) + (b.length : Nat)) 2 = _
  unfold L_aq_1
  simp only [Int.lt_irrefl, decide_false, iteD_ff, hg, cd_l, getC, C.toList_list]
  have key : iterD (fun ps => L_aq_0 [[C.list (a.map Word.e)], [C.list (b.map Word.e)]] 2 ((getC ps 0).toInt) ((getC ps 1).toList)) [C.int .i64 0, C.list []] = some (.ret [.list ((a ++ b).map Word.e)]) := by
    refine Eq.trans (iter_jump (q := [.int .i64 1, .list (a.map Word.e)]) ?_) ?_
    · show L_aq_0 _ 2 0 [] = _
      unfold L_aq_0
      simp (disch := first | assumption | omega | (simp only [zL]; omega)) only [row_LL, kinds_W, wrap64, Int.zero_add, Int.reduceAdd, Int.reduceLT, if_true, LMAX_eq, Int.reduceEq, reduceIte, zU, zT, getC]
    refine Eq.trans (iter_jump (q := [.int .i64 2, .list ((a ++ b).map Word.e)]) ?_) ?_
    · show L_aq_0 _ 2 1 (a.map Word.e) = _
      unfold L_aq_0
      simp (disch := first | assumption | omega | (simp only [zL]; omega)) only [row_LL1, kinds_W, wrap64, Int.reduceAdd, Int.reduceLT, if_true, LMAX_eq, List.map_append, Int.reduceEq, reduceIte, zU, zT, getC]
    refine iter_up ?_
    show L_aq_0 _ 2 2 ((a ++ b).map Word.e) = _
    unfold L_aq_0
    simp only [Int.lt_irrefl, decide_false, iteD_ff]
    rfl
  exact congrArg upD key

theorem calm_words (ho : WOk w) : ∀ x ∈ w.ns ++ dwords w.dk, WdOk x := fun x hx => by
  rcases List.mem_append.1 hx with h | h
  · exact ho.ns x h
  · exact (dwords_mem ho.dk h).1

theorem i_calm (ho : WOk w) :
    φ_cc [.bool w.dk.up, .list (w.dk.lg.rs.map Rec.e), .int .i64 w.dk.lg.f, .list (w.dk.td.map Word.e), .list (w.hs.map House.e), .list (w.ns.map Word.e)] = some (wround w).e := by
  rw [q_cc]
  unfold F_cc
  -- the last loop
  have L0 : ∀ w : Wd, WOk w -> iterD (fun ps => L_cc_0 ((getC ps 0).toInt) ((getC ps 1).toBool) ((getC ps 2).toList) ((getC ps 3).toInt) ((getC ps 4).toList) ((getC ps 5).toList) ((getC ps 6).toList)) (.int .i64 0 :: w.e) = some (.ret (wforces w).e) := by
    intro w ow
    rw [<- forces_eq ow]
    refine iter_list0 (l := ([0, 1, 2, 3] : List Int)) (enc := fun i (w : Wd) => .int .i64 i :: w.e) (res := fun xs _ w => .ret (xs.foldl wforce w).e) (fun _ w => WOk w) (s := w) ow ?_ ?_
    · intro i x xs w hx ow
      have hi : (i : Int) < 4 /\ x = (i : Int) := by
        have := (List.getElem?_eq_some_iff.1 hx).1
        simp at this
        have h4 : i = 0 \/ i = 1 \/ i = 2 \/ i = 3 := by omega
        rcases h4 with e | e | e | e <;> subst e <;> simp at hx <;> subst hx <;> simp
      obtain ⟨hi, rfl⟩ := hi
      have he := i_eachForce (up := w.dk.up) (rs := w.dk.lg.rs) (f := w.dk.lg.f) (td := w.dk.td) (hs := w.hs) (ns := w.ns) ow (i := (i : Int))
      refine .inl ⟨wforce w i, ?_, ow.forceEv _, rfl⟩
      simp only [Wd.e, getC, C.toInt_int, C.toBool_bool, C.toList_list]
      unfold L_cc_0
      simp only [iteD_dec, hi, if_true, he]
      simp only [eta_L, eta_D, eta_Wd]
      simp only [Wd.e, cd_blilll, getC, C.toInt_int, C.toList_list, C.toBool_bool]
      rw [wrap_nat (by omega)]
    · intro w ow
      have h : ¬ (((4 : Nat) : Int) < 4) := by omega
      simp only [List.length_cons, List.length_nil, Wd.e, getC, C.toInt_int, C.toBool_bool, C.toList_list]
      unfold L_cc_0
      simp only [iteD_dec, h, if_false]
      rfl
  -- the words
  have L1 : ∀ (l : List Word) (w : Wd), l.length <= 1000 -> WOk w -> (∀ x ∈ l, WdOk x) -> iterD (fun ps => L_cc_1 (l.map Word.e) ((l.length : Nat) : Int) ((getC ps 0).toInt) ((getC ps 1).toBool) ((getC ps 2).toList) ((getC ps 3).toInt) ((getC ps 4).toList) ((getC ps 5).toList) ((getC ps 6).toList))
      [.int .i64 0, .bool w.dk.up, .list (w.dk.lg.rs.map Rec.e), .int .i64 w.dk.lg.f, .list (w.ns.map Word.e), .list (w.dk.td.map Word.e), .list (w.hs.map House.e)] = some (.ret (wforces { whears w l with ns := [] }).e) := by
    intro l w hl ow hw
    refine iter_list0 (l := l) (enc := fun i (w : Wd) => [.int .i64 i, .bool w.dk.up, .list (w.dk.lg.rs.map Rec.e), .int .i64 w.dk.lg.f, .list (w.ns.map Word.e), .list (w.dk.td.map Word.e), .list (w.hs.map House.e)]) (res := fun xs _ w => .ret (wforces { whears w xs with ns := [] }).e) (fun _ w => WOk w) (s := w) ow ?_ ?_
    · intro i x xs w hx ow
      have hi := (List.getElem?_eq_some_iff.1 hx).1
      have hi' : (i : Int) < (l.length : Nat) := by omega
      have hxo := hw x (List.mem_of_getElem? hx)
      have hhe := i_heard (up := w.dk.up) (rs := w.dk.lg.rs) (f := w.dk.lg.f) (td := w.dk.td) (hs := w.hs) (ns := w.ns) (k := x.k) (h := x.h) (t := x.t) (m := x.m) ow hxo
      have o2 := ow.hear hxo
      refine .inl ⟨whear2 w x, ?_, ow.hear2 hxo, rfl⟩
      simp only [getC, C.toInt_int, C.toBool_bool, C.toList_list]
      unfold L_cc_1
      have hd : (decide ((0 : Int) <= (i : Int)) && decide ((i : Int) < (((l.map Word.e).length : Nat) : Int))) = true := by simp; omega
      rw [row_Wi (by omega) (by simpa using hx)]
      simp only [iteD_dec, hi', if_true, hd, whenD_tt, Word.e, getC, C.toInt_int, heard_v, hhe]
      simp only [eta_L, eta_D, eta_Wd, eta_W]
      unfold whear2
      generalize whear w x = q at o2 ⊢
      obtain ⟨q1, q2⟩ := q
      rw [wrap_nat (by omega)]
      cases q2 with
      | none =>
        simp only [oW, Word.e, Wd.e, List.cons_append, List.nil_append, Option.isSome_none]
        rw [callD_ok rfl]
        rfl
      | some y =>
        have hq : WOk q1 := o2.1
        have hy := i_hear (up := q1.dk.up) (rs := q1.dk.lg.rs) (f := q1.dk.lg.f) (td := q1.dk.td) (k := y.k) (h := y.h) (t := y.t) (m := y.m) hq.dk
        have h4 := (o2.2 y rfl).2
        simp only [oW, Word.e, Wd.e, List.cons_append, List.nil_append, Option.isSome_some, Option.getD_some]
        rw [callD_ok rfl]
        simp only [getC, C.toBool_bool, C.toList_list, C.toInt_int, iteD_tt, hy]
        simp only [eta_L, eta_D, eta_W]
        rw [whear_ans h4]
        simp only [Desk.e]
        rw [callD_ok rfl]
        rfl
    · intro w ow
      have h : ¬ ((l.length : Int) < (l.length : Nat)) := by omega
      simp only [getC, C.toInt_int, C.toBool_bool, C.toList_list]
      unfold L_cc_1
      simp only [iteD_dec, h, if_false]
      have := L0 { w with ns := [] } ⟨ow.dk, ow.len, ow.hs, by simp, by simp⟩
      simp only [Wd.e, List.map_nil] at this
      rw [this]; rfl
  -- all rise
  refine Eq.trans (congrArg retOf (iter_list0 (l := ([0, 1, 2, 3] : List Int)) (enc := fun i (w : Wd) => .int .i64 i :: w.e) (res := fun xs _ v => .ret (wforces (whears { xs.foldl (fun w i => wnode w ⟨9, i, 0, []⟩) v with ns := [] } ((xs.foldl (fun w i => wnode w ⟨9, i, 0, []⟩) v).ns ++ dwords (xs.foldl (fun w i => wnode w ⟨9, i, 0, []⟩) v).dk))).e) (fun _ v => WOk v) (s := w) ho ?_ ?_)) ?_
  · intro i x xs w hx ow
    have hi : (i : Int) < 4 /\ x = (i : Int) := by
      have := (List.getElem?_eq_some_iff.1 hx).1
      simp at this
      have h4 : i = 0 \/ i = 1 \/ i = 2 \/ i = 3 := by omega
      rcases h4 with e | e | e | e <;> subst e <;> simp at hx <;> subst hx <;> simp
    obtain ⟨hi, rfl⟩ := hi
    have he := i_eachRise (up := w.dk.up) (rs := w.dk.lg.rs) (f := w.dk.lg.f) (td := w.dk.td) (hs := w.hs) (ns := w.ns) ow (i := (i : Int))
    refine .inl ⟨wnode w ⟨9, i, 0, []⟩, ?_, ow.node _, rfl⟩
    simp only [Wd.e, getC, C.toInt_int, C.toBool_bool, C.toList_list]
    unfold L_cc_2
    simp only [iteD_dec, hi, if_true, he]
    simp only [eta_L, eta_D, eta_Wd]
    simp only [Wd.e, cd_blilll, getC, C.toInt_int, C.toList_list, C.toBool_bool]
    rw [wrap_nat (by omega)]
  · intro v ow
    have h : ¬ (((4 : Nat) : Int) < 4) := by omega
    have hdw := dwords_len ow.dk
    have hnl := ow.nlen
    simp only [List.length_cons, List.length_nil, Wd.e, getC, C.toInt_int, C.toBool_bool, C.toList_list]
    unfold L_cc_2
    have hwd := i_words (up := v.dk.up) (rs := v.dk.lg.rs) (f := v.dk.lg.f) (td := v.dk.td) ow.dk
    simp only [iteD_dec, h, if_false, hwd, cd_l, getC, C.toList_list]
    simp only [eta_L, eta_D]
    rw [i_Concat (by omega) (by omega)]
    simp only [cd_l, getC, C.toList_list, List.length_map]
    have := L1 (v.ns ++ dwords v.dk) v (by rw [List.length_append]; omega) ow (calm_words ow)
    refine (congrArg upD this).trans ?_
    show _ = some (Out.up (.ret (wforces (whears { v with ns := [] } (v.ns ++ dwords v.dk))).e))
    rw [whears_ns (v.ns ++ dwords v.dk) v []]
    rfl
  · rw [rises_eq ho]
    rfl

theorem i_WorldCalm (ho : WOk w) {r : Int} (hr : 0 <= r /\ r <= 9) :
    φ_cu [.bool w.dk.up, .list (w.dk.lg.rs.map Rec.e), .int .i64 w.dk.lg.f, .list (w.dk.td.map Word.e), .list (w.hs.map House.e), .list (w.ns.map Word.e), .int .i64 r] = some (wcalm w r.toNat).e := by
  rw [q_cu]
  unfold F_cu
  rw [i_WorldOk ho]
  have hin : in_ r 0 9 = true := in_iff.2 hr
  simp only [cd_b, getC, C.toBool_bool, Bool.not_true, iteD_ff, i_in, hin]
  rw [i_WorldCopied ho]
  obtain ⟨n, rfl⟩ : ∃ n : Nat, r = n := ⟨r.toNat, by omega⟩
  simp only [Wd.e, cd_blilll, getC, C.toInt_int, C.toList_list, C.toBool_bool]
  refine Eq.trans (congrArg retOf (iter_list0 (l := List.replicate n ()) (enc := fun i (w : Wd) => .int .i64 i :: w.e) (res := fun xs _ v => .ret (wcalm v xs.length).e) (fun _ v => WOk v) (s := w) ho ?_ ?_)) ?_
  · intro i x xs w hx ow
    have hi := (List.getElem?_eq_some_iff.1 hx).1
    rw [List.length_replicate] at hi
    have hi' : (i : Int) < (n : Nat) := by omega
    refine .inl ⟨wround w, ?_, ow.round, rfl⟩
    simp only [Wd.e, getC, C.toInt_int, C.toBool_bool, C.toList_list]
    unfold L_cu_0
    simp only [iteD_dec, hi', if_true, i_calm ow]
    simp only [Wd.e, cd_blilll, getC, C.toInt_int, C.toList_list, C.toBool_bool]
    rw [wrap_nat (by omega)]
  · intro v ow
    have h : ¬ ((n : Int) < (n : Nat)) := by omega
    simp only [List.length_replicate, Wd.e, getC, C.toInt_int, C.toBool_bool, C.toList_list]
    unfold L_cu_0
    simp only [iteD_dec, h, if_false]
    rfl
  · rw [List.length_replicate]; rfl
end
end Dx


/- Laws of calms: what they share. -/
namespace Dx
open Go
theorem endStates {b a : List Trip} (hl : a.length = b.length) (h : ∀ t : Int, 1 <= t -> t <= b.length -> ((tAt b t).s = 2 -> (tAt a t).s = 4) /\ ((tAt b t).s = 3 -> (tAt a t).s = 5) /\ ((tAt a t).s = 4 \/ (tAt a t).s = 5)) {i : Nat} {x : Trip} (hx : b[i]? = some x) :
    ∃ y, a[i]? = some y /\ (x.s = 2 -> y.s = 4) /\ (x.s = 3 -> y.s = 5) /\ ¬ (y.s < 4) := by
  have hi := (List.getElem?_eq_some_iff.1 hx).1
  have e : (((i + 1 : Nat) : Int) - 1).toNat = i := by omega
  have hb : tAt b ((i + 1 : Nat) : Int) = x := by unfold tAt; rw [e, hx]; rfl
  have ha : a[i]? = some (tAt a ((i + 1 : Nat) : Int)) := by
    rw [tAt_eq (by omega)]; simp only [e]; rw [List.getElem?_eq_getElem (by omega)]
  have := h ((i + 1 : Nat) : Int) (by omega) (by omega)
  rw [hb] at this
  exact ⟨_, ha, this.1, this.2.1, by omega⟩
theorem chunk3 (a b c : C) : chunk 1 ((0 + 1 + 1 + 1) / 1) [a, b, c] = [[a], [b], [c]] := rfl
theorem chunk2 (a b : C) : chunk 1 ((0 + 1 + 1) / 1) [a, b] = [[a], [b]] := rfl
end Dx

