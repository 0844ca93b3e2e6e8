import Derived.Test.YtcgenclbnnigeabGreatZa
set_option linter.all false
set_option linter.unusedVariables false
set_option linter.unusedSimpArgs false
set_option linter.unnecessarySimpa false
/- The program's worlds: what they are asked. -/
namespace Dx
open Go

section
variable {room : Int} {hs : List Hold} {k h t m : Int} {ns : List Word} {w : Wd}

theorem i_wordsOk (hL : ns.length <= 1000) : φ_ac [.list (ns.map Word.e)] = some [.bool (ns.any fun x => !wordOk x)] := by
  have h1 : ∀ x : Word, φ_ch [.int .i64 x.k, .int .i64 x.h, .int .i64 x.t, .int .i64 x.m] = some [.bool (!wordOk x)] := fun x => by
    rw [q_ch]; simp (disch := first | assumption | omega | (simp only [zL]; omega)) only [F_ch, i_WordOk, Int.reduceEq, reduceIte, zU, zT, getC]
  have hi : φ_aj [.list (ns.map Word.e)] = some [.int .i64 (fidx (fun x => !wordOk x) 0 ns)] := by
    rw [q_aj]; unfold F_aj
    simp only [List.length_map]
    rw [idxLoop (l := ns) (fun x => !wordOk x)]
    · rfl
    · intro i x hx
      have hi := (List.getElem?_eq_some_iff.1 hx).1
      have hi' : (i : Int) < (ns.length : Nat) := by omega
      simp (disch := first | assumption | omega | (simp only [zL]; omega)) only [L_aj_0, row_W hx, Word.e, h1, wrap_nat, hi', if_true, Int.reduceEq, reduceIte, zT, getC]
      cases wordOk x <;> simp [hi']
    · have h : ¬ ((ns.length : Int) < (ns.length : Nat)) := by omega
      simp (disch := first | assumption | omega | (simp only [zL]; omega)) only [L_aj_0, h, if_false, Int.reduceEq, reduceIte, zU, zT, getC]
  rw [q_ac]
  simp (disch := first | assumption | omega | (simp only [zL]; omega)) only [F_ac, hi, fidx_any, Bool.decide_eq_true, Int.reduceEq, reduceIte, zU, zT, getC]

theorem WOk.cells (ho : WOk w) {i : Nat} {x : House} (hx : w.hs[i]? = some x) : LgOk ⟨x.lg.rs, x.lg.f⟩ /\ houseOk ⟨x.id, x.up, x.room, ⟨x.lg.rs, x.lg.f⟩⟩ = true /\ x.id = ((i + 1 : Nat) : Int) :=
  ⟨(ho.hs i x hx).1.lg, houseOk_iff.2 (ho.hs i x hx).1, by have := (ho.hs i x hx).2; omega⟩
theorem i_WorldOk (ho : WOk w) : φ_em [.bool w.dk.up, .list (w.dk.lg.rs.map Rec.e), .int .i64 w.dk.lg.f, .list (w.dk.td.map Word.e), .list (w.hs.map House.e), .list (w.ns.map Word.e)] = some [.bool true] := by
  rw [q_em]
  have hdS : DkS ⟨w.dk.up, ⟨w.dk.lg.rs, w.dk.lg.f⟩, w.dk.td⟩ := ho.dk.S
  have hdo : deskOk ⟨w.dk.up, ⟨w.dk.lg.rs, w.dk.lg.f⟩, w.dk.td⟩ = true := deskOk_iff.2 ho.dk
  have h3 := ho.len
  have hn := ho.nlen
  have h3' : ((w.hs.length : Nat) : Int) = 3 := by omega
  have hn' : ¬ (((w.ns.length : Nat) : Int) > 14) := by omega
  have hw : (w.ns.any fun x => !wordOk x) = false := by
    rw [List.any_eq_false]
    intro x hx
    rw [wordOk_iff.2 (ho.ns x hx)]; simp
  simp (disch := first | assumption | omega | (simp only [zL]; omega)) only [F_em, i_DeskOk, hdo, h3', hn', if_true, if_false, Int.reduceEq, reduceIte, zU, zT, getC]
  rw [loopAll (l := w.hs) (o := .ret [.bool true])]
  · rfl
  · intro i x hx
    have hi := (List.getElem?_eq_some_iff.1 hx).1
    have hi' : (i : Int) < 3 := by omega
    obtain ⟨c1, c2, c3⟩ := ho.cells hx
    have c2' : houseOk ⟨((i + 1 : Nat) : Int), x.up, x.room, x.lg⟩ = true := by rw [<- c3]; exact c2
    simp (disch := first | assumption | omega | (simp only [zL]; omega)) only [L_em_0, row_Hs hx, House.e, i_HouseOk c1.S, c2', c3, wrap_nat, hi', if_true, Int.reduceEq, reduceIte, zU, zT, getC]
  · have h : ¬ ((3 : Int) < 3) := by omega
    simp (disch := first | assumption | omega | (simp only [zL]; omega)) only [L_em_0, h3', if_false, i_wordsOk, hw, Int.lt_irrefl, Int.reduceEq, reduceIte, zU, zT, getC]
    try rfl

theorem i_WorldCopied (ho : WOk w) : φ_ax [.bool w.dk.up, .list (w.dk.lg.rs.map Rec.e), .int .i64 w.dk.lg.f, .list (w.dk.td.map Word.e), .list (w.hs.map House.e), .list (w.ns.map Word.e)] = some w.e := by
  rw [q_ax]
  have hdS : DkS ⟨w.dk.up, ⟨w.dk.lg.rs, w.dk.lg.f⟩, w.dk.td⟩ := ho.dk.S
  have h3 := ho.len
  have hn := ho.nlen
  simp (disch := first | assumption | omega | (simp only [zL]; omega)) only [F_ax, i_DeskCopied hdS, Desk.e, i_CloneW, J_ax_1, Int.reduceEq, reduceIte, zU, zT, getC]
  have key := iter_list0 (l := w.hs) (F := fun ps => L_ax_0 (w.hs.map House.e) w.dk.up (w.dk.lg.rs.map Rec.e) w.dk.lg.f (w.dk.td.map Word.e) (w.ns.map Word.e) ((w.hs.length : Nat) : Int) ((getC ps 0).toInt) ((getC ps 1).toList)) (enc := fun i (s : List House) => [.int .i64 i, .list (s.map House.e)])
    (res := fun xs _ s => .ret [.bool w.dk.up, .list (w.dk.lg.rs.map Rec.e), .int .i64 w.dk.lg.f, .list (w.dk.td.map Word.e), .list ((s ++ xs).map House.e), .list (w.ns.map Word.e)]) (fun i s => s.length = i) (s := []) rfl ?_ ?_
  · have key : iterD _ [C.int .i64 0, C.list []] = _ := key
    rw [key]; rfl
  · intro i x xs s hx hs
    have hi := (List.getElem?_eq_some_iff.1 hx).1
    have hi' : (i : Int) < (w.hs.length : Nat) := by omega
    obtain ⟨c1, c2, c3⟩ := ho.cells hx
    have hc : s.length + 1 <= 1099511627776 := by omega
    simp (disch := first | assumption | omega | (simp only [zL]; omega)) only [L_ax_0, row_Hs hx, House.e, i_HouseCopied c1.S, wrap_nat, hi', hc, if_true, Int.reduceEq, reduceIte, zU, zT, getC]
    exact .inl ⟨s ++ [x], by simp [House.e], by simp [hs], by simp⟩
  · intro s hs
    have h : ¬ ((w.hs.length : Int) < (w.hs.length : Nat)) := by omega
    simp (disch := first | assumption | omega | (simp only [zL]; omega)) only [L_ax_0, h, if_false, Int.reduceEq, reduceIte, zU, zT, getC]
    simp

theorem i_WorldDo (ho : WOk w) {e : Ev} (hm : e.m.length <= 1099511627776) :
    φ_dq [.bool w.dk.up, .list (w.dk.lg.rs.map Rec.e), .int .i64 w.dk.lg.f, .list (w.dk.td.map Word.e), .list (w.hs.map House.e), .list (w.ns.map Word.e), .int .i64 e.k, .int .i64 e.a, .int .i64 e.b, .list (e.m.map eI)] = some (wdo w e).e := by
  rw [q_dq]
  unfold F_dq
  rw [i_WorldOk ho]
  simp only [cd_b, getC, C.toBool_bool, Bool.not_true, iteD_ff]
  rw [i_WorldCopied ho]
  simp only [Wd.e, cd_blilll, getC, C.toInt_int, C.toList_list, C.toBool_bool]
  rw [i_do' ho hm]
  simp only [Wd.e, cd_blilll, getC, C.toInt_int, C.toList_list, C.toBool_bool]
  rfl

end
end Dx


/- Laws on worlds, as they are drawn: no house gives more than it has; what is not forced is not said. -/
namespace Dx
open Go

section
variable {code : List Int}
end
end Dx


/- Laws on worlds, as they are drawn: things happen one behind the other; what a fall keeps counts as forced. -/
namespace Dx
open Go

section
variable {code more : List Int}
end
end Dx


/- A law on worlds, as they are drawn: what was asked is held at most by its trip. -/
namespace Dx
open Go

section
variable {code : List Int}
end
end Dx


/- A law on worlds, as they are drawn: what is decided stays decided. -/
namespace Dx
open Go

section
variable {code more : List Int}
end
end Dx


/- A world fits: all of a trip is closed, or nothing. -/
namespace Dx
open Go

section
variable {w : Wd}
end
end Dx


/- The program's calms. -/
namespace Dx
open Go

section
variable {w : Wd}
end
end Dx


/- Laws of calms: what they share. -/
namespace Dx
open Go
theorem chunk3 (a b c : C) : chunk 1 ((0 + 1 + 1 + 1) / 1) [a, b, c] = [[a], [b], [c]] := rfl
end Dx


/- The rules' checks, copies, and calms. -/
namespace Dx
open Go

structure WS (w : Wd) : Prop where
  dk : DkS w.dk
  hs : ∀ x ∈ w.hs, LgS x.lg
  hl : w.hs.length <= 1000
  nl : w.ns.length <= 1000
theorem WOk.ws {w : Wd} (h : WOk w) : WS w := ⟨h.dk.S, fun x hx => by
  obtain ⟨i, hi⟩ := List.getElem?_of_mem hx
  exact (h.hs i x hi).1.lg.S, by have := h.len; omega, by have := h.nlen; omega⟩

section
variable {up b : Bool} {rs : List Rec} {f : Int} {td : List Word} {k h t m : Int} {id room : Int} {hs : List House} {ns : List Word} {w : Wd}

theorem m_LogOk (hl : LgS ⟨rs, f⟩) : φ_fn [.list (rs.map Rec.e), .int .i64 f] = some [.bool (logOk ⟨rs, f⟩)] := by
  rw [q_fn]
  have h1 := hl.1
  simp only at h1
  unfold F_fn
  refine Eq.trans (congrArg retOf (iter_list0 (l := rs) (enc := fun i (_ : Unit) => [.int .i64 i]) (res := fun xs _ _ => .ret [.bool (xs.all recOk && (decide (rs.length <= 40) && in_ f 0 rs.length))]) (fun _ _ => True) (s := ()) trivial ?_ ?_)) rfl
  · intro i x xs _ hx _
    have hi := (List.getElem?_eq_some_iff.1 hx).1
    have hi' : (i : Int) < (rs.length : Nat) := by omega
    have hm : x.m.length <= 1099511627776 := hl.2 x (List.mem_of_getElem? hx)
    simp only [getC, C.toInt_int]
    unfold L_fn_0
    simp (disch := first | assumption | omega | (simp only [zL]; omega)) only [row_R hx, Rec.e, hi', if_true, m_RecOk hm, wrap_nat, Int.reduceEq, reduceIte, zU, zT, getC]
    cases hr : recOk x with
    | true => exact .inl ⟨(), rfl, trivial, by simp [hr]⟩
    | false => exact .inr ⟨_, rfl, by simp [hr]⟩
  · intro _ _
    have h : ¬ ((rs.length : Int) < (rs.length : Nat)) := by omega
    simp only [getC, C.toInt_int]
    unfold L_fn_0
    by_cases h40 : ((rs.length : Nat) : Int) <= 40
    · have h40' : rs.length <= 40 := by omega
      simp (disch := first | assumption | omega | (simp only [zL]; omega)) only [h, if_false, h40, h40', if_true, m_l6In, decide_true, Bool.true_and, List.all_nil, Int.reduceEq, reduceIte, zU, zT, getC]
    · have h40' : ¬ (rs.length <= 40) := by omega
      simp (disch := first | assumption | omega | (simp only [zL]; omega)) only [h, if_false, h40, h40', decide_false, Bool.false_and, Bool.and_false, Int.reduceEq, reduceIte, zU, zT, getC]

theorem m_DeskOk (hs : DkS ⟨up, ⟨rs, f⟩, td⟩) : φ_fd [.bool up, .list (rs.map Rec.e), .int .i64 f, .list (td.map Word.e)] = some [.bool (deskOk ⟨up, ⟨rs, f⟩, td⟩)] := by
  rw [q_fd]
  have hS : LgS ⟨rs, f⟩ := hs.lg
  have htd : td.length <= 1000000 := by have := hs.td; simp only at this; omega
  have h12 := m_l12Of (rs := rs) hS.1 hS.2
  unfold deskOk
  simp only
  simp (disch := first | assumption | omega | (simp only [zL]; omega)) only [F_fd, h12, m_LogOk hS, Int.reduceEq, reduceIte, zU, zT, getC]
  cases hlo : logOk ⟨rs, f⟩ with
  | false => simp only [iteD_ff, Bool.false_and, retOf_ret]
  | true =>
    simp only [iteD_tt, Bool.true_and]
    cases htr : tripsOf rs with
    | none => simp only [Option.isSome_none, iteD_ff, retOf_ret]
    | some l =>
      simp only [Option.isSome_some, iteD_tt, Option.getD_some]
      have hl6 : l.length <= 6 := (tripsOf_ok htr).len
      refine Eq.trans (congrArg retOf (iter_list0 (l := td) (enc := fun i (_ : Unit) => [.int .i64 i]) (res := fun xs i _ => .ret [.bool (toldOk l.length (td.take i) xs && (up || td.isEmpty))]) (fun _ _ => True) (s := ()) trivial ?_ ?_)) rfl
      · intro i x xs _ hx _
        have hi := (List.getElem?_eq_some_iff.1 hx).1
        have hi' : (i : Int) < (td.length : Nat) := by omega
        have hil : (i : Int) <= (td.length : Nat) := by omega
        have hi0 : (0 : Int) <= (i : Int) := by omega
        have htk : (td.map Word.e).take ((i : Int).toNat) = (td.take i).map Word.e := by rw [Int.toNat_natCast, List.map_take]
        have htn : td.take (i + 1) = td.take i ++ [x] := by rw [List.take_add_one, hx]; rfl
        have hl1 : (td.take i).length <= 1099511627775 := by rw [List.length_take]; omega
        simp only [getC, C.toInt_int]
        unfold L_fd_0
        simp (disch := first | assumption | omega | (simp only [zL]; omega)) only [row_W hx, Word.e, hi', if_true, m_WordOk, hi0, hil, decide_true, Bool.and_self, htk, m_l13Told hl1, wrap_nat, Int.reduceEq, reduceIte, zU, zT, getC]
        cases hw : wordOk x with
        | false =>
          refine .inr ⟨_, rfl, ?_⟩
          simp [toldOk, hw]
        | true =>
          simp only [iteD_tt]
          by_cases h4 : x.k < 4
          · refine .inr ⟨_, by simp only [h4, if_true]; rfl, ?_⟩
            have : ¬ (4 <= x.k) := by omega
            simp [toldOk, this]
          · simp only [h4, if_false]
            by_cases htt : x.t > (l.length : Nat)
            · refine .inr ⟨_, by simp only [htt, if_true]; rfl, ?_⟩
              have : ¬ (x.t <= (l.length : Nat)) := by omega
              simp [toldOk, this]
            · simp only [htt, if_false]
              cases hc : (td.take i).contains x with
              | true =>
                refine .inr ⟨_, rfl, ?_⟩
                simp only [toldOk, hc, Bool.not_true, Bool.and_false, Bool.false_and]
              | false =>
                refine .inl ⟨(), rfl, trivial, ?_⟩
                have g4 : x.k >= 4 := by omega
                have gt : x.t <= (l.length : Nat) := by omega
                simp only [toldOk, hw, hc, g4, gt, decide_true, Bool.and_true, Bool.not_false, Bool.true_and, htn]
      · intro _ _
        have h : ¬ ((td.length : Int) < (td.length : Nat)) := by omega
        simp only [getC, C.toInt_int]
        unfold L_fd_0
        have he : (((td.length : Nat) : Int) == 0) = td.isEmpty := by cases td <;> simp; omega
        simp (disch := first | assumption | omega | (simp only [zL]; omega)) only [h, if_false, he, toldOk, Bool.true_and, Int.reduceEq, reduceIte, zU, zT, getC]
        cases up <;> rfl

theorem m_HouseOk (hl : LgS ⟨rs, f⟩) : φ_dw [.int .i64 id, .bool up, .int .i64 room, .list (rs.map Rec.e), .int .i64 f] = some [.bool (houseOk ⟨id, up, room, ⟨rs, f⟩⟩)] := by
  rw [q_dw]
  have h2 := m_l2Of (room := room) (rs := rs) hl.1 hl.2
  simp only [Stock.e, List.cons_append, List.nil_append] at h2
  unfold houseOk
  simp (disch := first | assumption | omega | (simp only [zL]; omega)) only [F_dw, h2, m_l6In, m_LogOk hl, Int.reduceEq, reduceIte, zU, zT, getC]
  cases in_ id 1 3 with
  | false => rfl
  | true => cases logOk ⟨rs, f⟩ <;> rfl

theorem m_wordsOk (hL : ns.length <= 1000) : iterD (fun ps => L_dj_0 (ns.map Word.e) ((getC ps 0).toInt)) [.int .i64 0] = some (.ret [.bool (ns.all wordOk)]) := by
  refine iter_list0 (l := ns) (enc := fun i (_ : Unit) => [.int .i64 i]) (res := fun xs _ _ => .ret [.bool (xs.all wordOk)]) (fun _ _ => True) (s := ()) trivial ?_ ?_
  · intro i x xs _ hx _
    have hi := (List.getElem?_eq_some_iff.1 hx).1
    have hi' : (i : Int) < (ns.length : Nat) := by omega
    simp only [getC, C.toInt_int]
    unfold L_dj_0
    simp (disch := first | assumption | omega | (simp only [zL]; omega)) only [row_W hx, Word.e, hi', if_true, m_WordOk, wrap_nat, Int.reduceEq, reduceIte, zU, zT, getC]
    cases hr : wordOk x with
    | true => exact .inl ⟨(), rfl, trivial, by simp [hr]⟩
    | false => exact .inr ⟨_, rfl, by simp [hr]⟩
  · intro _ _
    have h : ¬ ((ns.length : Int) < (ns.length : Nat)) := by omega
    simp only [getC, C.toInt_int]
    unfold L_dj_0
    simp (disch := first | assumption | omega | (simp only [zL]; omega)) only [h, if_false, Int.reduceEq, reduceIte, zU, zT, getC]
    rfl

theorem m_WorldOk (hw : WS w) : φ_dj [.bool w.dk.up, .list (w.dk.lg.rs.map Rec.e), .int .i64 w.dk.lg.f, .list (w.dk.td.map Word.e), .list (w.hs.map House.e), .list (w.ns.map Word.e)] = some [.bool (worldOk w)] := by
  rw [q_dj]
  obtain ⟨⟨up, ⟨rs, f⟩, td⟩, hs, ns⟩ := w
  have hd : DkS ⟨up, ⟨rs, f⟩, td⟩ := hw.dk
  have hhs := hw.hs
  have hhl := hw.hl
  have hnl := hw.nl
  simp only at hhs hhl hnl
  unfold worldOk
  simp only
  simp (disch := first | assumption | omega | (simp only [zL]; omega)) only [F_dj, m_DeskOk hd, Int.reduceEq, reduceIte, zU, zT, getC]
  cases deskOk ⟨up, ⟨rs, f⟩, td⟩ with
  | false => rfl
  | true =>
    simp only [iteD_tt, Bool.true_and]
    by_cases h3 : ((hs.length : Nat) : Int) = 3
    · have h3' : hs.length = 3 := by omega
      have h3b : (hs.length == 3) = true := by simp [h3']
      simp only [h3, if_true, h3b, Bool.true_and]
      by_cases h14 : ((ns.length : Nat) : Int) > 14
      · have h14' : ¬ (ns.length <= 14) := by omega
        simp [h14, h14']
      · have h14' : ns.length <= 14 := by omega
        simp only [h14, h14', if_false, decide_true, Bool.true_and]
        refine Eq.trans (congrArg retOf (iter_list0 (l := hs) (enc := fun i (_ : Unit) => [.int .i64 i]) (res := fun xs i _ => .ret [.bool (xs.all houseOk && ((xs.zipIdx (i + 1)).all (fun p => p.1.id == (p.2 : Int)) && ns.all wordOk))]) (fun _ _ => True) (s := ()) trivial ?_ ?_)) rfl
        · intro i x xs _ hx _
          have hi := (List.getElem?_eq_some_iff.1 hx).1
          have hi' : (i : Int) < ((3 : Nat) : Int) := by omega
          have hxl : LgS ⟨x.lg.rs, x.lg.f⟩ := hhs x (List.mem_of_getElem? hx)
          simp only [getC, C.toInt_int]
          unfold L_dj_1
          simp (disch := first | assumption | omega | (simp only [zL]; omega)) only [row_Hs hx, House.e, h3', h3, hi', if_true, m_HouseOk hxl, wrap_nat, Int.reduceEq, reduceIte, zU, zT, getC]
          cases hr : houseOk x with
          | false => exact .inr ⟨_, rfl, by simp [hr]⟩
          | true =>
            simp only [iteD_tt]
            by_cases hid : x.id = ((i + 1 : Nat) : Int)
            · refine .inl ⟨(), by simp only [hid, if_true], trivial, ?_⟩
              have : (x.id == ((i + 1 : Nat) : Int)) = true := by simpa using hid
              simp only [List.all_cons, hr, Bool.true_and, List.zipIdx_cons, this]
            · refine .inr ⟨_, by simp only [hid, if_false]; rfl, ?_⟩
              have : (x.id == ((i + 1 : Nat) : Int)) = false := by simpa using hid
              simp only [List.all_cons, hr, Bool.true_and, List.zipIdx_cons, this, Bool.false_and, Bool.and_false]
        · intro _ _
          have h : ¬ ((hs.length : Int) < (hs.length : Nat)) := by omega
          simp only [getC, C.toInt_int]
          unfold L_dj_1
          simp (disch := first | assumption | omega | (simp only [zL]; omega)) only [h, if_false, m_wordsOk hnl, Int.reduceEq, reduceIte, zU, zT, getC]
          simp
    · have h3b : (hs.length == 3) = false := by simp; omega
      simp only [h3, if_false, iteD_ff, iteD_tt, h3b, Bool.false_and, retOf_ret]
end
end Dx


/- Worlds that may not be ok: what is done with them. -/
namespace Dx
open Go

section
variable {up b : Bool} {rs : List Rec} {f : Int} {td : List Word} {k h t m : Int} {id room : Int} {hs : List House} {ns : List Word} {w : Wd}

theorem i_WorldOkS (hw : WS w) : φ_em [.bool w.dk.up, .list (w.dk.lg.rs.map Rec.e), .int .i64 w.dk.lg.f, .list (w.dk.td.map Word.e), .list (w.hs.map House.e), .list (w.ns.map Word.e)] = some [.bool (worldOk w)] := by
  rw [q_em]
  obtain ⟨⟨up, ⟨rs, f⟩, td⟩, hs, ns⟩ := w
  have hd : DkS ⟨up, ⟨rs, f⟩, td⟩ := hw.dk
  have hhs := hw.hs
  have hhl := hw.hl
  have hnl := hw.nl
  simp only at hhs hhl hnl
  unfold worldOk
  simp only
  simp (disch := first | assumption | omega | (simp only [zL]; omega)) only [F_em, i_DeskOk hd, Int.reduceEq, reduceIte, zU, zT, getC]
  cases deskOk ⟨up, ⟨rs, f⟩, td⟩ with
  | false => rfl
  | true =>
    simp only [iteD_tt, Bool.true_and]
    by_cases h3 : ((hs.length : Nat) : Int) = 3
    · have h3' : hs.length = 3 := by omega
      have h3b : (hs.length == 3) = true := by simp [h3']
      simp only [h3, if_true, h3b, Bool.true_and]
      by_cases h14 : ((ns.length : Nat) : Int) > 14
      · have h14' : ¬ (ns.length <= 14) := by omega
        simp [h14, h14']
      · have h14' : ns.length <= 14 := by omega
        simp only [h14, h14', if_false, decide_true, Bool.true_and]
        have key := iter_list0 (l := hs) (F := fun ps => L_em_0 (hs.map House.e) (ns.map Word.e) 3 ((getC ps 0).toInt)) (enc := fun i (_ : Unit) => [.int .i64 i]) (res := fun xs i _ => .ret [.bool (xs.all houseOk && ((xs.zipIdx (i + 1)).all (fun p => p.1.id == (p.2 : Int)) && ns.all wordOk))]) (fun _ _ => True) (s := ()) trivial ?_ ?_
        · refine Eq.trans (congrArg retOf key) rfl
        · intro i x xs _ hx _
          have hi := (List.getElem?_eq_some_iff.1 hx).1
          have hi' : (i : Int) < 3 := by omega
          have hxl : LgS ⟨x.lg.rs, x.lg.f⟩ := hhs x (List.mem_of_getElem? hx)
          simp only [getC, C.toInt_int]
          unfold L_em_0
          simp (disch := first | assumption | omega | (simp only [zL]; omega)) only [row_Hs hx, House.e, hi', if_true, i_HouseOk hxl, wrap_nat, Int.reduceEq, reduceIte, zU, zT, getC]
          cases hr : houseOk x with
          | false => exact .inr ⟨_, rfl, by simp [hr]⟩
          | true =>
            simp only [iteD_tt]
            by_cases hid : x.id = ((i + 1 : Nat) : Int)
            · refine .inl ⟨(), by simp only [hid, if_true], trivial, ?_⟩
              have : (x.id == ((i + 1 : Nat) : Int)) = true := by simpa using hid
              simp only [List.all_cons, hr, Bool.true_and, List.zipIdx_cons, this]
            · refine .inr ⟨_, by simp only [hid, if_false]; rfl, ?_⟩
              have : (x.id == ((i + 1 : Nat) : Int)) = false := by simpa using hid
              simp only [List.all_cons, hr, Bool.true_and, List.zipIdx_cons, this, Bool.false_and, Bool.and_false]
        · intro _ _
          have h : ¬ ((3 : Int) < 3) := by omega
          have hall : (!(ns.any fun x => !wordOk x)) = ns.all wordOk := by simp [List.all_eq_not_any_not]
          simp only [getC, C.toInt_int]
          unfold L_em_0
          simp (disch := first | assumption | omega | (simp only [zL]; omega)) only [h3, h, if_false, i_wordsOk, Int.reduceEq, reduceIte, zU, zT, getC]
          rw [<- hall]; simp
    · have h3b : (hs.length == 3) = false := by simp; omega
      simp only [h3, if_false, iteD_ff, iteD_tt, h3b, Bool.false_and, retOf_ret]

theorem i_WorldDoS (hw : WS w) {e : Ev} (he : EvS e) :
    φ_dq [.bool w.dk.up, .list (w.dk.lg.rs.map Rec.e), .int .i64 w.dk.lg.f, .list (w.dk.td.map Word.e), .list (w.hs.map House.e), .list (w.ns.map Word.e), .int .i64 e.k, .int .i64 e.a, .int .i64 e.b, .list (e.m.map eI)] = some (if worldOk w then wdo w e else wd0).e := by
  cases hok : worldOk w with
  | true => rw [if_pos rfl]; exact i_WorldDo (worldOk_iff.1 hok) (by unfold EvS at he; omega)
  | false =>
    rw [q_dq]
    unfold F_dq
    rw [i_WorldOkS hw, hok]
    rfl
theorem m_l1RecCopy {ms : List Int} (hm : ms.length <= 1099511627776) : φ_cg [.int .i64 k, .int .i64 t, .list (ms.map eI)] = some [.int .i64 k, .int .i64 t, .list (ms.map eI)] := by
  rw [q_cg]
  simp (disch := first | assumption | omega | (simp only [zL]; omega)) only [F_cg, Int.reduceEq, reduceIte, zU, zT, getC]
theorem m_l1Copy (hl : LgS ⟨rs, f⟩) : φ_fl [.list (rs.map Rec.e), .int .i64 f] = some [.list (rs.map Rec.e), .int .i64 f] := by
  rw [q_fl]
  have h1 := hl.1
  simp only at h1
  unfold F_fl
  refine Eq.trans (congrArg retOf (iter_list0 (l := rs) (enc := fun i (s : List Rec) => [.int .i64 i, .list (s.map Rec.e)]) (res := fun xs _ s => .ret [.list ((s ++ xs).map Rec.e), .int .i64 f]) (fun i s => s.length = i) (s := []) rfl ?_ ?_)) rfl
  · intro i x xs s hx hs
    have hi := (List.getElem?_eq_some_iff.1 hx).1
    have hi' : (i : Int) < (rs.length : Nat) := by omega
    have hm : x.m.length <= 1099511627776 := hl.2 x (List.mem_of_getElem? hx)
    have hc : s.length + 1 <= 1099511627776 := by omega
    simp only [getC, C.toInt_int, C.toList_list]
    unfold L_fl_0
    simp (disch := first | assumption | omega | (simp only [zL]; omega)) only [row_R hx, Rec.e, hi', if_true, m_l1RecCopy hm, hc, wrap_nat, Int.reduceEq, reduceIte, zU, zT, getC]
    refine .inl ⟨s ++ [x], ?_, by simp [hs], by simp⟩
    simp [Rec.e]
  · intro s _
    have h : ¬ ((rs.length : Int) < (rs.length : Nat)) := by omega
    simp only [getC, C.toInt_int, C.toList_list]
    unfold L_fl_0
    simp (disch := first | assumption | omega | (simp only [zL]; omega)) only [h, if_false, Int.reduceEq, reduceIte, zU, zT, getC]
    simp
theorem m_l11Copy (hl : LgS ⟨rs, f⟩) : φ_ec [.int .i64 id, .bool up, .int .i64 room, .list (rs.map Rec.e), .int .i64 f] = some [.int .i64 id, .bool up, .int .i64 room, .list (rs.map Rec.e), .int .i64 f] := by
  rw [q_ec]
  simp (disch := first | assumption | omega | (simp only [zL]; omega)) only [F_ec, m_l1Copy hl, Int.reduceEq, reduceIte, zU, zT, getC]
theorem m_l13Copy (hd : DkS ⟨up, ⟨rs, f⟩, td⟩) : φ_eh [.bool up, .list (rs.map Rec.e), .int .i64 f, .list (td.map Word.e)] = some [.bool up, .list (rs.map Rec.e), .int .i64 f, .list (td.map Word.e)] := by
  rw [q_eh]
  have htd : td.length <= 1099511627776 := by have := hd.td; simp only at this; omega
  have hl : LgS ⟨rs, f⟩ := hd.lg
  simp (disch := first | assumption | omega | (simp only [zL]; omega)) only [F_eh, m_l1Copy hl, htd, Int.reduceEq, reduceIte, zU, zT, getC]
theorem m_l21Copy (hw : WS w) : φ_dz [.bool w.dk.up, .list (w.dk.lg.rs.map Rec.e), .int .i64 w.dk.lg.f, .list (w.dk.td.map Word.e), .list (w.hs.map House.e), .list (w.ns.map Word.e)] = some w.e := by
  rw [q_dz]
  have hd : DkS ⟨w.dk.up, ⟨w.dk.lg.rs, w.dk.lg.f⟩, w.dk.td⟩ := hw.dk
  have hnl := hw.nl
  have hhl := hw.hl
  simp (disch := first | assumption | omega | (simp only [zL]; omega)) only [F_dz, m_l13Copy hd, J_dz_1, Int.reduceEq, reduceIte, zU, zT, getC]
  have key := iter_list0 (l := w.hs) (F := fun ps => L_dz_0 (w.hs.map House.e) w.dk.up w.dk.lg.f (w.dk.lg.rs.map Rec.e) (w.dk.td.map Word.e) (w.ns.map Word.e) ((getC ps 0).toInt) ((getC ps 1).toList)) (enc := fun i (s : List House) => [.int .i64 i, .list (s.map House.e)])
    (res := fun xs _ s => .ret [.bool w.dk.up, .list (w.dk.lg.rs.map Rec.e), .int .i64 w.dk.lg.f, .list (w.dk.td.map Word.e), .list ((s ++ xs).map House.e), .list (w.ns.map Word.e)]) (fun i s => s.length = i) (s := []) rfl ?_ ?_
  · have key : iterD _ [C.int .i64 0, C.list []] = _ := key
    rw [key]; rfl
  · intro i x xs s hx hs
    have hi := (List.getElem?_eq_some_iff.1 hx).1
    have hi' : (i : Int) < (w.hs.length : Nat) := by omega
    have hxl : LgS ⟨x.lg.rs, x.lg.f⟩ := hw.hs x (List.mem_of_getElem? hx)
    have hc : s.length + 1 <= 1099511627776 := by omega
    simp (disch := first | assumption | omega | (simp only [zL]; omega)) only [L_dz_0, row_Hs hx, House.e, m_l11Copy hxl, wrap_nat, hi', hc, if_true, Int.reduceEq, reduceIte, zU, zT, getC]
    exact .inl ⟨s ++ [x], by simp [House.e], by simp [hs], by simp⟩
  · intro s hs
    have h : ¬ ((w.hs.length : Int) < (w.hs.length : Nat)) := by omega
    simp (disch := first | assumption | omega | (simp only [zL]; omega)) only [L_dz_0, h, if_false, Int.reduceEq, reduceIte, zU, zT, getC]
    simp

theorem m_WorldDoS (hw : WS w) {e : Ev} (he : EvS e) :
    φ_dn [.bool w.dk.up, .list (w.dk.lg.rs.map Rec.e), .int .i64 w.dk.lg.f, .list (w.dk.td.map Word.e), .list (w.hs.map House.e), .list (w.ns.map Word.e), .int .i64 e.k, .int .i64 e.a, .int .i64 e.b, .list (e.m.map eI)] = some (if worldOk w then wdo w e else wd0).e := by
  rw [q_dn]
  unfold F_dn
  rw [m_WorldOk hw]
  cases hok : worldOk w with
  | false => rfl
  | true =>
    simp only [cd_b, getC, C.toBool_bool, Bool.not_true, iteD_ff, if_true]
    rw [m_l21Copy hw]
    simp only [Wd.e, cd_blilll, getC, C.toInt_int, C.toList_list, C.toBool_bool]
    rw [m_l21Do' (worldOk_iff.1 hok) he]
    simp only [Wd.e, cd_blilll, getC, C.toInt_int, C.toList_list, C.toBool_bool]
    rfl
end
end Dx


/- The rules' calms; worlds that are drawn. -/
namespace Dx
open Go

section
variable {w : Wd}
end
end Dx


/- Worlds, words, and numbers that are drawn. -/
namespace Dx
open Go

section
variable {bs : List Int}

def WOut (bs : List Int) (p : Int) (r : Option (List C)) : Prop := ∃ (x : Word) (p' : Int), r = some (x.e ++ [.list (bs.map eB), .int .i64 p']) /\ p <= p' /\ p' <= p + 10
theorem WOut.ite {p : Int} {c : Prop} [Decidable c] {a b : Option (List C)} (ha : WOut bs p a) (hb : WOut bs p b) : WOut bs p (if c then a else b) := by split <;> assumption
theorem wOut {p p' k h t m : Int} (h1 : p <= p') (h2 : p' <= p + 10) : WOut bs p (some [.int .i64 k, .int .i64 h, .int .i64 t, .int .i64 m, .list (bs.map eB), .int .i64 p']) := ⟨⟨k, h, t, m⟩, p', rfl, h1, h2⟩

theorem m_l71Word (hb : Rd bs) {p : Int} (h0 : 0 <= p) (h1 : p <= 800000000) : WOut bs p (φ_di [.list (bs.map eB), .int .i64 p]) := by
  rw [q_di]
  obtain ⟨pk, hpk⟩ := picks hb
  have q := fun p n h0 h1 h2 => (hpk p n h0 h1 h2).1
  have j : ∀ (k h t m p' : Int), p <= p' -> p' <= p + 5 -> WOut bs p (retOf (J_di_0 k h t m (bs.map eB) p')) := by
    intro k h t m p' g1 g2
    unfold J_di_0
    simp (disch := first | assumption | omega | (simp only [zL]; omega)) only [q, Int.reduceEq, reduceIte, zU, zT, getC]
    exact WOut.ite (wOut (by omega) (by omega)) (WOut.ite (wOut (by omega) (by omega)) (WOut.ite (wOut (by omega) (by omega)) (WOut.ite (wOut (by omega) (by omega)) (wOut (by omega) (by omega)))))
  simp (disch := first | assumption | omega | (simp only [zL]; omega)) only [F_di, q, Int.reduceEq, reduceIte, zU, zT, getC]
  split
  · exact j _ _ _ _ _ (by omega) (by omega)
  · exact j _ _ _ _ _ (by omega) (by omega)

def MOut (bs : List Int) (p : Int) (r : Option (List C)) : Prop := ∃ (m : List Int) (p' : Int), r = some [.list (m.map eI), .list (bs.map eB), .int .i64 p'] /\ p <= p' /\ p' <= p + 10 /\ m.length <= 3
theorem MOut.ite {p : Int} {c : Prop} [Decidable c] {a b : Option (List C)} (ha : MOut bs p a) (hb : MOut bs p b) : MOut bs p (if c then a else b) := by split <;> assumption
theorem row3 {a b c i : Int} (h0 : 0 <= i) (h3 : i < 3) {kk : IntKind} : ∃ x, (∀ f : List C -> Option Out, rowD (.list [[.int .i64 a], [.int .i64 b], [.int .i64 c]]) (.int kk i) [.int .i64] f = f [.int .i64 x]) := by
  obtain ⟨n, rfl⟩ := Int.eq_ofNat_of_zero_le h0
  rcases (show n = 0 \/ n = 1 \/ n = 2 by omega) with e | e | e <;> subst e
  · exact ⟨a, fun _ => rfl⟩
  · exact ⟨b, fun _ => rfl⟩
  · exact ⟨c, fun _ => rfl⟩
theorem set3 {a b c i x : Int} (h0 : 0 <= i) (h3 : i < 3) : ∃ m : List Int, setRow 0 [[C.int .i64 a], [.int .i64 b], [.int .i64 c]] (Int.toNat i) [.int .i64 x] = m.map eI /\ m.length = 3 := by
  obtain ⟨n, rfl⟩ := Int.eq_ofNat_of_zero_le h0
  rcases (show n = 0 \/ n = 1 \/ n = 2 by omega) with e | e | e <;> subst e
  · exact ⟨[x, b, c], rfl, rfl⟩
  · exact ⟨[a, x, c], rfl, rfl⟩
  · exact ⟨[a, b, x], rfl, rfl⟩
theorem setN {m : List Int} {i x : Int} (h0 : 0 <= i) (h3 : i < m.length) : ∃ m' : List Int, setRow 0 (m.map eI) (Int.toNat i) [.int .i64 x] = m'.map eI /\ m'.length = m.length := by
  have hx : m[i.toNat]? = some (m[i.toNat]'(by omega)) := List.getElem?_eq_getElem (by omega)
  exact ⟨m.set i.toNat x, setRow_map hx rfl, by simp⟩

theorem m_l71ManyJ (hb : Rd bs) {p p' : Int} {m : List Int} (h0 : 0 <= p) (h1 : p <= 800000000) (g1 : p <= p') (g2 : p' <= p + 5) (hm : m.length = 3) : MOut bs p (retOf (J_dy_0 (m.map eI) (bs.map eB) p')) := by
  obtain ⟨pk, hpk⟩ := picks hb
  have q := fun p n h0 h1 h2 => (hpk p n h0 h1 h2).1
  unfold J_dy_0
  simp (disch := first | assumption | omega | (simp only [zL]; omega)) only [q, List.length_map, hm, Int.reduceEq, reduceIte, zU, zT, getC]
  have k1 := hpk (p' + 1) 3 (by omega) (by omega) (by omega)
  have k2 := hpk (p' + 1 + 1) 3 (by omega) (by omega) (by omega)
  have u1 := k1.2.2.1 (by omega)
  have u2 := k2.2.2.1 (by omega)
  refine MOut.ite ?_ (MOut.ite ?_ (MOut.ite ?_ ?_))
  · obtain ⟨x, e1⟩ := row3 (a := -1) (b := 3) (c := 4) (kk := .i64) k2.2.1 u2
    obtain ⟨m', s1, s2⟩ := setN (m := m) (x := x) k1.2.1 (by omega)
    rw [whenD_b (by simp only [Bool.and_eq_true, decide_eq_true_eq]; omega), e1, whenD_b (by simp only [Bool.and_eq_true, decide_eq_true_eq]; omega)]
    simp only [getC, C.toInt_int, s1]
    exact ⟨m', p' + 1 + 1 + 1, rfl, by omega, by omega, by omega⟩
  · exact ⟨m.drop 1, p' + 1, by simp, by omega, by omega, by simp; omega⟩
  · exact ⟨[0, 0, 0], p' + 1, rfl, by omega, by omega, by simp⟩
  · exact ⟨m, p' + 1, rfl, by omega, by omega, by omega⟩
theorem row3a {a b c : Int} {f : List C -> Option Out} : rowD (.list [[.int .i64 a], [.int .i64 b], [.int .i64 c]]) (.int .i64 0) [.int .i64] f = f [.int .i64 a] := rfl
theorem row3b {a b c : Int} {f : List C -> Option Out} : rowD (.list [[.int .i64 a], [.int .i64 b], [.int .i64 c]]) (.int .i64 1) [.int .i64] f = f [.int .i64 b] := rfl
theorem row3c {a b c : Int} {f : List C -> Option Out} : rowD (.list [[.int .i64 a], [.int .i64 b], [.int .i64 c]]) (.int .i64 2) [.int .i64] f = f [.int .i64 c] := rfl
theorem m_l71Many (hb : Rd bs) {p : Int} (h0 : 0 <= p) (h1 : p <= 800000000) : MOut bs p (φ_dy [.list (bs.map eB), .int .i64 p]) := by
  rw [q_dy]
  obtain ⟨pk, hpk⟩ := picks hb
  have q := fun p n h0 h1 h2 => (hpk p n h0 h1 h2).1
  have a1 := hpk p 3 (by omega) (by omega) (by omega)
  have a2 := hpk (p + 1) 3 (by omega) (by omega) (by omega)
  have a3 := hpk (p + 1 + 1) 3 (by omega) (by omega) (by omega)
  have a4 := hpk (p + 1 + 1 + 1) 3 (by omega) (by omega) (by omega)
  have u1 := a1.2.2.1 (by omega)
  have u2 := a2.2.2.1 (by omega)
  have u3 := a3.2.2.1 (by omega)
  have u4 := a4.2.2.1 (by omega)
  have v1 := a1.2.1
  have v2 := a2.2.1
  have v3 := a3.2.1
  have v4 := a4.2.1
  simp (disch := first | assumption | omega | (simp only [zL]; omega)) only [F_dy, q, row3a, row3b, row3c, wrap64, Int.reduceEq, reduceIte, zU, zT, getC]
  simp only [bothD_self, joinD_ite, joinD_jump, getC, C.toInt_int, C.toList_list, retOf_ite]
  have e3 : ∀ a b c : Int, [[C.int .i64 a], [C.int .i64 b], [C.int .i64 c]] = [a, b, c].map eI := fun _ _ _ => rfl
  refine MOut.ite ?_ ?_
  · obtain ⟨m', s1, s2⟩ := set3 (a := pk p 3) (b := pk (p + 1) 3) (c := pk (p + 1 + 1) 3) (x := 1) v4 u4
    rw [s1]
    exact m_l71ManyJ hb (p := p) h0 h1 (by omega) (by omega) s2
  · rw [e3]
    exact m_l71ManyJ hb (p := p) h0 h1 (by omega) (by omega) rfl

theorem cd_iiiili (a b c d : Int) (l : List (List C)) (e : Int) (f : List C -> Option Out) : callD (some [.int .i64 a, .int .i64 b, .int .i64 c, .int .i64 d, .list l, .int .i64 e]) [.int .i64, .int .i64, .int .i64, .int .i64, .list, .int .i64] f = f [.int .i64 a, .int .i64 b, .int .i64 c, .int .i64 d, .list l, .int .i64 e] := callD_ok rfl
theorem cd_bliLi (a : Bool) (l : List (List C)) (b : Int) (m n o q : List (List C)) (e : Int) (f : List C -> Option Out) : callD (some [.bool a, .list l, .int .i64 b, .list m, .list n, .list o, .list q, .int .i64 e]) [.bool, .list, .int .i64, .list, .list, .list, .list, .int .i64] f = f [.bool a, .list l, .int .i64 b, .list m, .list n, .list o, .list q, .int .i64 e] := callD_ok rfl

structure WdS (w : Wd) : Prop extends WS w where
  bare : DkOk ⟨w.dk.up, ⟨w.dk.lg.rs, w.dk.lg.f⟩, []⟩
  tl : w.dk.td.length <= 1000
theorem WOk.wds {w : Wd} (h : WOk w) : WdS w := { h.ws with bare := h.dk.bare, tl := by have := h.dk.tdlen; omega }
def WdOut (bs : List Int) (r : Option (List C)) : Prop := ∃ (w : Wd) (p' : Int), r = some (w.e ++ [.list (bs.map eB), .int .i64 p']) /\ 0 <= p' /\ p' <= 5000 /\ WdS w
theorem WdOut.ite {c : Prop} [Decidable c] {a b : Option (List C)} (ha : WdOut bs a) (hb : WdOut bs b) : WdOut bs (if c then a else b) := by split <;> assumption

theorem kinds_Hs (m : List House) : (m.map House.e).all (kindsB [.int .i64, .bool, .int .i64, .list, .int .i64]) = true := by
  rw [List.all_map, List.all_eq_true]; intro x _; rfl

theorem m_l72World (hb : Rd bs) {p : Int} (h0 : 0 <= p) (h1 : p <= 100) : WdOut bs (φ_db [.list (bs.map eB), .int .i64 p]) := by
  rw [q_db]
  obtain ⟨pk, hpk⟩ := picks hb
  have q := fun p n h0 h1 h2 => (hpk p n h0 h1 h2).1
  obtain ⟨a, b, c, w0, es, w, p', hp, _, _, _, _, _, _, hw0, hd, hp0, hp1⟩ := m_l72Play hb (p := p) (by omega) (by omega)
  simp only [Wd.e, List.cons_append, List.nil_append] at hp
  have ow : WOk w := by rw [hd.play]; exact (worldNew_ok hw0).plays es
  have hds := ow.wds
  have h3 := ow.len
  have hnl := ow.nlen
  have htd := ow.dk.tdlen
  obtain ⟨x, px, hx, hx1, hx2⟩ := m_l71Word hb (p := p' + 1) (by omega) (by omega)
  simp only [Word.e, List.cons_append, List.nil_append] at hx
  have hc1 : w.ns.length + 1 <= 1099511627776 := by omega
  have hc2 : w.dk.td.length + 1 <= 1099511627776 := by omega
  have k1 : (1 : Int) <= ((w.hs.length : Nat) : Int) := by omega
  have k0 : (0 : Int) < ((w.hs.length : Nat) : Int) := by omega
  obtain ⟨y, ys, hys⟩ : ∃ y ys, w.hs = y :: ys := by
    match hq : w.hs, h3 with
    | y :: ys, _ => exact ⟨y, ys, rfl⟩
  have hrow : ∀ f : List C -> Option Out, rowD (.list (w.hs.map House.e)) (.int .i64 0) [.int .i64, .bool, .int .i64, .list, .int .i64] f = f y.e := fun f => by rw [hys]; rfl
  simp (disch := first | assumption | omega | (simp only [zL]; omega)) only [F_db, hp, q, hx, cd_iiiili, kinds_Hs, k1, k0, hrow, House.e, hc1, hc2, Int.reduceLE, decide_true, Bool.and_self, Int.reduceEq, reduceIte, zU, zT, getC]
  refine WdOut.ite ?_ (WdOut.ite ?_ (WdOut.ite ?_ (WdOut.ite ?_ (WdOut.ite ?_ ?_))))
  · refine ⟨⟨w.dk, w.hs.drop 1, w.ns⟩, p' + 1, by simp [Wd.e], by omega, by omega, { hds with hs := fun x hx => hds.hs x (List.mem_of_mem_drop hx), hl := by simp; omega }⟩
  · refine ⟨⟨w.dk, w.hs, w.ns ++ [x]⟩, px, by simp [Wd.e, Word.e], by omega, by omega, { hds with nl := by simp; omega }⟩
  · have r := hpk (p' + 1) 3 (by omega) (by omega) (by omega)
    refine ⟨⟨w.dk, ⟨y.id, y.up, pk (p' + 1) 3, y.lg⟩ :: ys, w.ns⟩, p' + 1 + 1, by rw [hys]; rfl, by omega, by omega, { hds with hs := fun x hx => ?_, hl := by have := h3; rw [hys, List.length_cons] at this; show ys.length + 1 <= 1000; omega }⟩
    rcases List.mem_cons.1 hx with e | hx
    · subst e; exact hds.hs y (by rw [hys]; simp)
    · exact hds.hs x (by rw [hys]; simp [hx])
  · refine ⟨⟨⟨w.dk.up, w.dk.lg, w.dk.td ++ [x]⟩, w.hs, w.ns⟩, px, by simp [Wd.e, Word.e], by omega, by omega, { hds with dk := ⟨hds.dk.lg, by simp; omega⟩, tl := by simp; omega }⟩
  · have key := iter_ex (F := fun ps => L_db_0 w.dk.up (w.dk.lg.rs.map Rec.e) w.dk.lg.f (w.dk.td.map Word.e) (w.hs.map House.e) (bs.map eB) (p' + 1) ((getC ps 0).toList))
      (I := fun k ps => ∃ ns : List Word, ps = [.list (ns.map Word.e)] /\ ns.length + k = 15)
      (Q := fun o => ∃ ns : List Word, o = .ret ([.bool w.dk.up, .list (w.dk.lg.rs.map Rec.e), .int .i64 w.dk.lg.f, .list (w.dk.td.map Word.e), .list (w.hs.map House.e), .list (ns.map Word.e)] ++ [.list (bs.map eB), .int .i64 (p' + 1 + 1)]) /\ ns.length <= 15) ?_ (15 - w.ns.length) _ ⟨w.ns, rfl, by omega⟩
    · obtain ⟨o, g1, ns, rfl, g2⟩ := key
      refine ⟨⟨w.dk, w.hs, ns⟩, p' + 1 + 1, by rw [g1]; rfl, by omega, by omega, { hds with nl := by simp only; omega }⟩
    · rintro k ps ⟨ns, rfl, hk⟩
      simp only [getC, C.toList_list]
      unfold L_db_0
      have r := hpk (p' + 1) 2 (by omega) (by omega) (by omega)
      have r1 := r.2.2.1 (by omega)
      have r0 := r.2.1
      by_cases h14 : ((ns.length : Nat) : Int) <= 14
      · left
        have hc : ns.length + 1 <= 1099511627776 := by omega
        simp (disch := first | assumption | omega | (simp only [zL]; omega)) only [h14, hc, if_true, Int.reduceEq, reduceIte, zU, zT, getC]
        exact ⟨_, k - 1, by omega, rfl, ns ++ [⟨3, 1, 1, 0⟩], by simp [Word.e], by simp; omega⟩
      · right
        have hw1 : IntKind.wrap .i64 (14 + pk (p' + 1) 2) = 14 + pk (p' + 1) 2 := wrap64 (by omega) (by omega)
        have hu1 : (0 : Int) <= 14 + pk (p' + 1) 2 := by omega
        have hu2 : 14 + pk (p' + 1) 2 <= ((ns.length : Nat) : Int) := by omega
        simp (disch := first | assumption | omega | (simp only [zL]; omega)) only [h14, if_false, q, hw1, hu1, hu2, decide_true, Bool.and_self, Int.reduceEq, reduceIte, zU, zT, getC]
        refine ⟨_, rfl, ns.take (14 + pk (p' + 1) 2).toNat, by simp, by simp; omega⟩
  · exact ⟨w, p' + 1, rfl, by omega, by omega, hds⟩

theorem m_DrawWorldDo {code : List Int} (hl : code.length <= 1099511627776) (hc : ∀ b ∈ code, 0 <= b /\ b <= 255) :
    ∃ (w : Wd) (e : Ev), φ_bc [.list (code.map eB)] = some (w.e ++ e.e) /\ WS w /\ EvS e := by
  rw [q_bc]
  obtain ⟨bs, hb, ho⟩ := m_l6Open hl hc
  obtain ⟨pk, hpk⟩ := picks hb
  have q := fun p n h0 h1 h2 => (hpk p n h0 h1 h2).1
  obtain ⟨w, p, hw, hp0, hp1, hws⟩ := m_l72World hb (p := 0) (by omega) (by omega)
  simp only [Wd.e, List.cons_append, List.nil_append] at hw
  obtain ⟨e, p2, he, he1, he2, he3⟩ := m_l72EventD hb hp0 (by omega) hws.bare hws.tl (by have := hws.nl; omega)
  simp only [Ev.e, List.cons_append, List.nil_append] at he
  obtain ⟨m, p3, hm, hm1, hm2, hm3⟩ := m_l71Many hb (p := p2 + 1) (by omega) (by omega)
  have r := hpk (p2 + 1) 3 (by omega) (by omega) (by omega)
  have r1 := r.2.2.1 (by omega)
  have r0 := r.2.1
  obtain ⟨x, ex⟩ := row3 (a := 0) (b := 10) (c := -1) (kk := .i64) r0 r1
  obtain ⟨y, ey⟩ := row3 (a := -1) (b := 4) (c := 20) (kk := .i64) r0 r1
  have r1' : pk (p2 + 1) 3 < ((0 + 1 + 1 + 1 : Nat) : Int) := by omega
  simp (disch := first | assumption | omega | (simp only [zL]; omega)) only [F_bc, ho, hw, he, hm, q, cd_bliLi, ex, ey, r0, r1', decide_true, Bool.and_self, Int.reduceEq, reduceIte, zU, zT, getC]
  have wout : ∀ (k a b : Int) (m : List Int), m.length <= 1000000 -> ∃ (w' : Wd) (e' : Ev), (some [C.bool w.dk.up, C.list (w.dk.lg.rs.map Rec.e), C.int .i64 w.dk.lg.f, C.list (w.dk.td.map Word.e), C.list (w.hs.map House.e), C.list (w.ns.map Word.e), C.int .i64 k, C.int .i64 a, C.int .i64 b, C.list (m.map eI)] : Option (List C)) = some (w'.e ++ e'.e) /\ WS w' /\ EvS e' :=
    fun k a b m hm => ⟨w, ⟨k, a, b, m⟩, rfl, hws.toWS, hm⟩
  by_cases c0 : pk p2 20 = 0
  · simp only [c0, if_true]; exact wout _ _ _ _ he3
  · simp only [c0, if_false]
    by_cases c1 : pk p2 20 = 1
    · simp only [c1, if_true]; exact wout _ _ _ _ he3
    · simp only [c1, if_false]
      by_cases c2 : pk p2 20 = 2
      · simp only [c2, if_true]; exact wout _ _ _ _ (by omega)
      · simp only [c2, if_false]; exact wout _ _ _ _ he3

end
end Dx


/- Laws on drawn worlds: what they share. -/
namespace Dx
open Go
theorem self_n {x : Wd} (hx : WS x) : φ_dk (x.e ++ x.e) = some [.bool true] := by
  have := n_World (w := x) (w' := x) hx.dk hx.hs hx.hl hx.nl
  simp only [decide_true] at this
  exact this
theorem drawDo {code : List Int} (hl : code.length <= 1099511627776) (hc : Bytes code) : ∃ (w : Wd) (e : Ev), WS w /\ EvS e ∧
    φ_bc [.list (code.map eB)] = some [.bool w.dk.up, .list (w.dk.lg.rs.map Rec.e), .int .i64 w.dk.lg.f, .list (w.dk.td.map Word.e), .list (w.hs.map House.e), .list (w.ns.map Word.e), .int .i64 e.k, .int .i64 e.a, .int .i64 e.b, .list (e.m.map eI)] ∧
    φ_dj [.bool w.dk.up, .list (w.dk.lg.rs.map Rec.e), .int .i64 w.dk.lg.f, .list (w.dk.td.map Word.e), .list (w.hs.map House.e), .list (w.ns.map Word.e)] = some [.bool (worldOk w)] /\ ∃ x : Wd, WS x /\ (worldOk w = false -> x = wd0) /\ (worldOk w = true -> x = wdo w e) ∧
    φ_dq [.bool w.dk.up, .list (w.dk.lg.rs.map Rec.e), .int .i64 w.dk.lg.f, .list (w.dk.td.map Word.e), .list (w.hs.map House.e), .list (w.ns.map Word.e), .int .i64 e.k, .int .i64 e.a, .int .i64 e.b, .list (e.m.map eI)] = some x.e ∧
    φ_dn [.bool w.dk.up, .list (w.dk.lg.rs.map Rec.e), .int .i64 w.dk.lg.f, .list (w.dk.td.map Word.e), .list (w.hs.map House.e), .list (w.ns.map Word.e), .int .i64 e.k, .int .i64 e.a, .int .i64 e.b, .list (e.m.map eI)] = some x.e ∧
    φ_dk (x.e ++ x.e) = some [.bool true] := by
  obtain ⟨w, e, hd, hw, he⟩ := m_DrawWorldDo hl hc
  have hx : WS (if worldOk w then wdo w e else wd0) := by
    split
    · rename_i h; exact ((worldOk_iff.1 h).do_ e).ws
    · exact ⟨⟨⟨by simp [wd0], by simp [wd0]⟩, by simp [wd0]⟩, by simp [wd0], by simp [wd0], by simp [wd0]⟩
  refine ⟨w, e, hw, he, hd, m_WorldOk hw, _, hx, fun h => by rw [h]; rfl, fun h => by rw [h]; rfl, i_WorldDoS hw he, m_WorldDoS hw he, self_n hx⟩
def doHead (t : Tree) : Tree :=
.letp .len [⟨.list, (.v 0)⟩] <|
.letp .gtI [⟨(.int .i64), (.v 1)⟩, ⟨(.int .i64), (.n 1048576)⟩] <|
.ite (.v 2) (
  .ret [⟨.bool, (.b true)⟩]) <|
.call 0 [⟨.list, (.v 0)⟩] [.bool, .list, (.int .i64), .list, .list, .list, (.int .i64), (.int .i64), (.int .i64), .list] <|
.call 1 [⟨.bool, (.v 3)⟩, ⟨.list, (.v 4)⟩, ⟨(.int .i64), (.v 5)⟩, ⟨.list, (.v 6)⟩, ⟨.list, (.v 7)⟩, ⟨.list, (.v 8)⟩, ⟨(.int .i64), (.v 9)⟩, ⟨(.int .i64), (.v 10)⟩, ⟨(.int .i64), (.v 11)⟩, ⟨.list, (.v 12)⟩] [.bool, .list, (.int .i64), .list, .list, .list] <|
.call 2 [⟨.bool, (.v 3)⟩, ⟨.list, (.v 4)⟩, ⟨(.int .i64), (.v 5)⟩, ⟨.list, (.v 6)⟩, ⟨.list, (.v 7)⟩, ⟨.list, (.v 8)⟩, ⟨(.int .i64), (.v 9)⟩, ⟨(.int .i64), (.v 10)⟩, ⟨(.int .i64), (.v 11)⟩, ⟨.list, (.v 12)⟩] [.bool, .list, (.int .i64), .list, .list, .list] <|
.call 3 [⟨.bool, (.v 13)⟩, ⟨.list, (.v 14)⟩, ⟨(.int .i64), (.v 15)⟩, ⟨.list, (.v 16)⟩, ⟨.list, (.v 17)⟩, ⟨.list, (.v 18)⟩, ⟨.bool, (.v 19)⟩, ⟨.list, (.v 20)⟩, ⟨(.int .i64), (.v 21)⟩, ⟨.list, (.v 22)⟩, ⟨.list, (.v 23)⟩, ⟨.list, (.v 24)⟩] [.bool] <|
.letp .not [⟨.bool, (.v 25)⟩] <|
.ite (.v 26) (
  .call 2 [⟨.bool, (.v 3)⟩, ⟨.list, (.v 4)⟩, ⟨(.int .i64), (.v 5)⟩, ⟨.list, (.v 6)⟩, ⟨.list, (.v 7)⟩, ⟨.list, (.v 8)⟩, ⟨(.int .i64), (.v 9)⟩, ⟨(.int .i64), (.v 10)⟩, ⟨(.int .i64), (.v 11)⟩, ⟨.list, (.v 12)⟩] [.bool, .list, (.int .i64), .list, .list, .list] <|
  .call 3 [⟨.bool, (.v 13)⟩, ⟨.list, (.v 14)⟩, ⟨(.int .i64), (.v 15)⟩, ⟨.list, (.v 16)⟩, ⟨.list, (.v 17)⟩, ⟨.list, (.v 18)⟩, ⟨.bool, (.v 27)⟩, ⟨.list, (.v 28)⟩, ⟨(.int .i64), (.v 29)⟩, ⟨.list, (.v 30)⟩, ⟨.list, (.v 31)⟩, ⟨.list, (.v 32)⟩] [.bool] <|
  .ret [⟨.bool, (.v 33)⟩]) <|
.call 4 [⟨.bool, (.v 3)⟩, ⟨.list, (.v 4)⟩, ⟨(.int .i64), (.v 5)⟩, ⟨.list, (.v 6)⟩, ⟨.list, (.v 7)⟩, ⟨.list, (.v 8)⟩] [.bool] <|
.letp .not [⟨.bool, (.v 27)⟩] <|
.ite (.v 28) (
  .call 2 [⟨.bool, (.v 3)⟩, ⟨.list, (.v 4)⟩, ⟨(.int .i64), (.v 5)⟩, ⟨.list, (.v 6)⟩, ⟨.list, (.v 7)⟩, ⟨.list, (.v 8)⟩, ⟨(.int .i64), (.v 9)⟩, ⟨(.int .i64), (.v 10)⟩, ⟨(.int .i64), (.v 11)⟩, ⟨.list, (.v 12)⟩] [.bool, .list, (.int .i64), .list, .list, .list] <|
  .call 3 [⟨.bool, (.v 13)⟩, ⟨.list, (.v 14)⟩, ⟨(.int .i64), (.v 15)⟩, ⟨.list, (.v 16)⟩, ⟨.list, (.v 17)⟩, ⟨.list, (.v 18)⟩, ⟨.bool, (.v 29)⟩, ⟨.list, (.v 30)⟩, ⟨(.int .i64), (.v 31)⟩, ⟨.list, (.v 32)⟩, ⟨.list, (.v 33)⟩, ⟨.list, (.v 34)⟩] [.bool] <|
  .ret [⟨.bool, (.v 35)⟩]) t
def doHead2 (t : Tree) : Tree :=
.letp .len [⟨.list, (.v 0)⟩] <|
.letp .gtI [⟨(.int .i64), (.v 2)⟩, ⟨(.int .i64), (.n 1048576)⟩] <|
.ite (.v 3) (
  .ret [⟨.bool, (.b true)⟩]) <|
.letp .len [⟨.list, (.v 1)⟩] <|
.letp .gtI [⟨(.int .i64), (.v 4)⟩, ⟨(.int .i64), (.n 1048576)⟩] <|
.ite (.v 5) (
  .ret [⟨.bool, (.b true)⟩]) <|
.call 0 [⟨.list, (.v 0)⟩] [.bool, .list, (.int .i64), .list, .list, .list, (.int .i64), (.int .i64), (.int .i64), .list] <|
.call 1 [⟨.bool, (.v 6)⟩, ⟨.list, (.v 7)⟩, ⟨(.int .i64), (.v 8)⟩, ⟨.list, (.v 9)⟩, ⟨.list, (.v 10)⟩, ⟨.list, (.v 11)⟩, ⟨(.int .i64), (.v 12)⟩, ⟨(.int .i64), (.v 13)⟩, ⟨(.int .i64), (.v 14)⟩, ⟨.list, (.v 15)⟩] [.bool, .list, (.int .i64), .list, .list, .list] <|
.call 2 [⟨.bool, (.v 6)⟩, ⟨.list, (.v 7)⟩, ⟨(.int .i64), (.v 8)⟩, ⟨.list, (.v 9)⟩, ⟨.list, (.v 10)⟩, ⟨.list, (.v 11)⟩, ⟨(.int .i64), (.v 12)⟩, ⟨(.int .i64), (.v 13)⟩, ⟨(.int .i64), (.v 14)⟩, ⟨.list, (.v 15)⟩] [.bool, .list, (.int .i64), .list, .list, .list] <|
.call 3 [⟨.bool, (.v 16)⟩, ⟨.list, (.v 17)⟩, ⟨(.int .i64), (.v 18)⟩, ⟨.list, (.v 19)⟩, ⟨.list, (.v 20)⟩, ⟨.list, (.v 21)⟩, ⟨.bool, (.v 22)⟩, ⟨.list, (.v 23)⟩, ⟨(.int .i64), (.v 24)⟩, ⟨.list, (.v 25)⟩, ⟨.list, (.v 26)⟩, ⟨.list, (.v 27)⟩] [.bool] <|
.letp .not [⟨.bool, (.v 28)⟩] <|
.ite (.v 29) (
  .call 2 [⟨.bool, (.v 6)⟩, ⟨.list, (.v 7)⟩, ⟨(.int .i64), (.v 8)⟩, ⟨.list, (.v 9)⟩, ⟨.list, (.v 10)⟩, ⟨.list, (.v 11)⟩, ⟨(.int .i64), (.v 12)⟩, ⟨(.int .i64), (.v 13)⟩, ⟨(.int .i64), (.v 14)⟩, ⟨.list, (.v 15)⟩] [.bool, .list, (.int .i64), .list, .list, .list] <|
  .call 3 [⟨.bool, (.v 16)⟩, ⟨.list, (.v 17)⟩, ⟨(.int .i64), (.v 18)⟩, ⟨.list, (.v 19)⟩, ⟨.list, (.v 20)⟩, ⟨.list, (.v 21)⟩, ⟨.bool, (.v 30)⟩, ⟨.list, (.v 31)⟩, ⟨(.int .i64), (.v 32)⟩, ⟨.list, (.v 33)⟩, ⟨.list, (.v 34)⟩, ⟨.list, (.v 35)⟩] [.bool] <|
  .ret [⟨.bool, (.v 36)⟩]) <|
.call 4 [⟨.bool, (.v 6)⟩, ⟨.list, (.v 7)⟩, ⟨(.int .i64), (.v 8)⟩, ⟨.list, (.v 9)⟩, ⟨.list, (.v 10)⟩, ⟨.list, (.v 11)⟩] [.bool] <|
.letp .not [⟨.bool, (.v 30)⟩] <|
.ite (.v 31) (
  .call 2 [⟨.bool, (.v 6)⟩, ⟨.list, (.v 7)⟩, ⟨(.int .i64), (.v 8)⟩, ⟨.list, (.v 9)⟩, ⟨.list, (.v 10)⟩, ⟨.list, (.v 11)⟩, ⟨(.int .i64), (.v 12)⟩, ⟨(.int .i64), (.v 13)⟩, ⟨(.int .i64), (.v 14)⟩, ⟨.list, (.v 15)⟩] [.bool, .list, (.int .i64), .list, .list, .list] <|
  .call 3 [⟨.bool, (.v 16)⟩, ⟨.list, (.v 17)⟩, ⟨(.int .i64), (.v 18)⟩, ⟨.list, (.v 19)⟩, ⟨.list, (.v 20)⟩, ⟨.list, (.v 21)⟩, ⟨.bool, (.v 32)⟩, ⟨.list, (.v 33)⟩, ⟨(.int .i64), (.v 34)⟩, ⟨.list, (.v 35)⟩, ⟨.list, (.v 36)⟩, ⟨.list, (.v 37)⟩] [.bool] <|
  .ret [⟨.bool, (.v 38)⟩]) t
section
variable {Φ : Phi} {f : Nat} {xs : List Cell} {ks : List CK} {t e b : Tree} {env r cs : List C} {F : List C -> Option (List C)} {X : Option (List C)} {a : At} {p : Prim} {v : C}
theorem sc (hΦ : Φ f = F) (h : F cs = some r) (ha : dens env xs = cs) (hk : kindsB ks r = true) (g : retOf (den Φ t (env ++ r)) = X) : retOf (den Φ (.call f xs ks t) env) = X := by
  rw [den_call, hΦ, ha, h, callD_ok hk]; exact g
theorem st (h : (a.den env).toBool = true) (g : retOf (den Φ t env) = X) : retOf (den Φ (.ite a t e) env) = X := by rw [den_ite, h]; exact g
theorem sf (h : (a.den env).toBool = false) (g : retOf (den Φ e env) = X) : retOf (den Φ (.ite a t e) env) = X := by rw [den_ite, h]; exact g
theorem sl (h : p.den (dens env xs) = v) (g : retOf (den Φ t (env ++ [v])) = X) : retOf (den Φ (.letp p xs t) env) = X := by rw [den_letp, h]; exact g
theorem sk (h : (p.den (dens env xs)).toBool = true) (g : retOf (den Φ t env) = X) : retOf (den Φ (.chk p xs t) env) = X := by rw [den_chk, h]; exact g
theorem sret (h : dens env xs = cs) : retOf (den Φ (.ret xs) env) = some cs := by rw [den_ret, h]; rfl
end

def doEnv (code : List Int) (w : Wd) (e : Ev) (x : Wd) : List C :=
  [.list (code.map eB), .int .i64 ((code.map eB).length : Nat), .bool false,
   .bool w.dk.up, .list (w.dk.lg.rs.map Rec.e), .int .i64 w.dk.lg.f, .list (w.dk.td.map Word.e), .list (w.hs.map House.e), .list (w.ns.map Word.e),
   .int .i64 e.k, .int .i64 e.a, .int .i64 e.b, .list (e.m.map eI),
   .bool x.dk.up, .list (x.dk.lg.rs.map Rec.e), .int .i64 x.dk.lg.f, .list (x.dk.td.map Word.e), .list (x.hs.map House.e), .list (x.ns.map Word.e),
   .bool x.dk.up, .list (x.dk.lg.rs.map Rec.e), .int .i64 x.dk.lg.f, .list (x.dk.td.map Word.e), .list (x.hs.map House.e), .list (x.ns.map Word.e), .bool true, .bool false, .bool true, .bool false]
def doEnv2 (code more : List Int) (w : Wd) (e : Ev) (x : Wd) : List C :=
  [.list (code.map eB), .list (more.map eB), .int .i64 ((code.map eB).length : Nat), .bool false, .int .i64 ((more.map eB).length : Nat), .bool false,
   .bool w.dk.up, .list (w.dk.lg.rs.map Rec.e), .int .i64 w.dk.lg.f, .list (w.dk.td.map Word.e), .list (w.hs.map House.e), .list (w.ns.map Word.e),
   .int .i64 e.k, .int .i64 e.a, .int .i64 e.b, .list (e.m.map eI),
   .bool x.dk.up, .list (x.dk.lg.rs.map Rec.e), .int .i64 x.dk.lg.f, .list (x.dk.td.map Word.e), .list (x.hs.map House.e), .list (x.ns.map Word.e),
   .bool x.dk.up, .list (x.dk.lg.rs.map Rec.e), .int .i64 x.dk.lg.f, .list (x.dk.td.map Word.e), .list (x.hs.map House.e), .list (x.ns.map Word.e), .bool true, .bool false, .bool true, .bool false]
section
variable {Φ : Phi} {t : Tree} {code more : List Int}
theorem doHead_den (h0 : Φ 0 = φ_bc) (h1 : Φ 1 = φ_dq) (h2 : Φ 2 = φ_dn) (h3 : Φ 3 = φ_dk) (h4 : Φ 4 = φ_dj)
    (hl : code.length <= 1099511627776) (hc : Bytes code)
    (ht : ∀ (w : Wd) (e : Ev) (x : Wd), WOk w -> EvS e -> x = wdo w e -> retOf (den Φ t (doEnv code w e x)) = some [.bool true]) :
    retOf (den Φ (doHead t) [.list (code.map eB)]) = some [.bool true] := by
  obtain ⟨w, e, hw, he, hd, hok, x, hx, x0, x1, p1, p2, hn⟩ := drawDo hl hc
  simp only [Wd.e, List.cons_append, List.nil_append] at p1 p2 hn
  unfold doHead
  refine sl rfl ?_
  by_cases hbig : (((code.map eB).length : Nat) : Int) > 1048576
  · exact sl (congrArg C.bool (decide_eq_true hbig)) (st rfl (sret rfl))
  refine sl (congrArg C.bool (decide_eq_false hbig)) (sf rfl (sc h0 hd rfl rfl (sc h1 p1 rfl rfl (sc h2 p2 rfl rfl (sc h3 hn rfl rfl (sl rfl (sf rfl ?_)))))))
  cases hwo : worldOk w with
  | false =>
    rw [hwo] at hok
    exact sc h4 hok rfl rfl (sl rfl (st rfl (sc h2 p2 rfl rfl (sc h3 hn rfl rfl (sret rfl)))))
  | true =>
    rw [hwo] at hok
    exact sc h4 hok rfl rfl (sl rfl (sf rfl (ht w e x (worldOk_iff.1 hwo) he (x1 hwo))))
set_option maxHeartbeats 2000000 in
theorem doHead2_den (h0 : Φ 0 = φ_bc) (h1 : Φ 1 = φ_dq) (h2 : Φ 2 = φ_dn) (h3 : Φ 3 = φ_dk) (h4 : Φ 4 = φ_dj)
    (hl : code.length <= 1099511627776) (hc : Bytes code)
    (ht : ∀ (w : Wd) (e : Ev) (x : Wd), more.length <= 1048576 -> WOk w -> EvS e -> x = wdo w e -> retOf (den Φ t (doEnv2 code more w e x)) = some [.bool true]) :
    retOf (den Φ (doHead2 t) [.list (code.map eB), .list (more.map eB)]) = some [.bool true] := by
  obtain ⟨w, e, hw, he, hd, hok, x, hx, x0, x1, p1, p2, hn⟩ := drawDo hl hc
  simp only [Wd.e, List.cons_append, List.nil_append] at p1 p2 hn
  unfold doHead2
  refine sl rfl ?_
  by_cases hbig : (((code.map eB).length : Nat) : Int) > 1048576
  · exact sl (congrArg C.bool (decide_eq_true hbig)) (st rfl (sret rfl))
  refine sl (congrArg C.bool (decide_eq_false hbig)) (sf rfl (sl rfl ?_))
  by_cases hbig2 : (((more.map eB).length : Nat) : Int) > 1048576
  · exact sl (congrArg C.bool (decide_eq_true hbig2)) (st rfl (sret rfl))
  refine sl (congrArg C.bool (decide_eq_false hbig2)) (sf rfl (sc h0 hd rfl rfl (sc h1 p1 rfl rfl (sc h2 p2 rfl rfl (sc h3 hn rfl rfl (sl rfl (sf rfl ?_)))))))
  rw [List.length_map] at hbig2
  cases hwo : worldOk w with
  | false =>
    rw [hwo] at hok
    exact sc h4 hok rfl rfl (sl rfl (st rfl (sc h2 p2 rfl rfl (sc h3 hn rfl rfl (sret rfl)))))
  | true =>
    rw [hwo] at hok
    exact sc h4 hok rfl rfl (sl rfl (sf rfl (ht w e x (by omega) (worldOk_iff.1 hwo) he (x1 hwo))))
end
end Dx

