import Derived.Test.YtcgenclbnnigeaaGreatZa
set_option linter.all false
set_option linter.unusedVariables false
set_option linter.unusedSimpArgs false
set_option linter.unnecessarySimpa false
/- The rules' checks, copies, and calms. -/
namespace Dx
open Go

structure WS (w : Wd) : Prop where
  dk : DkS w.dk
  hs : ∀ x ∈ w.hs, LgS x.lg
  hl : w.hs.length <= 1000
  nl : w.ns.length <= 1000
theorem WOk.ws {w : Wd} (h : WOk w) : WS w := ⟨h.dk.S, fun x hx => by
  obtain ⟨i, hi⟩ := List.getElem?_of_mem hx
  exact (h.hs i x hi).1.lg.S, by have := h.len; omega, by have := h.nlen; omega⟩

section
variable {up b : Bool} {rs : List Rec} {f : Int} {td : List Word} {k h t m : Int} {id room : Int} {hs : List House} {ns : List Word} {w : Wd}

theorem m_LogOk (hl : LgS ⟨rs, f⟩) : φ_ff [.list (rs.map Rec.e), .int .i64 f] = some [.bool (logOk ⟨rs, f⟩)] := by
  rw [q_ff]
  have h1 := hl.1
  simp only at h1
  unfold F_ff
  refine Eq.trans (congrArg retOf (iter_list0 (l := rs) (enc := fun i (_ : Unit) => [.int .i64 i]) (res := fun xs _ _ => .ret [.bool (xs.all recOk && (decide (rs.length <= 40) && in_ f 0 rs.length))]) (fun _ _ => True) (s := ()) trivial ?_ ?_)) rfl
  · intro i x xs _ hx _
    have hi := (List.getElem?_eq_some_iff.1 hx).1
    have hi' : (i : Int) < (rs.length : Nat) := by omega
    have hm : x.m.length <= 1099511627776 := hl.2 x (List.mem_of_getElem? hx)
    simp only [getC, C.toInt_int]
    unfold L_ff_0
    simp (disch := first | assumption | omega | (simp only [zL]; omega)) only [row_R hx, Rec.e, hi', if_true, m_RecOk hm, wrap_nat, Int.reduceEq, reduceIte, zU, zT, getC]
    cases hr : recOk x with
    | true => exact .inl ⟨(), rfl, trivial, by simp [hr]⟩
    | false => exact .inr ⟨_, rfl, by simp [hr]⟩
  · intro _ _
    have h : ¬ ((rs.length : Int) < (rs.length : Nat)) := by omega
    simp only [getC, C.toInt_int]
    unfold L_ff_0
    by_cases h40 : ((rs.length : Nat) : Int) <= 40
    · have h40' : rs.length <= 40 := by omega
      simp (disch := first | assumption | omega | (simp only [zL]; omega)) only [h, if_false, h40, h40', if_true, m_l6In, decide_true, Bool.true_and, List.all_nil, Int.reduceEq, reduceIte, zU, zT, getC]
    · have h40' : ¬ (rs.length <= 40) := by omega
      simp (disch := first | assumption | omega | (simp only [zL]; omega)) only [h, if_false, h40, h40', decide_false, Bool.false_and, Bool.and_false, Int.reduceEq, reduceIte, zU, zT, getC]

theorem m_DeskOk (hs : DkS ⟨up, ⟨rs, f⟩, td⟩) : φ_et [.bool up, .list (rs.map Rec.e), .int .i64 f, .list (td.map Word.e)] = some [.bool (deskOk ⟨up, ⟨rs, f⟩, td⟩)] := by
  rw [q_et]
  have hS : LgS ⟨rs, f⟩ := hs.lg
  have htd : td.length <= 1000000 := by have := hs.td; simp only at this; omega
  have h12 := m_l12Of (rs := rs) hS.1 hS.2
  unfold deskOk
  simp only
  simp (disch := first | assumption | omega | (simp only [zL]; omega)) only [F_et, h12, m_LogOk hS, Int.reduceEq, reduceIte, zU, zT, getC]
  cases hlo : logOk ⟨rs, f⟩ with
  | false => simp only [iteD_ff, Bool.false_and, retOf_ret]
  | true =>
    simp only [iteD_tt, Bool.true_and]
    cases htr : tripsOf rs with
    | none => simp only [Option.isSome_none, iteD_ff, retOf_ret]
    | some l =>
      simp only [Option.isSome_some, iteD_tt, Option.getD_some]
      have hl6 : l.length <= 6 := (tripsOf_ok htr).len
      refine Eq.trans (congrArg retOf (iter_list0 (l := td) (enc := fun i (_ : Unit) => [.int .i64 i]) (res := fun xs i _ => .ret [.bool (toldOk l.length (td.take i) xs && (up || td.isEmpty))]) (fun _ _ => True) (s := ()) trivial ?_ ?_)) rfl
      · intro i x xs _ hx _
        have hi := (List.getElem?_eq_some_iff.1 hx).1
        have hi' : (i : Int) < (td.length : Nat) := by omega
        have hil : (i : Int) <= (td.length : Nat) := by omega
        have hi0 : (0 : Int) <= (i : Int) := by omega
        have htk : (td.map Word.e).take ((i : Int).toNat) = (td.take i).map Word.e := by rw [Int.toNat_natCast, List.map_take]
        have htn : td.take (i + 1) = td.take i ++ [x] := by rw [List.take_add_one, hx]; rfl
        have hl1 : (td.take i).length <= 1099511627775 := by rw [List.length_take]; omega
        simp only [getC, C.toInt_int]
        unfold L_et_0
        simp (disch := first | assumption | omega | (simp only [zL]; omega)) only [row_W hx, Word.e, hi', if_true, m_WordOk, hi0, hil, decide_true, Bool.and_self, htk, m_l13Told hl1, wrap_nat, Int.reduceEq, reduceIte, zU, zT, getC]
        cases hw : wordOk x with
        | false =>
          refine .inr ⟨_, rfl, ?_⟩
          simp [toldOk, hw]
        | true =>
          simp only [iteD_tt]
          by_cases h4 : x.k < 4
          · refine .inr ⟨_, by simp only [h4, if_true]; rfl, ?_⟩
            have : ¬ (4 <= x.k) := by omega
            simp [toldOk, this]
          · simp only [h4, if_false]
            by_cases htt : x.t > (l.length : Nat)
            · refine .inr ⟨_, by simp only [htt, if_true]; rfl, ?_⟩
              have : ¬ (x.t <= (l.length : Nat)) := by omega
              simp [toldOk, this]
            · simp only [htt, if_false]
              cases hc : (td.take i).contains x with
              | true =>
                refine .inr ⟨_, rfl, ?_⟩
                simp only [toldOk, hc, Bool.not_true, Bool.and_false, Bool.false_and]
              | false =>
                refine .inl ⟨(), rfl, trivial, ?_⟩
                have g4 : x.k >= 4 := by omega
                have gt : x.t <= (l.length : Nat) := by omega
                simp only [toldOk, hw, hc, g4, gt, decide_true, Bool.and_true, Bool.not_false, Bool.true_and, htn]
      · intro _ _
        have h : ¬ ((td.length : Int) < (td.length : Nat)) := by omega
        simp only [getC, C.toInt_int]
        unfold L_et_0
        have he : (((td.length : Nat) : Int) == 0) = td.isEmpty := by cases td <;> simp; omega
        simp (disch := first | assumption | omega | (simp only [zL]; omega)) only [h, if_false, he, toldOk, Bool.true_and, Int.reduceEq, reduceIte, zU, zT, getC]
        cases up <;> rfl

theorem m_HouseOk (hl : LgS ⟨rs, f⟩) : φ_dq [.int .i64 id, .bool up, .int .i64 room, .list (rs.map Rec.e), .int .i64 f] = some [.bool (houseOk ⟨id, up, room, ⟨rs, f⟩⟩)] := by
  rw [q_dq]
  have h2 := m_l2Of (room := room) (rs := rs) hl.1 hl.2
  simp only [Stock.e, List.cons_append, List.nil_append] at h2
  unfold houseOk
  simp (disch := first | assumption | omega | (simp only [zL]; omega)) only [F_dq, h2, m_l6In, m_LogOk hl, Int.reduceEq, reduceIte, zU, zT, getC]
  cases in_ id 1 3 with
  | false => rfl
  | true => cases logOk ⟨rs, f⟩ <;> rfl

theorem m_wordsOk (hL : ns.length <= 1000) : iterD (fun ps => L_dd_0 (ns.map Word.e) ((getC ps 0).toInt)) [.int .i64 0] = some (.ret [.bool (ns.all wordOk)]) := by
  refine iter_list0 (l := ns) (enc := fun i (_ : Unit) => [.int .i64 i]) (res := fun xs _ _ => .ret [.bool (xs.all wordOk)]) (fun _ _ => True) (s := ()) trivial ?_ ?_
  · intro i x xs _ hx _
    have hi := (List.getElem?_eq_some_iff.1 hx).1
    have hi' : (i : Int) < (ns.length : Nat) := by omega
    simp only [getC, C.toInt_int]
    unfold L_dd_0
    simp (disch := first | assumption | omega | (simp only [zL]; omega)) only [row_W hx, Word.e, hi', if_true, m_WordOk, wrap_nat, Int.reduceEq, reduceIte, zU, zT, getC]
    cases hr : wordOk x with
    | true => exact .inl ⟨(), rfl, trivial, by simp [hr]⟩
    | false => exact .inr ⟨_, rfl, by simp [hr]⟩
  · intro _ _
    have h : ¬ ((ns.length : Int) < (ns.length : Nat)) := by omega
    simp only [getC, C.toInt_int]
    unfold L_dd_0
    simp (disch := first | assumption | omega | (simp only [zL]; omega)) only [h, if_false, Int.reduceEq, reduceIte, zU, zT, getC]
    rfl

theorem m_WorldOk (hw : WS w) : φ_dd [.bool w.dk.up, .list (w.dk.lg.rs.map Rec.e), .int .i64 w.dk.lg.f, .list (w.dk.td.map Word.e), .list (w.hs.map House.e), .list (w.ns.map Word.e)] = some [.bool (worldOk w)] := by
  rw [q_dd]
  obtain ⟨⟨up, ⟨rs, f⟩, td⟩, hs, ns⟩ := w
  have hd : DkS ⟨up, ⟨rs, f⟩, td⟩ := hw.dk
  have hhs := hw.hs
  have hhl := hw.hl
  have hnl := hw.nl
  simp only at hhs hhl hnl
  unfold worldOk
  simp only
  simp (disch := first | assumption | omega | (simp only [zL]; omega)) only [F_dd, m_DeskOk hd, Int.reduceEq, reduceIte, zU, zT, getC]
  cases deskOk ⟨up, ⟨rs, f⟩, td⟩ with
  | false => rfl
  | true =>
    simp only [iteD_tt, Bool.true_and]
    by_cases h3 : ((hs.length : Nat) : Int) = 3
    · have h3' : hs.length = 3 := by omega
      have h3b : (hs.length == 3) = true := by simp [h3']
      simp only [h3, if_true, h3b, Bool.true_and]
      by_cases h14 : ((ns.length : Nat) : Int) > 14
      · have h14' : ¬ (ns.length <= 14) := by omega
        simp [h14, h14']
      · have h14' : ns.length <= 14 := by omega
        simp only [h14, h14', if_false, decide_true, Bool.true_and]
        refine Eq.trans (congrArg retOf (iter_list0 (l := hs) (enc := fun i (_ : Unit) => [.int .i64 i]) (res := fun xs i _ => .ret [.bool (xs.all houseOk && ((xs.zipIdx (i + 1)).all (fun p => p.1.id == (p.2 : Int)) && ns.all wordOk))]) (fun _ _ => True) (s := ()) trivial ?_ ?_)) rfl
        · intro i x xs _ hx _
          have hi := (List.getElem?_eq_some_iff.1 hx).1
          have hi' : (i : Int) < ((3 : Nat) : Int) := by omega
          have hxl : LgS ⟨x.lg.rs, x.lg.f⟩ := hhs x (List.mem_of_getElem? hx)
          simp only [getC, C.toInt_int]
          unfold L_dd_1
          simp (disch := first | assumption | omega | (simp only [zL]; omega)) only [row_Hs hx, House.e, h3', h3, hi', if_true, m_HouseOk hxl, wrap_nat, Int.reduceEq, reduceIte, zU, zT, getC]
          cases hr : houseOk x with
          | false => exact .inr ⟨_, rfl, by simp [hr]⟩
          | true =>
            simp only [iteD_tt]
            by_cases hid : x.id = ((i + 1 : Nat) : Int)
            · refine .inl ⟨(), by simp only [hid, if_true], trivial, ?_⟩
              have : (x.id == ((i + 1 : Nat) : Int)) = true := by simpa using hid
              simp only [List.all_cons, hr, Bool.true_and, List.zipIdx_cons, this]
            · refine .inr ⟨_, by simp only [hid, if_false]; rfl, ?_⟩
              have : (x.id == ((i + 1 : Nat) : Int)) = false := by simpa using hid
              simp only [List.all_cons, hr, Bool.true_and, List.zipIdx_cons, this, Bool.false_and, Bool.and_false]
        · intro _ _
          have h : ¬ ((hs.length : Int) < (hs.length : Nat)) := by omega
          simp only [getC, C.toInt_int]
          unfold L_dd_1
          simp (disch := first | assumption | omega | (simp only [zL]; omega)) only [h, if_false, m_wordsOk hnl, Int.reduceEq, reduceIte, zU, zT, getC]
          simp
    · have h3b : (hs.length == 3) = false := by simp; omega
      simp only [h3, if_false, iteD_ff, iteD_tt, h3b, Bool.false_and, retOf_ret]
end
end Dx


/- Worlds that may not be ok: what is done with them. -/
namespace Dx
open Go

section
variable {up b : Bool} {rs : List Rec} {f : Int} {td : List Word} {k h t m : Int} {id room : Int} {hs : List House} {ns : List Word} {w : Wd}

theorem i_WorldOkS (hw : WS w) : φ_cy [.bool w.dk.up, .list (w.dk.lg.rs.map Rec.e), .int .i64 w.dk.lg.f, .list (w.dk.td.map Word.e), .list (w.hs.map House.e), .list (w.ns.map Word.e)] = some [.bool (worldOk w)] := by
  rw [q_cy]
  obtain ⟨⟨up, ⟨rs, f⟩, td⟩, hs, ns⟩ := w
  have hd : DkS ⟨up, ⟨rs, f⟩, td⟩ := hw.dk
  have hhs := hw.hs
  have hhl := hw.hl
  have hnl := hw.nl
  simp only at hhs hhl hnl
  unfold worldOk
  simp only
  simp (disch := first | assumption | omega | (simp only [zL]; omega)) only [F_cy, i_DeskOk hd, Int.reduceEq, reduceIte, zU, zT, getC]
  cases deskOk ⟨up, ⟨rs, f⟩, td⟩ with
  | false => rfl
  | true =>
    simp only [iteD_tt, Bool.true_and]
    by_cases h3 : ((hs.length : Nat) : Int) = 3
    · have h3' : hs.length = 3 := by omega
      have h3b : (hs.length == 3) = true := by simp [h3']
      simp only [h3, if_true, h3b, Bool.true_and]
      by_cases h14 : ((ns.length : Nat) : Int) > 14
      · have h14' : ¬ (ns.length <= 14) := by omega
        simp [h14, h14']
      · have h14' : ns.length <= 14 := by omega
        simp only [h14, h14', if_false, decide_true, Bool.true_and]
        have key := iter_list0 (l := hs) (F := fun ps => L_cy_0 (hs.map House.e) (ns.map Word.e) 3 ((getC ps 0).toInt)) (enc := fun i (_ : Unit) => [.int .i64 i]) (res := fun xs i _ => .ret [.bool (xs.all houseOk && ((xs.zipIdx (i + 1)).all (fun p => p.1.id == (p.2 : Int)) && ns.all wordOk))]) (fun _ _ => True) (s := ()) trivial ?_ ?_
        · refine Eq.trans (congrArg retOf key) rfl
        · intro i x xs _ hx _
          have hi := (List.getElem?_eq_some_iff.1 hx).1
          have hi' : (i : Int) < 3 := by omega
          have hxl : LgS ⟨x.lg.rs, x.lg.f⟩ := hhs x (List.mem_of_getElem? hx)
          simp only [getC, C.toInt_int]
          unfold L_cy_0
          simp (disch := first | assumption | omega | (simp only [zL]; omega)) only [row_Hs hx, House.e, hi', if_true, i_HouseOk hxl, wrap_nat, Int.reduceEq, reduceIte, zU, zT, getC]
          cases hr : houseOk x with
          | false => exact .inr ⟨_, rfl, by simp [hr]⟩
          | true =>
            simp only [iteD_tt]
            by_cases hid : x.id = ((i + 1 : Nat) : Int)
            · refine .inl ⟨(), by simp only [hid, if_true], trivial, ?_⟩
              have : (x.id == ((i + 1 : Nat) : Int)) = true := by simpa using hid
              simp only [List.all_cons, hr, Bool.true_and, List.zipIdx_cons, this]
            · refine .inr ⟨_, by simp only [hid, if_false]; rfl, ?_⟩
              have : (x.id == ((i + 1 : Nat) : Int)) = false := by simpa using hid
              simp only [List.all_cons, hr, Bool.true_and, List.zipIdx_cons, this, Bool.false_and, Bool.and_false]
        · intro _ _
          have h : ¬ ((3 : Int) < 3) := by omega
          have hall : (!(ns.any fun x => !wordOk x)) = ns.all wordOk := by simp [List.all_eq_not_any_not]
          simp only [getC, C.toInt_int]
          unfold L_cy_0
          simp (disch := first | assumption | omega | (simp only [zL]; omega)) only [h3, h, if_false, i_wordsOk, Int.reduceEq, reduceIte, zU, zT, getC]
          rw [<- hall]; simp
    · have h3b : (hs.length == 3) = false := by simp; omega
      simp only [h3, if_false, iteD_ff, iteD_tt, h3b, Bool.false_and, retOf_ret]

theorem i_WorldCalmS (hw : WS w) {r : Int} :
    φ_bz [.bool w.dk.up, .list (w.dk.lg.rs.map Rec.e), .int .i64 w.dk.lg.f, .list (w.dk.td.map Word.e), .list (w.hs.map House.e), .list (w.ns.map Word.e), .int .i64 r] = some (if worldOk w && in_ r 0 9 then wcalm w r.toNat else wd0).e := by
  cases hok : worldOk w with
  | true =>
    cases hr : in_ r 0 9 with
    | true => exact i_WorldCalm (worldOk_iff.1 hok) (in_iff.1 hr)
    | false =>
      rw [q_bz]
      unfold F_bz
      rw [i_WorldOkS hw, hok]
      simp only [cd_b, getC, C.toBool_bool, Bool.not_true, iteD_ff, i_in, hr]
      rfl
  | false =>
    rw [q_bz]
    unfold F_bz
    rw [i_WorldOkS hw, hok]
    rfl

theorem m_l1RecCopy {ms : List Int} (hm : ms.length <= 1099511627776) : φ_cf [.int .i64 k, .int .i64 t, .list (ms.map eI)] = some [.int .i64 k, .int .i64 t, .list (ms.map eI)] := by
  rw [q_cf]
  simp (disch := first | assumption | omega | (simp only [zL]; omega)) only [F_cf, Int.reduceEq, reduceIte, zU, zT, getC]
theorem m_l1Copy (hl : LgS ⟨rs, f⟩) : φ_ej [.list (rs.map Rec.e), .int .i64 f] = some [.list (rs.map Rec.e), .int .i64 f] := by
  rw [q_ej]
  have h1 := hl.1
  simp only at h1
  unfold F_ej
  refine Eq.trans (congrArg retOf (iter_list0 (l := rs) (enc := fun i (s : List Rec) => [.int .i64 i, .list (s.map Rec.e)]) (res := fun xs _ s => .ret [.list ((s ++ xs).map Rec.e), .int .i64 f]) (fun i s => s.length = i) (s := []) rfl ?_ ?_)) rfl
  · intro i x xs s hx hs
    have hi := (List.getElem?_eq_some_iff.1 hx).1
    have hi' : (i : Int) < (rs.length : Nat) := by omega
    have hm : x.m.length <= 1099511627776 := hl.2 x (List.mem_of_getElem? hx)
    have hc : s.length + 1 <= 1099511627776 := by omega
    simp only [getC, C.toInt_int, C.toList_list]
    unfold L_ej_0
    simp (disch := first | assumption | omega | (simp only [zL]; omega)) only [row_R hx, Rec.e, hi', if_true, m_l1RecCopy hm, hc, wrap_nat, Int.reduceEq, reduceIte, zU, zT, getC]
    refine .inl ⟨s ++ [x], ?_, by simp [hs], by simp⟩
    simp [Rec.e]
  · intro s _
    have h : ¬ ((rs.length : Int) < (rs.length : Nat)) := by omega
    simp only [getC, C.toInt_int, C.toList_list]
    unfold L_ej_0
    simp (disch := first | assumption | omega | (simp only [zL]; omega)) only [h, if_false, Int.reduceEq, reduceIte, zU, zT, getC]
    simp
theorem m_l11Copy (hl : LgS ⟨rs, f⟩) : φ_da [.int .i64 id, .bool up, .int .i64 room, .list (rs.map Rec.e), .int .i64 f] = some [.int .i64 id, .bool up, .int .i64 room, .list (rs.map Rec.e), .int .i64 f] := by
  rw [q_da]
  simp (disch := first | assumption | omega | (simp only [zL]; omega)) only [F_da, m_l1Copy hl, Int.reduceEq, reduceIte, zU, zT, getC]
theorem m_l13Copy (hd : DkS ⟨up, ⟨rs, f⟩, td⟩) : φ_dh [.bool up, .list (rs.map Rec.e), .int .i64 f, .list (td.map Word.e)] = some [.bool up, .list (rs.map Rec.e), .int .i64 f, .list (td.map Word.e)] := by
  rw [q_dh]
  have htd : td.length <= 1099511627776 := by have := hd.td; simp only at this; omega
  have hl : LgS ⟨rs, f⟩ := hd.lg
  simp (disch := first | assumption | omega | (simp only [zL]; omega)) only [F_dh, m_l1Copy hl, htd, Int.reduceEq, reduceIte, zU, zT, getC]
theorem m_l21Copy (hw : WS w) : φ_ea [.bool w.dk.up, .list (w.dk.lg.rs.map Rec.e), .int .i64 w.dk.lg.f, .list (w.dk.td.map Word.e), .list (w.hs.map House.e), .list (w.ns.map Word.e)] = some w.e := by
  rw [q_ea]
  have hd : DkS ⟨w.dk.up, ⟨w.dk.lg.rs, w.dk.lg.f⟩, w.dk.td⟩ := hw.dk
  have hnl := hw.nl
  have hhl := hw.hl
  simp (disch := first | assumption | omega | (simp only [zL]; omega)) only [F_ea, m_l13Copy hd, J_ea_1, Int.reduceEq, reduceIte, zU, zT, getC]
  have key := iter_list0 (l := w.hs) (F := fun ps => L_ea_0 (w.hs.map House.e) w.dk.up w.dk.lg.f (w.dk.lg.rs.map Rec.e) (w.dk.td.map Word.e) (w.ns.map Word.e) ((getC ps 0).toInt) ((getC ps 1).toList)) (enc := fun i (s : List House) => [.int .i64 i, .list (s.map House.e)])
    (res := fun xs _ s => .ret [.bool w.dk.up, .list (w.dk.lg.rs.map Rec.e), .int .i64 w.dk.lg.f, .list (w.dk.td.map Word.e), .list ((s ++ xs).map House.e), .list (w.ns.map Word.e)]) (fun i s => s.length = i) (s := []) rfl ?_ ?_
  · have key : iterD _ [C.int .i64 0, C.list []] = _ := key
    rw [key]; rfl
  · intro i x xs s hx hs
    have hi := (List.getElem?_eq_some_iff.1 hx).1
    have hi' : (i : Int) < (w.hs.length : Nat) := by omega
    have hxl : LgS ⟨x.lg.rs, x.lg.f⟩ := hw.hs x (List.mem_of_getElem? hx)
    have hc : s.length + 1 <= 1099511627776 := by omega
    simp (disch := first | assumption | omega | (simp only [zL]; omega)) only [L_ea_0, row_Hs hx, House.e, m_l11Copy hxl, wrap_nat, hi', hc, if_true, Int.reduceEq, reduceIte, zU, zT, getC]
    exact .inl ⟨s ++ [x], by simp [House.e], by simp [hs], by simp⟩
  · intro s hs
    have h : ¬ ((w.hs.length : Int) < (w.hs.length : Nat)) := by omega
    simp (disch := first | assumption | omega | (simp only [zL]; omega)) only [L_ea_0, h, if_false, Int.reduceEq, reduceIte, zU, zT, getC]
    simp

end
end Dx


/- The rules' calms; worlds that are drawn. -/
namespace Dx
open Go

section
variable {w : Wd}
theorem m_l21Calm (ho : WOk w) :
    φ_cx [.bool w.dk.up, .list (w.dk.lg.rs.map Rec.e), .int .i64 w.dk.lg.f, .list (w.dk.td.map Word.e), .list (w.hs.map House.e), .list (w.ns.map Word.e)] = some (wround w).e := by
  rw [q_cx]
  unfold F_cx
  -- the last loop
  have L0 : ∀ w : Wd, WOk w -> iterD (fun ps => L_cx_0 ((getC ps 0).toInt) ((getC ps 1).toBool) ((getC ps 2).toInt) ((getC ps 3).toList) ((getC ps 4).toList) ((getC ps 5).toList) ((getC ps 6).toList))
      [.int .i64 0, .bool w.dk.up, .int .i64 w.dk.lg.f, .list (w.dk.lg.rs.map Rec.e), .list (w.dk.td.map Word.e), .list (w.hs.map House.e), .list (w.ns.map Word.e)] = some (.ret (wforces w).e) := by
    intro w ow
    rw [<- forces_eq ow]
    refine iter_list0 (l := ([0, 1, 2, 3] : List Int)) (enc := fun i (w : Wd) => [.int .i64 i, .bool w.dk.up, .int .i64 w.dk.lg.f, .list (w.dk.lg.rs.map Rec.e), .list (w.dk.td.map Word.e), .list (w.hs.map House.e), .list (w.ns.map Word.e)]) (res := fun xs _ w => .ret (xs.foldl wforce w).e) (fun _ w => WOk w) (s := w) ow ?_ ?_
    · intro i x xs w hx ow
      have hi : (i : Int) <= 3 /\ x = (i : Int) := by
        have := (List.getElem?_eq_some_iff.1 hx).1
        simp at this
        have h4 : i = 0 \/ i = 1 \/ i = 2 \/ i = 3 := by omega
        rcases h4 with e | e | e | e <;> subst e <;> simp at hx <;> subst hx <;> simp
      obtain ⟨hi, rfl⟩ := hi
      have he := m_l21Force (up := w.dk.up) (rs := w.dk.lg.rs) (f := w.dk.lg.f) (td := w.dk.td) (hs := w.hs) (ns := w.ns) ow.len (fun x hx => by have := (ow.ws.hs x hx).1; exact this) (i := (i : Int)) ⟨by omega, hi⟩
      refine .inl ⟨wforce w i, ?_, ow.forceEv _, rfl⟩
      simp only [getC, C.toInt_int, C.toBool_bool, C.toList_list]
      unfold L_cx_0
      simp only [iteD_dec, hi, if_true, he]
      simp only [eta_L, eta_D, eta_Wd]
      simp only [Wd.e, cd_blilll, getC, C.toInt_int, C.toList_list, C.toBool_bool]
      rw [wrap_nat (by omega)]
    · intro w ow
      have h : ¬ (((4 : Nat) : Int) <= 3) := by omega
      simp only [List.length_cons, List.length_nil, Wd.e, getC, C.toInt_int, C.toBool_bool, C.toList_list]
      unfold L_cx_0
      simp only [iteD_dec, h, if_false]
      rfl
  -- the words
  have L1 : ∀ (l : List Word) (w : Wd), l.length <= 1000 -> WOk w -> (∀ x ∈ l, WdOk x) -> iterD (fun ps => L_cx_1 (l.map Word.e) ((getC ps 0).toInt) ((getC ps 1).toBool) ((getC ps 2).toInt) ((getC ps 3).toList) ((getC ps 4).toList) ((getC ps 5).toList) ((getC ps 6).toList))
      [.int .i64 0, .bool w.dk.up, .int .i64 w.dk.lg.f, .list (w.dk.lg.rs.map Rec.e), .list (w.dk.td.map Word.e), .list (w.hs.map House.e), .list (w.ns.map Word.e)] = some (.ret (wforces (whears w l)).e) := by
    intro l w hl ow hw
    refine iter_list0 (l := l) (enc := fun i (w : Wd) => [.int .i64 i, .bool w.dk.up, .int .i64 w.dk.lg.f, .list (w.dk.lg.rs.map Rec.e), .list (w.dk.td.map Word.e), .list (w.hs.map House.e), .list (w.ns.map Word.e)]) (res := fun xs _ w => .ret (wforces (whears w xs)).e) (fun _ w => WOk w) (s := w) ow ?_ ?_
    · intro i x xs w hx ow
      have hi := (List.getElem?_eq_some_iff.1 hx).1
      have hi' : (i : Int) < (l.length : Nat) := by omega
      have hxo := hw x (List.mem_of_getElem? hx)
      have htd : ∀ {v : Wd}, WOk v -> v.dk.td.length <= 1099511627774 := fun h => by have := h.dk.tdlen; omega
      have hhe := m_l21Hear (up := w.dk.up) (rs := w.dk.lg.rs) (f := w.dk.lg.f) (td := w.dk.td) (hs := w.hs) (ns := w.ns) (k := x.k) (h := x.h) (t := x.t) (m := x.m) ow (htd ow) hxo
      have o2 := ow.hear hxo
      refine .inl ⟨whear2 w x, ?_, ow.hear2 hxo, rfl⟩
      simp only [getC, C.toInt_int, C.toBool_bool, C.toList_list]
      unfold L_cx_1
      have hd : (decide ((0 : Int) <= (i : Int)) && decide ((i : Int) < (((l.map Word.e).length : Nat) : Int))) = true := by simp; omega
      rw [row_Wi (by omega) (by simpa using hx)]
      simp only [List.length_map] at hd
      simp only [List.length_map, iteD_dec, hi', if_true, hd, whenD_tt, Word.e, getC, C.toInt_int, hhe]
      simp only [eta_L, eta_D, eta_Wd, eta_W]
      unfold whear2
      generalize whear w x = q at o2 ⊢
      obtain ⟨q1, q2⟩ := q
      rw [wrap_nat (by omega)]
      cases q2 with
      | none =>
        simp only [oW, Word.e, Wd.e, List.cons_append, List.nil_append, Option.isSome_none]
        rw [callD_ok rfl]
        rfl
      | some y =>
        have hq : WOk q1 := o2.1
        have hyo := (o2.2 y rfl).1
        have h4 := (o2.2 y rfl).2
        have hy := m_l21Hear (up := q1.dk.up) (rs := q1.dk.lg.rs) (f := q1.dk.lg.f) (td := q1.dk.td) (hs := q1.hs) (ns := q1.ns) (k := y.k) (h := y.h) (t := y.t) (m := y.m) hq (htd hq) hyo
        simp only [oW, Word.e, Wd.e, List.cons_append, List.nil_append, Option.isSome_some, Option.getD_some]
        rw [callD_ok rfl]
        simp only [getC, C.toBool_bool, C.toList_list, C.toInt_int, iteD_tt, hy]
        simp only [eta_L, eta_D, eta_W, eta_Wd]
        generalize whear q1 y = r
        obtain ⟨r1, r2⟩ := r
        simp only [Word.e, Wd.e, List.cons_append, List.nil_append]
        rw [callD_ok rfl]
        rfl
    · intro w ow
      have h : ¬ ((l.length : Int) < (l.length : Nat)) := by omega
      simp only [getC, C.toInt_int, C.toBool_bool, C.toList_list]
      unfold L_cx_1
      simp only [List.length_map, iteD_dec, h, if_false]
      exact congrArg upD (L0 w ow)
  -- all rise
  have or := wrise_ok ho
  have hnl := ho.nlen
  refine Eq.trans (congrArg retOf (iter_list0 (l := w.hs) (enc := fun i (s : List House) => [.int .i64 i, .list ((s ++ w.hs.drop i).map House.e)]) (res := fun xs _ s => .ret (wforces (whears ⟨drise w.dk, s ++ xs.map hrise, []⟩ (w.ns ++ dwords (drise w.dk)))).e) (fun i s => s = (w.hs.take i).map hrise) (s := []) (by simp) ?_ ?_)) ?_
  · intro i x xs s hx hs
    have hi := (List.getElem?_eq_some_iff.1 hx).1
    have hsl : s.length = i := by rw [hs]; simp; omega
    have hi' : (i : Int) < ((s ++ w.hs.drop i).length : Nat) := by rw [List.length_append, List.length_drop]; omega
    have hxr : (s ++ w.hs.drop i)[i]? = some x := by
      rw [List.getElem?_append_right (by omega), hsl, Nat.sub_self, List.getElem?_drop, Nat.add_zero]; exact hx
    have hd : (decide ((0 : Int) <= (i : Int)) && decide ((i : Int) < ((s ++ w.hs.drop i).length : Nat))) = true := by simp only [Bool.and_eq_true, decide_eq_true_eq]; omega
    refine .inl ⟨s ++ [hrise x], ?_, ?_, by simp⟩
    · simp only [getC, C.toInt_int, C.toList_list]
      unfold L_cx_2
      rw [row_Hs hxr]
      simp only [List.length_map, iteD_dec, hi', if_true, hd, whenD_tt, House.e, getC, C.toInt_int, C.toBool_bool, C.toList_list, BEq.rfl]
      have h3 := ho.len
      rw [wrap_nat (by omega)]
      have hset : ((s ++ w.hs.drop i).map House.e).set (Int.toNat (i : Int)) [.int .i64 x.id, .bool true, .int .i64 x.room, .list (x.lg.rs.map Rec.e), .int .i64 x.lg.f] = ((s ++ [hrise x]) ++ w.hs.drop (i + 1)).map House.e := by
        rw [show [C.int .i64 x.id, C.bool true, C.int .i64 x.room, C.list (x.lg.rs.map Rec.e), C.int .i64 x.lg.f] = (hrise x).e from rfl, <- List.map_set, Int.toNat_natCast, List.set_append_right _ _ (by omega), hsl, Nat.sub_self, List.drop_eq_getElem_cons hi]
        simp only [List.set_cons_zero, List.map_append, List.map_cons, List.append_assoc, List.cons_append, List.nil_append, List.map_nil]
      rw [hset]
      simp
    · rw [hs, List.take_add_one, hx]; simp
  · intro s hs
    have hs' : s = w.hs.map hrise := by rw [hs, List.take_length]
    have h : ¬ ((w.hs.length : Int) < (w.hs.length : Nat)) := by omega
    simp only [List.drop_length, List.append_nil, getC, C.toInt_int, C.toList_list]
    unfold L_cx_2
    have hsl : s.length = w.hs.length := by rw [hs']; simp
    simp only [List.length_map, hsl, iteD_dec, h, if_false]
    have hdw := dwords_len or.dk
    have htd := ho.dk.tdlen
    have hdr : DkOk ⟨true, ⟨w.dk.lg.rs, w.dk.lg.f⟩, w.dk.td⟩ := ho.dk.rise
    have hwd := m_l13Words hdr (by omega)
    have hdd : (dwords (drise w.dk)).length <= 18 := hdw
    have e1 : (⟨true, ⟨w.dk.lg.rs, w.dk.lg.f⟩, w.dk.td⟩ : Desk) = drise w.dk := rfl
    rw [e1] at hwd
    have hc1 : w.ns.length <= 1099511627776 := by omega
    have hc2 : w.ns.length + (dwords (drise w.dk)).length <= 1099511627776 := by omega
    simp (disch := first | assumption | omega | (simp only [zL]; omega)) only [hwd, hc1, hc2, Int.reduceEq, reduceIte, zU, zT, getC]
    rw [<- List.map_append]
    have o3 : WOk ⟨drise w.dk, s, []⟩ := by rw [hs']; exact ⟨or.dk, or.len, or.hs, by simp, by simp⟩
    have := L1 (w.ns ++ dwords (drise w.dk)) ⟨drise w.dk, s, []⟩ (by rw [List.length_append]; omega) o3 (fun x hx => by
      rcases List.mem_append.1 hx with h | h
      · exact ho.ns x h
      · exact (dwords_mem or.dk h).1)
    simp only [List.map_nil] at this
    have hle : w.ns.length + (dwords (drise w.dk)).length <= 1099511627776 := hc2
    simp only [decide_true, whenD_tt, List.map_nil, List.append_nil]
    exact congrArg upD this
  · rfl

theorem m_WorldCalmS (hw : WS w) {r : Int} :
    φ_bq [.bool w.dk.up, .list (w.dk.lg.rs.map Rec.e), .int .i64 w.dk.lg.f, .list (w.dk.td.map Word.e), .list (w.hs.map House.e), .list (w.ns.map Word.e), .int .i64 r] = some (if worldOk w && in_ r 0 9 then wcalm w r.toNat else wd0).e := by
  rw [q_bq]
  unfold F_bq
  rw [m_WorldOk hw]
  cases hok : worldOk w with
  | false => rfl
  | true =>
    have ho := worldOk_iff.1 hok
    simp only [cd_b, getC, C.toBool_bool, Bool.not_true, iteD_ff, m_l6In]
    cases hr : in_ r 0 9 with
    | false => rfl
    | true =>
      have hr := in_iff.1 hr
      simp only [Bool.not_true, iteD_ff, Bool.and_self, if_true]
      rw [m_l21Copy hw]
      obtain ⟨n, rfl⟩ : ∃ n : Nat, r = n := ⟨r.toNat, by omega⟩
      simp only [Wd.e, cd_blilll, getC, C.toInt_int, C.toList_list, C.toBool_bool]
      refine Eq.trans (congrArg retOf (iter_list0 (l := List.replicate n ()) (enc := fun i (w : Wd) => [.int .i64 i, .bool w.dk.up, .int .i64 w.dk.lg.f, .list (w.dk.lg.rs.map Rec.e), .list (w.dk.td.map Word.e), .list (w.hs.map House.e), .list (w.ns.map Word.e)]) (res := fun xs _ v => .ret (wcalm v xs.length).e) (fun _ v => WOk v) (s := w) ho ?_ ?_)) ?_
      · intro i x xs w hx ow
        have hi := (List.getElem?_eq_some_iff.1 hx).1
        rw [List.length_replicate] at hi
        have hi' : (i : Int) < (n : Nat) := by omega
        refine .inl ⟨wround w, ?_, ow.round, rfl⟩
        simp only [getC, C.toInt_int, C.toBool_bool, C.toList_list]
        unfold L_bq_0
        simp only [iteD_dec, hi', if_true, m_l21Calm ow]
        simp only [Wd.e, cd_blilll, getC, C.toInt_int, C.toList_list, C.toBool_bool]
        rw [wrap_nat (by omega)]
      · intro v ow
        have h : ¬ ((n : Int) < (n : Nat)) := by omega
        simp only [List.length_replicate, Wd.e, getC, C.toInt_int, C.toBool_bool, C.toList_list]
        unfold L_bq_0
        simp only [iteD_dec, h, if_false]
        rfl
      · rw [List.length_replicate]; rfl
end
end Dx


/- Worlds, words, and numbers that are drawn. -/
namespace Dx
open Go

section
variable {bs : List Int}

def WOut (bs : List Int) (p : Int) (r : Option (List C)) : Prop := ∃ (x : Word) (p' : Int), r = some (x.e ++ [.list (bs.map eB), .int .i64 p']) /\ p <= p' /\ p' <= p + 10
theorem WOut.ite {p : Int} {c : Prop} [Decidable c] {a b : Option (List C)} (ha : WOut bs p a) (hb : WOut bs p b) : WOut bs p (if c then a else b) := by split <;> assumption
theorem wOut {p p' k h t m : Int} (h1 : p <= p') (h2 : p' <= p + 10) : WOut bs p (some [.int .i64 k, .int .i64 h, .int .i64 t, .int .i64 m, .list (bs.map eB), .int .i64 p']) := ⟨⟨k, h, t, m⟩, p', rfl, h1, h2⟩

theorem m_l71Word (hb : Rd bs) {p : Int} (h0 : 0 <= p) (h1 : p <= 800000000) : WOut bs p (φ_dz [.list (bs.map eB), .int .i64 p]) := by
  rw [q_dz]
  obtain ⟨pk, hpk⟩ := picks hb
  have q := fun p n h0 h1 h2 => (hpk p n h0 h1 h2).1
  have j : ∀ (k h t m p' : Int), p <= p' -> p' <= p + 5 -> WOut bs p (retOf (J_dz_0 k h t m (bs.map eB) p')) := by
    intro k h t m p' g1 g2
    unfold J_dz_0
    simp (disch := first | assumption | omega | (simp only [zL]; omega)) only [q, Int.reduceEq, reduceIte, zU, zT, getC]
    exact WOut.ite (wOut (by omega) (by omega)) (WOut.ite (wOut (by omega) (by omega)) (WOut.ite (wOut (by omega) (by omega)) (WOut.ite (wOut (by omega) (by omega)) (wOut (by omega) (by omega)))))
  simp (disch := first | assumption | omega | (simp only [zL]; omega)) only [F_dz, q, Int.reduceEq, reduceIte, zU, zT, getC]
  split
  · exact j _ _ _ _ _ (by omega) (by omega)
  · exact j _ _ _ _ _ (by omega) (by omega)

def MOut (bs : List Int) (p : Int) (r : Option (List C)) : Prop := ∃ (m : List Int) (p' : Int), r = some [.list (m.map eI), .list (bs.map eB), .int .i64 p'] /\ p <= p' /\ p' <= p + 10 /\ m.length <= 3
theorem MOut.ite {p : Int} {c : Prop} [Decidable c] {a b : Option (List C)} (ha : MOut bs p a) (hb : MOut bs p b) : MOut bs p (if c then a else b) := by split <;> assumption
theorem cd_iiiili (a b c d : Int) (l : List (List C)) (e : Int) (f : List C -> Option Out) : callD (some [.int .i64 a, .int .i64 b, .int .i64 c, .int .i64 d, .list l, .int .i64 e]) [.int .i64, .int .i64, .int .i64, .int .i64, .list, .int .i64] f = f [.int .i64 a, .int .i64 b, .int .i64 c, .int .i64 d, .list l, .int .i64 e] := callD_ok rfl
theorem cd_bliLi (a : Bool) (l : List (List C)) (b : Int) (m n o q : List (List C)) (e : Int) (f : List C -> Option Out) : callD (some [.bool a, .list l, .int .i64 b, .list m, .list n, .list o, .list q, .int .i64 e]) [.bool, .list, .int .i64, .list, .list, .list, .list, .int .i64] f = f [.bool a, .list l, .int .i64 b, .list m, .list n, .list o, .list q, .int .i64 e] := callD_ok rfl

structure WdS (w : Wd) : Prop extends WS w where
  bare : DkOk ⟨w.dk.up, ⟨w.dk.lg.rs, w.dk.lg.f⟩, []⟩
  tl : w.dk.td.length <= 1000
theorem WOk.wds {w : Wd} (h : WOk w) : WdS w := { h.ws with bare := h.dk.bare, tl := by have := h.dk.tdlen; omega }
def WdOut (bs : List Int) (r : Option (List C)) : Prop := ∃ (w : Wd) (p' : Int), r = some (w.e ++ [.list (bs.map eB), .int .i64 p']) /\ 0 <= p' /\ p' <= 5000 /\ WdS w
theorem WdOut.ite {c : Prop} [Decidable c] {a b : Option (List C)} (ha : WdOut bs a) (hb : WdOut bs b) : WdOut bs (if c then a else b) := by split <;> assumption

theorem kinds_Hs (m : List House) : (m.map House.e).all (kindsB [.int .i64, .bool, .int .i64, .list, .int .i64]) = true := by
  rw [List.all_map, List.all_eq_true]; intro x _; rfl

theorem m_l72World (hb : Rd bs) {p : Int} (h0 : 0 <= p) (h1 : p <= 100) : WdOut bs (φ_cq [.list (bs.map eB), .int .i64 p]) := by
  rw [q_cq]
  obtain ⟨pk, hpk⟩ := picks hb
  have q := fun p n h0 h1 h2 => (hpk p n h0 h1 h2).1
  obtain ⟨a, b, c, w0, es, w, p', hp, _, _, _, _, _, _, hw0, hd, hp0, hp1⟩ := m_l72Play hb (p := p) (by omega) (by omega)
  simp only [Wd.e, List.cons_append, List.nil_append] at hp
  have ow : WOk w := by rw [hd.play]; exact (worldNew_ok hw0).plays es
  have hds := ow.wds
  have h3 := ow.len
  have hnl := ow.nlen
  have htd := ow.dk.tdlen
  obtain ⟨x, px, hx, hx1, hx2⟩ := m_l71Word hb (p := p' + 1) (by omega) (by omega)
  simp only [Word.e, List.cons_append, List.nil_append] at hx
  have hc1 : w.ns.length + 1 <= 1099511627776 := by omega
  have hc2 : w.dk.td.length + 1 <= 1099511627776 := by omega
  have k1 : (1 : Int) <= ((w.hs.length : Nat) : Int) := by omega
  have k0 : (0 : Int) < ((w.hs.length : Nat) : Int) := by omega
  obtain ⟨y, ys, hys⟩ : ∃ y ys, w.hs = y :: ys := by
    match hq : w.hs, h3 with
    | y :: ys, _ => exact ⟨y, ys, rfl⟩
  have hrow : ∀ f : List C -> Option Out, rowD (.list (w.hs.map House.e)) (.int .i64 0) [.int .i64, .bool, .int .i64, .list, .int .i64] f = f y.e := fun f => by rw [hys]; rfl
  simp (disch := first | assumption | omega | (simp only [zL]; omega)) only [F_cq, hp, q, hx, cd_iiiili, kinds_Hs, k1, k0, hrow, House.e, hc1, hc2, Int.reduceLE, decide_true, Bool.and_self, Int.reduceEq, reduceIte, zU, zT, getC]
  refine WdOut.ite ?_ (WdOut.ite ?_ (WdOut.ite ?_ (WdOut.ite ?_ (WdOut.ite ?_ ?_))))
  · refine ⟨⟨w.dk, w.hs.drop 1, w.ns⟩, p' + 1, by simp [Wd.e], by omega, by omega, { hds with hs := fun x hx => hds.hs x (List.mem_of_mem_drop hx), hl := by simp; omega }⟩
  · refine ⟨⟨w.dk, w.hs, w.ns ++ [x]⟩, px, by simp [Wd.e, Word.e], by omega, by omega, { hds with nl := by simp; omega }⟩
  · have r := hpk (p' + 1) 3 (by omega) (by omega) (by omega)
    refine ⟨⟨w.dk, ⟨y.id, y.up, pk (p' + 1) 3, y.lg⟩ :: ys, w.ns⟩, p' + 1 + 1, by rw [hys]; rfl, by omega, by omega, { hds with hs := fun x hx => ?_, hl := by have := h3; rw [hys, List.length_cons] at this; show ys.length + 1 <= 1000; omega }⟩
    rcases List.mem_cons.1 hx with e | hx
    · subst e; exact hds.hs y (by rw [hys]; simp)
    · exact hds.hs x (by rw [hys]; simp [hx])
  · refine ⟨⟨⟨w.dk.up, w.dk.lg, w.dk.td ++ [x]⟩, w.hs, w.ns⟩, px, by simp [Wd.e, Word.e], by omega, by omega, { hds with dk := ⟨hds.dk.lg, by simp; omega⟩, tl := by simp; omega }⟩
  · have key := iter_ex (F := fun ps => L_cq_0 w.dk.up (w.dk.lg.rs.map Rec.e) w.dk.lg.f (w.dk.td.map Word.e) (w.hs.map House.e) (bs.map eB) (p' + 1) ((getC ps 0).toList))
      (I := fun k ps => ∃ ns : List Word, ps = [.list (ns.map Word.e)] /\ ns.length + k = 15)
      (Q := fun o => ∃ ns : List Word, o = .ret ([.bool w.dk.up, .list (w.dk.lg.rs.map Rec.e), .int .i64 w.dk.lg.f, .list (w.dk.td.map Word.e), .list (w.hs.map House.e), .list (ns.map Word.e)] ++ [.list (bs.map eB), .int .i64 (p' + 1 + 1)]) /\ ns.length <= 15) ?_ (15 - w.ns.length) _ ⟨w.ns, rfl, by omega⟩
    · obtain ⟨o, g1, ns, rfl, g2⟩ := key
      refine ⟨⟨w.dk, w.hs, ns⟩, p' + 1 + 1, by rw [g1]; rfl, by omega, by omega, { hds with nl := by simp only; omega }⟩
    · rintro k ps ⟨ns, rfl, hk⟩
      simp only [getC, C.toList_list]
      unfold L_cq_0
      have r := hpk (p' + 1) 2 (by omega) (by omega) (by omega)
      have r1 := r.2.2.1 (by omega)
      have r0 := r.2.1
      by_cases h14 : ((ns.length : Nat) : Int) <= 14
      · left
        have hc : ns.length + 1 <= 1099511627776 := by omega
        simp (disch := first | assumption | omega | (simp only [zL]; omega)) only [h14, hc, if_true, Int.reduceEq, reduceIte, zU, zT, getC]
        exact ⟨_, k - 1, by omega, rfl, ns ++ [⟨3, 1, 1, 0⟩], by simp [Word.e], by simp; omega⟩
      · right
        have hw1 : IntKind.wrap .i64 (14 + pk (p' + 1) 2) = 14 + pk (p' + 1) 2 := wrap64 (by omega) (by omega)
        have hu1 : (0 : Int) <= 14 + pk (p' + 1) 2 := by omega
        have hu2 : 14 + pk (p' + 1) 2 <= ((ns.length : Nat) : Int) := by omega
        simp (disch := first | assumption | omega | (simp only [zL]; omega)) only [h14, if_false, q, hw1, hu1, hu2, decide_true, Bool.and_self, Int.reduceEq, reduceIte, zU, zT, getC]
        refine ⟨_, rfl, ns.take (14 + pk (p' + 1) 2).toNat, by simp, by simp; omega⟩
  · exact ⟨w, p' + 1, rfl, by omega, by omega, hds⟩

theorem row7 {a b c d e g h i : Int} (h0 : 0 <= i) (h7 : i < 7) {kk : IntKind} : ∃ x, (∀ f : List C -> Option Out, rowD (.list [[.int .i64 a], [.int .i64 b], [.int .i64 c], [.int .i64 d], [.int .i64 e], [.int .i64 g], [.int .i64 h]]) (.int kk i) [.int .i64] f = f [.int .i64 x]) := by
  obtain ⟨n, rfl⟩ := Int.eq_ofNat_of_zero_le h0
  rcases (show n = 0 \/ n = 1 \/ n = 2 \/ n = 3 \/ n = 4 \/ n = 5 \/ n = 6 by omega) with e' | e' | e' | e' | e' | e' | e' <;> subst e'
  · exact ⟨a, fun _ => rfl⟩
  · exact ⟨b, fun _ => rfl⟩
  · exact ⟨c, fun _ => rfl⟩
  · exact ⟨d, fun _ => rfl⟩
  · exact ⟨e, fun _ => rfl⟩
  · exact ⟨g, fun _ => rfl⟩
  · exact ⟨h, fun _ => rfl⟩
theorem m_DrawWorldCalm {code : List Int} (hl : code.length <= 1099511627776) (hc : ∀ b ∈ code, 0 <= b /\ b <= 255) :
    ∃ (w : Wd) (r : Int), φ_ax [.list (code.map eB)] = some (w.e ++ [.int .i64 r]) /\ WS w := by
  rw [q_ax]
  obtain ⟨bs, hb, ho⟩ := m_l6Open hl hc
  obtain ⟨pk, hpk⟩ := picks hb
  have q := fun p n h0 h1 h2 => (hpk p n h0 h1 h2).1
  obtain ⟨w, p, hw, hp0, hp1, hws⟩ := m_l72World hb (p := 0) (by omega) (by omega)
  simp only [Wd.e, List.cons_append, List.nil_append] at hw
  have r := hpk p 7 (by omega) (by omega) (by omega)
  have r1 := r.2.2.1 (by omega)
  have r0 := r.2.1
  obtain ⟨x, ex⟩ := row7 (a := 0) (b := 1) (c := 2) (d := 4) (e := 9) (g := 10) (h := -1) (kk := .i64) r0 r1
  have r1' : pk p 7 < ((0 + 1 + 1 + 1 + 1 + 1 + 1 + 1 : Nat) : Int) := by omega
  simp (disch := first | assumption | omega | (simp only [zL]; omega)) only [F_ax, ho, hw, q, cd_bliLi, ex, r0, r1', decide_true, Bool.and_self, bothD_self, Int.reduceEq, reduceIte, zU, zT, getC]
  exact ⟨w, x, rfl, hws.toWS⟩
end
end Dx


/- Laws on drawn worlds: what they share. -/
namespace Dx
open Go
theorem self_n {x : Wd} (hx : WS x) : φ_do (x.e ++ x.e) = some [.bool true] := by
  have := n_World (w := x) (w' := x) hx.dk hx.hs hx.hl hx.nl
  simp only [decide_true] at this
  exact this
def calmHead2 (t : Tree) : Tree :=
.letp .len [⟨.list, (.v 0)⟩] <|
.letp .gtI [⟨(.int .i64), (.v 2)⟩, ⟨(.int .i64), (.n 1048576)⟩] <|
.ite (.v 3) (
  .ret [⟨.bool, (.b true)⟩]) <|
.letp .len [⟨.list, (.v 1)⟩] <|
.letp .gtI [⟨(.int .i64), (.v 4)⟩, ⟨(.int .i64), (.n 1048576)⟩] <|
.ite (.v 5) (
  .ret [⟨.bool, (.b true)⟩]) <|
.call 0 [⟨.list, (.v 0)⟩] [.bool, .list, (.int .i64), .list, .list, .list, (.int .i64)] <|
.call 1 [⟨.bool, (.v 6)⟩, ⟨.list, (.v 7)⟩, ⟨(.int .i64), (.v 8)⟩, ⟨.list, (.v 9)⟩, ⟨.list, (.v 10)⟩, ⟨.list, (.v 11)⟩, ⟨(.int .i64), (.v 12)⟩] [.bool, .list, (.int .i64), .list, .list, .list] <|
.call 2 [⟨.bool, (.v 6)⟩, ⟨.list, (.v 7)⟩, ⟨(.int .i64), (.v 8)⟩, ⟨.list, (.v 9)⟩, ⟨.list, (.v 10)⟩, ⟨.list, (.v 11)⟩, ⟨(.int .i64), (.v 12)⟩] [.bool, .list, (.int .i64), .list, .list, .list] <|
.call 3 [⟨.bool, (.v 13)⟩, ⟨.list, (.v 14)⟩, ⟨(.int .i64), (.v 15)⟩, ⟨.list, (.v 16)⟩, ⟨.list, (.v 17)⟩, ⟨.list, (.v 18)⟩, ⟨.bool, (.v 19)⟩, ⟨.list, (.v 20)⟩, ⟨(.int .i64), (.v 21)⟩, ⟨.list, (.v 22)⟩, ⟨.list, (.v 23)⟩, ⟨.list, (.v 24)⟩] [.bool] <|
.letp .not [⟨.bool, (.v 25)⟩] <|
.ite (.v 26) (
  .call 2 [⟨.bool, (.v 6)⟩, ⟨.list, (.v 7)⟩, ⟨(.int .i64), (.v 8)⟩, ⟨.list, (.v 9)⟩, ⟨.list, (.v 10)⟩, ⟨.list, (.v 11)⟩, ⟨(.int .i64), (.v 12)⟩] [.bool, .list, (.int .i64), .list, .list, .list] <|
  .call 3 [⟨.bool, (.v 13)⟩, ⟨.list, (.v 14)⟩, ⟨(.int .i64), (.v 15)⟩, ⟨.list, (.v 16)⟩, ⟨.list, (.v 17)⟩, ⟨.list, (.v 18)⟩, ⟨.bool, (.v 27)⟩, ⟨.list, (.v 28)⟩, ⟨(.int .i64), (.v 29)⟩, ⟨.list, (.v 30)⟩, ⟨.list, (.v 31)⟩, ⟨.list, (.v 32)⟩] [.bool] <|
  .ret [⟨.bool, (.v 33)⟩]) <|
.call 4 [⟨.bool, (.v 6)⟩, ⟨.list, (.v 7)⟩, ⟨(.int .i64), (.v 8)⟩, ⟨.list, (.v 9)⟩, ⟨.list, (.v 10)⟩, ⟨.list, (.v 11)⟩] [.bool] <|
.letp .not [⟨.bool, (.v 27)⟩] <|
.ite (.v 28) (
  .call 2 [⟨.bool, (.v 6)⟩, ⟨.list, (.v 7)⟩, ⟨(.int .i64), (.v 8)⟩, ⟨.list, (.v 9)⟩, ⟨.list, (.v 10)⟩, ⟨.list, (.v 11)⟩, ⟨(.int .i64), (.v 12)⟩] [.bool, .list, (.int .i64), .list, .list, .list] <|
  .call 3 [⟨.bool, (.v 13)⟩, ⟨.list, (.v 14)⟩, ⟨(.int .i64), (.v 15)⟩, ⟨.list, (.v 16)⟩, ⟨.list, (.v 17)⟩, ⟨.list, (.v 18)⟩, ⟨.bool, (.v 29)⟩, ⟨.list, (.v 30)⟩, ⟨(.int .i64), (.v 31)⟩, ⟨.list, (.v 32)⟩, ⟨.list, (.v 33)⟩, ⟨.list, (.v 34)⟩] [.bool] <|
  .ret [⟨.bool, (.v 35)⟩]) t

section
variable {Φ : Phi} {f : Nat} {xs : List Cell} {ks : List CK} {t e b : Tree} {env r cs : List C} {F : List C -> Option (List C)} {X : Option (List C)} {a : At} {p : Prim} {v : C}
theorem sc (hΦ : Φ f = F) (h : F cs = some r) (ha : dens env xs = cs) (hk : kindsB ks r = true) (g : retOf (den Φ t (env ++ r)) = X) : retOf (den Φ (.call f xs ks t) env) = X := by
  rw [den_call, hΦ, ha, h, callD_ok hk]; exact g
theorem st (h : (a.den env).toBool = true) (g : retOf (den Φ t env) = X) : retOf (den Φ (.ite a t e) env) = X := by rw [den_ite, h]; exact g
theorem sf (h : (a.den env).toBool = false) (g : retOf (den Φ e env) = X) : retOf (den Φ (.ite a t e) env) = X := by rw [den_ite, h]; exact g
theorem sl (h : p.den (dens env xs) = v) (g : retOf (den Φ t (env ++ [v])) = X) : retOf (den Φ (.letp p xs t) env) = X := by rw [den_letp, h]; exact g
theorem sk (h : (p.den (dens env xs)).toBool = true) (g : retOf (den Φ t env) = X) : retOf (den Φ (.chk p xs t) env) = X := by rw [den_chk, h]; exact g
theorem sret (h : dens env xs = cs) : retOf (den Φ (.ret xs) env) = some cs := by rw [den_ret, h]; rfl
end

def calmEnv2 (code more : List Int) (w : Wd) (r : Int) (x : Wd) : List C :=
  [.list (code.map eB), .list (more.map eB), .int .i64 ((code.map eB).length : Nat), .bool false, .int .i64 ((more.map eB).length : Nat), .bool false,
   .bool w.dk.up, .list (w.dk.lg.rs.map Rec.e), .int .i64 w.dk.lg.f, .list (w.dk.td.map Word.e), .list (w.hs.map House.e), .list (w.ns.map Word.e), .int .i64 r,
   .bool x.dk.up, .list (x.dk.lg.rs.map Rec.e), .int .i64 x.dk.lg.f, .list (x.dk.td.map Word.e), .list (x.hs.map House.e), .list (x.ns.map Word.e),
   .bool x.dk.up, .list (x.dk.lg.rs.map Rec.e), .int .i64 x.dk.lg.f, .list (x.dk.td.map Word.e), .list (x.hs.map House.e), .list (x.ns.map Word.e), .bool true, .bool false, .bool true, .bool false]

section
variable {Φ : Phi} {t : Tree} {code more : List Int}
set_option maxHeartbeats 2000000 in
theorem calmHead2_den (h0 : Φ 0 = φ_ax) (h1 : Φ 1 = φ_bz) (h2 : Φ 2 = φ_bq) (h3 : Φ 3 = φ_do) (h4 : Φ 4 = φ_dd)
    (hl : code.length <= 1099511627776) (hc : Bytes code)
    (ht : ∀ (w : Wd) (r : Int) (x : Wd), more.length <= 1048576 -> WOk w -> WS x -> x = (if in_ r 0 9 then wcalm w r.toNat else wd0) ->
      φ_bq [.bool w.dk.up, .list (w.dk.lg.rs.map Rec.e), .int .i64 w.dk.lg.f, .list (w.dk.td.map Word.e), .list (w.hs.map House.e), .list (w.ns.map Word.e), .int .i64 r] = some x.e ->
      retOf (den Φ t (calmEnv2 code more w r x)) = some [.bool true]) :
    retOf (den Φ (calmHead2 t) [.list (code.map eB), .list (more.map eB)]) = some [.bool true] := by
  obtain ⟨w, r, hd, hw⟩ := m_DrawWorldCalm hl hc
  have p1 := i_WorldCalmS hw (r := r)
  have p2 := m_WorldCalmS hw (r := r)
  have hok := m_WorldOk hw
  obtain ⟨x, hx⟩ : ∃ x, x = (if worldOk w && in_ r 0 9 then wcalm w r.toNat else wd0) := ⟨_, rfl⟩
  rw [<- hx] at p1 p2
  have hxs : WS x := by
    rw [hx]; split
    · rename_i h
      simp only [Bool.and_eq_true] at h
      exact ((worldOk_iff.1 h.1).calm _).ws
    · exact ⟨⟨⟨by simp [wd0], by simp [wd0]⟩, by simp [wd0]⟩, by simp [wd0], by simp [wd0], by simp [wd0]⟩
  have hn := self_n hxs
  have p2' := p2
  simp only [Wd.e, List.cons_append, List.nil_append] at p1 p2 hn hd
  unfold calmHead2
  refine sl rfl ?_
  by_cases hbig : (((code.map eB).length : Nat) : Int) > 1048576
  · exact sl (congrArg C.bool (decide_eq_true hbig)) (st rfl (sret rfl))
  refine sl (congrArg C.bool (decide_eq_false hbig)) (sf rfl (sl rfl ?_))
  by_cases hbig2 : (((more.map eB).length : Nat) : Int) > 1048576
  · exact sl (congrArg C.bool (decide_eq_true hbig2)) (st rfl (sret rfl))
  refine sl (congrArg C.bool (decide_eq_false hbig2)) (sf rfl (sc h0 hd rfl rfl (sc h1 p1 rfl rfl (sc h2 p2 rfl rfl (sc h3 hn rfl rfl (sl rfl (sf rfl ?_)))))))
  rw [List.length_map] at hbig2
  cases hwo : worldOk w with
  | false =>
    rw [hwo] at hok
    exact sc h4 hok rfl rfl (sl rfl (st rfl (sc h2 p2 rfl rfl (sc h3 hn rfl rfl (sret rfl)))))
  | true =>
    rw [hwo] at hok
    rw [hwo, Bool.true_and] at hx
    exact sc h4 hok rfl rfl (sl rfl (sf rfl (ht w r x (by omega) (worldOk_iff.1 hwo) hxs hx p2')))
end
end Dx

