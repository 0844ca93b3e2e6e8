import Derived.Test.YtnbafdnocjajcabGreatZa
set_option linter.all false
set_option linter.unusedVariables false
set_option linter.unusedSimpArgs false
set_option linter.unnecessarySimpa false
/- The program's worlds: parts. -/
namespace Dx
open Go

theorem setRowHs {l : List House} {i : Int} (h1 : 1 ≤ i) (h2 : i ≤ l.length) (id : Int) (up : Bool) (room : Int) (rs : List Rec) (f : Int) :
    setRow 0 (l.map House.e) (i - 1).toNat [.int .i64 id, .bool up, .int .i64 room, .list (rs.map Rec.e), .int .i64 f] = (l.set (i - 1).toNat ⟨id, up, room, ⟨rs, f⟩⟩).map House.e :=
  setRow_map (hsAt_get h1 h2) rfl

section
variable {up b : Bool} {rs : List Rec} {f : Int} {td : List Word} {k h t m keep : Int} {ms : List Int} {id room : Int} {hs : List House} {ns : List Word}

theorem i_HouseForce (ho : HsOk ⟨id, up, room, ⟨rs, f⟩⟩) : φ_bo [.int .i64 id, .bool up, .int .i64 room, .list (rs.map Rec.e), .int .i64 f] = some (hforce ⟨id, up, room, ⟨rs, f⟩⟩).e := by
  rw [q_bo]
  have hlg : LgOk ⟨rs, f⟩ := ho.lg
  have hS := hlg.S
  have hok := houseOk_iff.2 ho
  simp (disch := first | assumption | omega | (simp only [List.length_append, List.length_map, List.length_cons, List.length_nil]; omega)) only [F_bo, i_HouseOk, hok, i_HouseCopied, House.e, i_LogForce hlg, Log.e, Int.reduceEq, reduceIte, zU, zT, getC, Bool.and_true, List.length_map, List.length_nil, List.length_cons, List.nil_append]
  cases up <;> rfl
theorem i_HouseRise (ho : HsOk ⟨id, up, room, ⟨rs, f⟩⟩) : φ_cc [.int .i64 id, .bool up, .int .i64 room, .list (rs.map Rec.e), .int .i64 f] = some (hrise ⟨id, up, room, ⟨rs, f⟩⟩).e := by
  rw [q_cc]
  have hlg : LgOk ⟨rs, f⟩ := ho.lg
  have hS := hlg.S
  have hok := houseOk_iff.2 ho
  simp (disch := first | assumption | omega | (simp only [List.length_append, List.length_map, List.length_cons, List.length_nil]; omega)) only [F_cc, i_HouseOk, hok, i_HouseCopied, House.e, Int.reduceEq, reduceIte, zU, zT, getC, Bool.and_true, List.length_map, List.length_nil, List.length_cons, List.nil_append]
  rfl
theorem i_HouseFall (ho : HsOk ⟨id, up, room, ⟨rs, f⟩⟩) :
    φ_bv [.int .i64 id, .bool up, .int .i64 room, .list (rs.map Rec.e), .int .i64 f, .int .i64 keep] = some (hfall ⟨id, up, room, ⟨rs, f⟩⟩ keep).e := by
  rw [q_bv]
  have hlg : LgOk ⟨rs, f⟩ := ho.lg
  have hS := hlg.S
  have hok := houseOk_iff.2 ho
  simp (disch := first | assumption | omega | (simp only [List.length_append, List.length_map, List.length_cons, List.length_nil]; omega)) only [F_bv, i_HouseOk, hok, i_LogFall hlg, Log.e, Int.reduceEq, reduceIte, zU, zT, getC, Bool.and_true, List.length_map, List.length_nil, List.length_cons, List.nil_append]
  rfl
theorem i_send (hL : ns.length ≤ 1000) :
    φ_bm [.bool up, .list (rs.map Rec.e), .int .i64 f, .list (td.map Word.e), .list (hs.map House.e), .list (ns.map Word.e), .int .i64 k, .int .i64 h, .int .i64 t, .int .i64 m] = some (wput ⟨⟨up, ⟨rs, f⟩, td⟩, hs, ns⟩ ⟨k, h, t, m⟩).e := by
  rw [q_bm]
  simp (disch := first | assumption | omega | (simp only [List.length_append, List.length_map, List.length_cons, List.length_nil]; omega)) only [F_bm, wput, Int.reduceEq, reduceIte, zU, zT, getC, Bool.and_true, List.length_map, List.length_nil, List.length_cons, List.nil_append]
  by_cases hn : ns.length < 14
  · have h' : ((ns.length : Nat) : Int) < 14 := by omega
    have hc : ns.length + 1 ≤ 1099511627776 := by omega
    simp [hn, h', Wd.e, Word.e, LMAX_eq, hc]
  · have h' : ¬ (((ns.length : Nat) : Int) < 14) := by omega
    simp [hn, h', Wd.e]

theorem i_heard (ho : WOk ⟨⟨up, ⟨rs, f⟩, td⟩, hs, ns⟩) (hx : WdOk ⟨k, h, t, m⟩) :
    φ_ba [.bool up, .list (rs.map Rec.e), .int .i64 f, .list (td.map Word.e), .list (hs.map House.e), .list (ns.map Word.e), .int .i64 k, .int .i64 h, .int .i64 t, .int .i64 m] =
      some ((oW (whear ⟨⟨up, ⟨rs, f⟩, td⟩, hs, ns⟩ ⟨k, h, t, m⟩).2).e ++ (.bool (whear ⟨⟨up, ⟨rs, f⟩, td⟩, hs, ns⟩ ⟨k, h, t, m⟩).2.isSome :: (whear ⟨⟨up, ⟨rs, f⟩, td⟩, hs, ns⟩ ⟨k, h, t, m⟩).1.e)) := by
  rw [q_ba]
  have hd : DkOk ⟨up, ⟨rs, f⟩, td⟩ := ho.dk
  have hl : hs.length = 3 := ho.len
  have hh := hx.h
  simp only at hh
  by_cases h4 : k ≥ 4
  · simp (disch := first | assumption | omega | (simp only [List.length_append, List.length_map, List.length_cons, List.length_nil]; omega)) only [F_ba, i_answer, i_hear, whear, h4, if_true, decide_true, Desk.e, Int.reduceEq, reduceIte, zU, zT, getC, Bool.and_true, List.length_map, List.length_nil, List.length_cons, List.nil_append]
    simp [Wd.e, oW, Word.e]
  · have hho := (ho.houseAt (i := h) hh).2.1
    rw [houseAt_eq] at hho
    simp only at hho
    have hho' : HsOk ⟨(hsAt hs h).id, (hsAt hs h).up, (hsAt hs h).room, ⟨(hsAt hs h).lg.rs, (hsAt hs h).lg.f⟩⟩ := hho
    have h2 : h ≤ hs.length := by omega
    have hset := fun id up room rs f => setRowHs (l := hs) hh.1 h2 id up room rs f
    simp (disch := first | assumption | omega | (simp only [List.length_append, List.length_map, List.length_cons, List.length_nil]; omega)) only [F_ba, i_answer, whear, h4, if_false, decide_false, wrap64, rowHs, House.e, i_HouseHear, List.cons_append, Word.e, hset, houseAt_eq, Int.reduceEq, reduceIte, zU, zT, getC, Bool.and_true, List.length_map, List.length_nil, List.length_cons, List.nil_append]
    simp [Wd.e, setHouse]

theorem i_eachForce (ho : WOk ⟨⟨up, ⟨rs, f⟩, td⟩, hs, ns⟩) {i : Int} :
    φ_ab [.bool up, .list (rs.map Rec.e), .int .i64 f, .list (td.map Word.e), .list (hs.map House.e), .list (ns.map Word.e), .int .i64 i] = some (wforce ⟨⟨up, ⟨rs, f⟩, td⟩, hs, ns⟩ i).e := by
  rw [q_ab]
  have hd : DkOk ⟨up, ⟨rs, f⟩, td⟩ := ho.dk
  have hl : hs.length = 3 := ho.len
  by_cases h0 : i = 0
  · subst h0
    simp (disch := first | assumption | omega | (simp only [List.length_append, List.length_map, List.length_cons, List.length_nil]; omega)) only [F_ab, wforce, i_DeskForce, Desk.e, Int.reduceEq, reduceIte, zU, zT, getC, Bool.and_true, List.length_map, List.length_nil, List.length_cons, List.nil_append]
    simp [Wd.e]
  · cases hi : in_ i 1 3 with
    | false => simp (disch := first | assumption | omega | (simp only [List.length_append, List.length_map, List.length_cons, List.length_nil]; omega)) only [F_ab, i_isHouse, wforce, h0, hi, if_false, Int.reduceEq, reduceIte, zU, zT, getC, Bool.and_true, List.length_map, List.length_nil, List.length_cons, List.nil_append]; simp [Wd.e]
    | true =>
      have hi' := in_iff.1 hi
      have hho := (ho.houseAt (i := i) hi').2.1
      rw [houseAt_eq] at hho
      simp only at hho
      have hho' : HsOk ⟨(hsAt hs i).id, (hsAt hs i).up, (hsAt hs i).room, ⟨(hsAt hs i).lg.rs, (hsAt hs i).lg.f⟩⟩ := hho
      have h2 : i ≤ hs.length := by omega
      have hset := fun id up room rs f => setRowHs (l := hs) hi'.1 h2 id up room rs f
      simp (disch := first | assumption | omega | (simp only [List.length_append, List.length_map, List.length_cons, List.length_nil]; omega)) only [F_ab, i_isHouse, wforce, h0, hi, if_false, if_true, wrap64, rowHs, House.e, i_HouseForce, hset, houseAt_eq, Int.reduceEq, reduceIte, zU, zT, getC, Bool.and_true, List.length_map, List.length_nil, List.length_cons, List.nil_append]
      simp [Wd.e, setHouse]
theorem i_eachRise (ho : WOk ⟨⟨up, ⟨rs, f⟩, td⟩, hs, ns⟩) {i : Int} :
    φ_ad [.bool up, .list (rs.map Rec.e), .int .i64 f, .list (td.map Word.e), .list (hs.map House.e), .list (ns.map Word.e), .int .i64 i] = some (wnode ⟨⟨up, ⟨rs, f⟩, td⟩, hs, ns⟩ ⟨9, i, 0, []⟩).e := by
  rw [q_ad]
  have hd : DkOk ⟨up, ⟨rs, f⟩, td⟩ := ho.dk
  have hl : hs.length = 3 := ho.len
  by_cases h0 : i = 0
  · subst h0
    have e0 : in_ 0 0 3 = true := rfl
    simp (disch := first | assumption | omega | (simp only [List.length_append, List.length_map, List.length_cons, List.length_nil]; omega)) only [F_ad, wnode, e0, i_DeskRise, Desk.e, Int.reduceEq, reduceIte, zU, zT, getC, Bool.and_true, List.length_map, List.length_nil, List.length_cons, List.nil_append]
    simp [Wd.e]
  · cases hi : in_ i 1 3 with
    | false =>
      have e0 : in_ i 0 3 = false := by rw [in_false] at hi ⊢; omega
      simp (disch := first | assumption | omega | (simp only [List.length_append, List.length_map, List.length_cons, List.length_nil]; omega)) only [F_ad, i_isHouse, wnode, e0, h0, hi, if_false, Int.reduceEq, reduceIte, zU, zT, getC, Bool.and_true, List.length_map, List.length_nil, List.length_cons, List.nil_append]; simp [Wd.e]
    | true =>
      have hi' := in_iff.1 hi
      have e0 : in_ i 0 3 = true := in_iff.2 (by omega)
      have hho := (ho.houseAt (i := i) hi').2.1
      rw [houseAt_eq] at hho
      simp only at hho
      have hho' : HsOk ⟨(hsAt hs i).id, (hsAt hs i).up, (hsAt hs i).room, ⟨(hsAt hs i).lg.rs, (hsAt hs i).lg.f⟩⟩ := hho
      have h2 : i ≤ hs.length := by omega
      have hset := fun id up room rs f => setRowHs (l := hs) hi'.1 h2 id up room rs f
      simp (disch := first | assumption | omega | (simp only [List.length_append, List.length_map, List.length_cons, List.length_nil]; omega)) only [F_ad, i_isHouse, wnode, e0, h0, hi, if_false, if_true, wrap64, rowHs, House.e, i_HouseRise, hset, houseAt_eq, Int.reduceEq, reduceIte, zU, zT, getC, Bool.and_true, List.length_map, List.length_nil, List.length_cons, List.nil_append]
      simp [Wd.e, setHouse]
theorem i_do1 (hd : DkOk ⟨up, ⟨rs, f⟩, td⟩) {k a : Int} {mc : List (List C)} :
    φ_bi [.bool up, .list (rs.map Rec.e), .int .i64 f, .list (td.map Word.e), .int .i64 k, .int .i64 a, .int .i64 keep, .list mc] = some (dfall ⟨up, ⟨rs, f⟩, td⟩ keep).e := by
  rw [q_bi]
  simp (disch := first | assumption | omega | (simp only [List.length_append, List.length_map, List.length_cons, List.length_nil]; omega)) only [F_bi, i_DeskFall hd, Desk.e, Int.reduceEq, reduceIte, zU, zT, getC, Bool.and_true, List.length_map, List.length_nil, List.length_cons, List.nil_append]
theorem i_do2 (ho : HsOk ⟨id, up, room, ⟨rs, f⟩⟩) {k a : Int} {mc : List (List C)} :
    φ_bk [.int .i64 id, .bool up, .int .i64 room, .list (rs.map Rec.e), .int .i64 f, .int .i64 k, .int .i64 a, .int .i64 keep, .list mc] = some (hfall ⟨id, up, room, ⟨rs, f⟩⟩ keep).e := by
  rw [q_bk]
  simp (disch := first | assumption | omega | (simp only [List.length_append, List.length_map, List.length_cons, List.length_nil]; omega)) only [F_bk, i_HouseFall ho, House.e, Int.reduceEq, reduceIte, zU, zT, getC, Bool.and_true, List.length_map, List.length_nil, List.length_cons, List.nil_append]
theorem i_eachFall (ho : WOk ⟨⟨up, ⟨rs, f⟩, td⟩, hs, ns⟩) {i : Int} {k a k' a' : Int} {mc mc' : List (List C)} :
    φ_aa [.bool up, .list (rs.map Rec.e), .int .i64 f, .list (td.map Word.e), .list (hs.map House.e), .list (ns.map Word.e), .int .i64 i, .int .i64 k, .int .i64 a, .int .i64 keep, .list mc, .int .i64 k', .int .i64 a', .int .i64 keep, .list mc'] = some (wnode ⟨⟨up, ⟨rs, f⟩, td⟩, hs, ns⟩ ⟨8, i, keep, []⟩).e := by
  rw [q_aa]
  have hd : DkOk ⟨up, ⟨rs, f⟩, td⟩ := ho.dk
  have hl : hs.length = 3 := ho.len
  by_cases h0 : i = 0
  · subst h0
    have e0 : in_ 0 0 3 = true := rfl
    simp (disch := first | assumption | omega | (simp only [List.length_append, List.length_map, List.length_cons, List.length_nil]; omega)) only [F_aa, wnode, e0, i_do1 hd, Desk.e, Int.reduceEq, reduceIte, zU, zT, getC, Bool.and_true, List.length_map, List.length_nil, List.length_cons, List.nil_append]
    simp [Wd.e]
  · cases hi : in_ i 1 3 with
    | false =>
      have e0 : in_ i 0 3 = false := by rw [in_false] at hi ⊢; omega
      simp (disch := first | assumption | omega | (simp only [List.length_append, List.length_map, List.length_cons, List.length_nil]; omega)) only [F_aa, i_isHouse, wnode, e0, h0, hi, if_false, Int.reduceEq, reduceIte, zU, zT, getC, Bool.and_true, List.length_map, List.length_nil, List.length_cons, List.nil_append]; simp [Wd.e]
    | true =>
      have hi' := in_iff.1 hi
      have e0 : in_ i 0 3 = true := in_iff.2 (by omega)
      have hho := (ho.houseAt (i := i) hi').2.1
      rw [houseAt_eq] at hho
      simp only at hho
      have hho' : HsOk ⟨(hsAt hs i).id, (hsAt hs i).up, (hsAt hs i).room, ⟨(hsAt hs i).lg.rs, (hsAt hs i).lg.f⟩⟩ := hho
      have h2 : i ≤ hs.length := by omega
      have hset := fun id up room rs f => setRowHs (l := hs) hi'.1 h2 id up room rs f
      simp (disch := first | assumption | omega | (simp only [List.length_append, List.length_map, List.length_cons, List.length_nil]; omega)) only [F_aa, i_isHouse, wnode, e0, h0, hi, if_false, if_true, wrap64, rowHs, House.e, i_do2 hho', hset, houseAt_eq, Int.reduceEq, reduceIte, zU, zT, getC, Bool.and_true, List.length_map, List.length_nil, List.length_cons, List.nil_append]
      simp [Wd.e, setHouse]

theorem i_DeskNew : φ_dr [] = some deskNew.e := by rw [q_dr]; rfl
theorem i_HouseNew : φ_cn [.int .i64 id, .int .i64 room] =
    some (if in_ id 1 3 && in_ room 0 9 then (⟨id, true, room, ⟨[], 0⟩⟩ : House).e ++ [.bool true] else (⟨0, false, 0, ⟨[], 0⟩⟩ : House).e ++ [.bool false]) := by
  rw [q_cn]
  simp (disch := first | assumption | omega | (simp only [List.length_append, List.length_map, List.length_cons, List.length_nil]; omega)) only [F_cn, i_isHouse, i_in, Int.reduceEq, reduceIte, zU, zT, getC, Bool.and_true, List.length_map, List.length_nil, List.length_cons, List.nil_append]
  cases in_ id 1 3 <;> cases in_ room 0 9 <;> rfl
theorem i_WorldNew {rooms : List Int} (hL : rooms.length ≤ 1099511627775) : φ_cr [.list (rooms.map eI)] = some (((worldNew rooms).getD wd0).e ++ [.bool (worldNew rooms).isSome]) := by
  rw [q_cr]
  simp (disch := first | assumption | omega | (simp only [List.length_append, List.length_map, List.length_cons, List.length_nil]; omega)) only [F_cr, i_DeskNew, Desk.e, deskNew, Int.reduceEq, reduceIte, zU, zT, getC, Bool.and_true, List.length_map, List.length_nil, List.length_cons, List.nil_append]
  by_cases h3 : ((rooms.length : Nat) : Int) = 3
  case neg =>
    have : worldNew rooms = none := by unfold worldNew; rw [if_neg]; omega
    simp [h3, this, Wd.e, wd0]
  have h3' : rooms.length = 3 := by omega
  simp only [h3, if_true]
  have key := iter_list0 (l := rooms) (F := fun ps => L_cr_0 (rooms.map eI) true [] 0 [] 3 ((getC ps 0).toInt) ((getC ps 1).toList)) (enc := fun i (s : List House) => [.int .i64 i, .list (s.map House.e)])
    (res := fun xs i s => .ret (((if xs.all (fun n => in_ n 0 9) = true then some (⟨deskNew, s ++ nh i xs, []⟩ : Wd) else none).getD wd0).e ++ [.bool (if xs.all (fun n => in_ n 0 9) = true then some (⟨deskNew, s ++ nh i xs, []⟩ : Wd) else none).isSome])) (fun i s => s.length = i) (s := []) (by simp) ?_ ?_
  · have key : iterD _ [C.int .i64 0, C.list []] = _ := key
    simp only [List.map_nil] at key ⊢
    rw [key]
    have : (if rooms.all (fun n => in_ n 0 9) = true then some (⟨deskNew, [] ++ nh 0 rooms, []⟩ : Wd) else none) = worldNew rooms := by
      unfold worldNew newHouses
      rw [nh_eq]; simp [h3']
    rw [this]; rfl
  · intro i x xs s hx hs
    have hi := (List.getElem?_eq_some_iff.1 hx).1
    have hi' : (i : Int) < 3 := by omega
    simp only [L_cr_0, getC, C.toInt_int, C.toList_list, iteD_dec, hi', if_true, row_I hx, eI]
    simp (disch := first | assumption | omega | (simp only [List.length_append, List.length_map, List.length_cons, List.length_nil]; omega)) only [wrap_nat, i_HouseNew]
    have hid : in_ ((i + 1 : Nat) : Int) 1 3 = true := in_iff.2 (by omega)
    simp only [hid, Bool.true_and]
    cases hok : in_ x 0 9 with
    | true =>
      simp only [House.e, List.cons_append, List.nil_append, cd_ibilib, getC, C.toInt_int, C.toList_list, C.toBool_bool, List.map_nil, Bool.not_true, iteD_ff, if_true]
      rw [whenD_b (by simp [LMAX_eq]; omega)]
      refine .inl ⟨s ++ [⟨((i + 1 : Nat) : Int), true, x, ⟨[], 0⟩⟩], by simp [House.e], by simp [hs], ?_⟩
      simp [nh, hok]
    | false =>
      refine .inr ⟨_, rfl, ?_⟩
      simp only [List.all_cons, hok, Bool.false_and, Bool.false_eq_true, if_false]; rfl
  · intro s hs
    have h : ¬ ((rooms.length : Int) < 3) := by omega
    simp only [L_cr_0, getC, C.toInt_int, C.toList_list, iteD_dec, h, if_false]
    simp [upD, nh, Wd.e, deskNew]
end
end Dx


/- What the program's desk says; its worlds, and how they go. -/
namespace Dx
open Go

section
variable {up b : Bool} {rs : List Rec} {f : Int} {td : List Word} {k h t m keep : Int} {ms : List Int} {id room : Int} {hs : List House} {ns : List Word}

theorem words_in {r : List (List C)} {i : Nat} {x12 x13 : Int} (hi : i ≤ 100) (hm : ms.length ≤ 3) (hL : td.length ≤ 1099511627775) (h14 : b = true → x13 = ansOf x12) {acc : List Word} (ha : acc.length ≤ 300) :
    iterD (fun ps => L_bh_0 up r f (td.map Word.e) ((i : Nat) : Int) (ms.map eI) x12 x13 b ((ms.length : Nat) : Int) ((getC ps 0).toInt) ((getC ps 1).toList)) [.int .i64 0, .list (acc.map Word.e)] =
      some (.jump [.int .i64 ((i + 1 : Nat) : Int), .list ((acc ++ if b then tripSays td x12 ((i + 1 : Nat) : Int) 1 ms else []).map Word.e)]) := by
  have key := iter_list0 (l := ms) (F := fun ps => L_bh_0 up r f (td.map Word.e) ((i : Nat) : Int) (ms.map eI) x12 x13 b ((ms.length : Nat) : Int) ((getC ps 0).toInt) ((getC ps 1).toList)) (enc := fun j (s : List Word) => [.int .i64 j, .list (s.map Word.e)])
    (res := fun xs j s => .jump [.int .i64 ((i + 1 : Nat) : Int), .list ((s ++ if b then tripSays td x12 ((i + 1 : Nat) : Int) ((j + 1 : Nat) : Int) xs else []).map Word.e)]) (fun j s => s.length ≤ 300 + j) (s := acc) (by omega) ?_ ?_
  · have key : iterD _ [C.int .i64 0, C.list (acc.map Word.e)] = _ := key
    rw [key]; rfl
  · intro j x xs s hx hs
    have hj := (List.getElem?_eq_some_iff.1 hx).1
    have hj' : (j : Int) < (ms.length : Nat) := by omega
    have e1 : ((j + 1 : Nat) : Int) + 1 = ((j + 1 + 1 : Nat) : Int) := by omega
    have hc : s.length + 1 ≤ 1099511627776 := by omega
    simp (disch := first | assumption | omega | (simp only [List.length_append, List.length_map, List.length_cons, List.length_nil]; omega)) only [L_bh_0, row_I hx, eI, wrap_nat, hj', if_true, i_told, Int.reduceEq, reduceIte, zU, zT, getC, Bool.and_true, List.length_map, List.length_nil, List.length_cons, List.nil_append]
    cases b with
    | false =>
      exact .inl ⟨s, by simp, by omega, by simp⟩
    | true =>
      have h13 := h14 rfl
      simp only [tripSays, wordTo, e1, if_true]
      rw [h13]
      by_cases h0 : x = 0
      · simp only [h0, if_true, true_or, List.nil_append]
        exact .inl ⟨s, rfl, by omega, rfl⟩
      · simp only [h0, if_false, false_or]
        cases hcn : td.contains ⟨ansOf x12, ((j + 1 : Nat) : Int), ((i + 1 : Nat) : Int), 0⟩ with
        | true =>
          simp only [iteD_tt, if_true, List.nil_append]
          exact .inl ⟨s, rfl, by omega, rfl⟩
        | false =>
          simp only [iteD_ff, Bool.false_eq_true, if_false]
          by_cases h1 : x12 = 1
          · subst h1
            simp only [if_true, iteD_tt]
            exact .inl ⟨s ++ [⟨1, ((j + 1 : Nat) : Int), ((i + 1 : Nat) : Int), x⟩], by simp [Word.e], by simp; omega, by simp⟩
          · simp only [h1, if_false]
            simp only [iteD_tt]
            exact .inl ⟨s ++ [⟨x12, ((j + 1 : Nat) : Int), ((i + 1 : Nat) : Int), 0⟩], by simp [Word.e], by simp; omega, by simp⟩
  · intro s hs
    have h : ¬ ((ms.length : Int) < (ms.length : Nat)) := by omega
    simp (disch := first | assumption | omega | (simp only [List.length_append, List.length_map, List.length_cons, List.length_nil]; omega)) only [L_bh_0, h, if_false, wrap_nat, Int.reduceEq, reduceIte, zU, zT, getC, Bool.and_true, List.length_map, List.length_nil, List.length_cons, List.nil_append]
    cases b <;> simp [upD, tripSays]

theorem i_words (hd : DkOk ⟨up, ⟨rs, f⟩, td⟩) : φ_bh [.bool up, .list (rs.map Rec.e), .int .i64 f, .list (td.map Word.e)] = some [.list ((dwords ⟨up, ⟨rs, f⟩, td⟩).map Word.e)] := by
  rw [q_bh]
  have hS := hd.lg.S
  have hS' : LgS ⟨rs, f⟩ := hS
  have h1 : 0 ≤ f := hd.lg.lo
  have h2 : f ≤ rs.length := hd.lg.hi
  have hT : TrOk (ltrips ⟨rs, f⟩ true) := hd.trOk true
  have htl : td.length ≤ 1099511627775 := by have := hd.tdlen; simp only at this; omega
  cases up with
  | false => simp [F_bh, dwords]
  | true =>
    simp (disch := first | assumption | omega | (simp only [List.length_append, List.length_map, List.length_cons, List.length_nil]; omega)) only [F_bh, i_trips hS' (fun _ => ⟨h1, h2⟩), Int.reduceEq, reduceIte, zU, zT, getC, Bool.and_true, List.length_map, List.length_nil, List.length_cons, List.nil_append]
    have ed : dwords ⟨true, ⟨rs, f⟩, td⟩ = allSay td 1 (ltrips ⟨rs, f⟩ true) := rfl
    rw [ed]
    generalize ltrips ⟨rs, f⟩ true = l at hT
    have hl6 := hT.len
    have key := iter_list0 (l := l) (F := fun ps => L_bh_1 true (rs.map Rec.e) f (td.map Word.e) (l.map Trip.e) ((l.length : Nat) : Int) ((getC ps 0).toInt) ((getC ps 1).toList)) (enc := fun j (s : List Word) => [.int .i64 j, .list (s.map Word.e)])
      (res := fun xs j s => .ret [.list ((s ++ allSay td ((j + 1 : Nat) : Int) xs).map Word.e)]) (fun j s => s.length ≤ 3 * j) (s := []) (by simp) ?_ ?_
    · have key : iterD _ [C.int .i64 0, C.list []] = _ := key
      rw [key]; rfl
    · intro j x xs s hx hs
      have hj := (List.getElem?_eq_some_iff.1 hx).1
      have hj' : (j : Int) < (l.length : Nat) := by omega
      have hxo := tripOk_iff.1 (hT.ok x (List.mem_of_getElem? hx))
      have hm3 := manyOk_len hxo.1
      have e1 : ((j + 1 : Nat) : Int) + 1 = ((j + 1 + 1 : Nat) : Int) := by omega
      obtain ⟨hx1, hx2⟩ := hxo.2
      simp (disch := first | assumption | omega | (simp only [List.length_append, List.length_map, List.length_cons, List.length_nil]; omega)) only [L_bh_1, row_T hx, Trip.e, hj', if_true, Int.reduceEq, reduceIte, zU, zT, getC, Bool.and_true, List.length_map, List.length_nil, List.length_cons, List.nil_append]
      rw [words_in (hi := by omega) (hm := by omega) (hL := htl) (ha := by omega)]
      · refine .inl ⟨s ++ (if (([1, 2, 3] : List Int).any fun k => (x.s : Int) == k) then tripSays td (lookI [(1, 1), (2, 2), (3, 3)] x.s) ((j + 1 : Nat) : Int) 1 x.m else []), rfl, ?_, ?_⟩
        · rw [List.length_append]
          have := tripSays_len td (lookI [(1, 1), (2, 2), (3, 3)] x.s) ((j + 1 : Nat) : Int) x.m 1
          split
          · omega
          · simp; omega
        · simp only [allSay, e1, List.append_assoc]
          have : (if (([1, 2, 3] : List Int).any fun k => (x.s : Int) == k) then tripSays td (lookI [(1, 1), (2, 2), (3, 3)] x.s) ((j + 1 : Nat) : Int) 1 x.m else []) = if x.s > 3 then [] else tripSays td x.s ((j + 1 : Nat) : Int) 1 x.m := by
            have : x.s = 1 ∨ x.s = 2 ∨ x.s = 3 ∨ x.s = 4 ∨ x.s = 5 := by omega
            rcases this with e | e | e | e | e <;> rw [e] <;> simp [lookI]
          rw [this]
      · intro hb
        have : x.s = 1 ∨ x.s = 2 ∨ x.s = 3 ∨ x.s = 4 ∨ x.s = 5 := by omega
        rcases this with e | e | e | e | e <;> rw [e] at hb ⊢ <;> simp [lookI, ansOf] at hb ⊢
    · intro s hs
      have h : ¬ ((l.length : Int) < (l.length : Nat)) := by omega
      simp (disch := first | assumption | omega | (simp only [List.length_append, List.length_map, List.length_cons, List.length_nil]; omega)) only [L_bh_1, h, if_false, Int.reduceEq, reduceIte, zU, zT, getC, Bool.and_true, List.length_map, List.length_nil, List.length_cons, List.nil_append]
      simp [allSay]

end
end Dx


/- The program's worlds: how they go. -/
namespace Dx
open Go

section
variable {up b : Bool} {rs : List Rec} {f : Int} {td : List Word} {k h t m keep : Int} {ms : List Int} {id room : Int} {hs : List House} {ns : List Word}

theorem i_net (ho : WOk ⟨⟨up, ⟨rs, f⟩, td⟩, hs, ns⟩) {k a b : Int} {mc : List (List C)} (hk : k = 4 ∨ k = 5 ∨ k = 6) :
    φ_cl [.bool up, .list (rs.map Rec.e), .int .i64 f, .list (td.map Word.e), .list (hs.map House.e), .list (ns.map Word.e), .int .i64 k, .int .i64 a, .int .i64 b, .list mc] = some (wnet ⟨⟨up, ⟨rs, f⟩, td⟩, hs, ns⟩ ⟨k, a, b, ms⟩).e := by
  rw [q_cl]
  have hnl : ns.length ≤ 14 := ho.nlen
  simp (disch := first | assumption | omega | (simp only [List.length_append, List.length_map, List.length_cons, List.length_nil]; omega)) only [F_cl, i_in, wrap64, Int.reduceEq, reduceIte, zU, zT, getC, Bool.and_true, List.length_map, List.length_nil, List.length_cons, List.nil_append]
  cases hi : in_ a 0 ((ns.length : Nat) - 1) with
  | false =>
    have hn : (if 0 ≤ a then ns[a.toNat]? else none) = none := by
      rw [in_false] at hi
      split
      · rw [List.getElem?_eq_none]; omega
      · rfl
    unfold wnet
    simp only [hn, iteD_ff, iteD_tt, Bool.not_false, retOf_ret]
    rfl
  | true =>
    have hi := in_iff.1 hi
    have hlt : a.toNat < ns.length := by omega
    have hx : ns[a.toNat]? = some ns[a.toNat] := by simp
    have hn : (if 0 ≤ a then ns[a.toNat]? else none) = some ns[a.toNat] := by rw [if_pos hi.1, hx]
    have hxo := ho.ns _ (List.getElem_mem hlt)
    have hrow : ∀ f : List C → Option Out, rowD (.list (ns.map Word.e)) (.int .i64 a) [.int .i64, .int .i64, .int .i64, .int .i64] f = f (ns[a.toNat]).e := fun f => rowD_mapI hi.1 hx rfl
    have hdel : φ_aq [.list (ns.map Word.e), .int .i64 a, .int .i64 (a + 1)] = some [.list ((ns.eraseIdx a.toNat).map Word.e)] := by
      have hc : (decide (0 ≤ a) && (decide (a < a + 1) && decide (a + 1 ≤ ((ns.map Word.e).length : Nat)))) = true := by
        simp only [Bool.and_eq_true, decide_eq_true_eq, List.length_map]; omega
      unfold φ_aq
      simp only [hc]
      have e1 : (a + 1).toNat = a.toNat + 1 := by omega
      rw [e1, List.eraseIdx_eq_take_drop_succ, List.map_append, List.map_take, List.map_drop]
    have hd : decide (0 ≤ a) && decide (a < ((ns.length : Nat) : Int)) = true := by simp; omega
    have hto := ho.take a
    unfold wnet
    simp only [hn]
    generalize hxx : ns[a.toNat] = x at hrow hxo
    have hsn : φ_bm [.bool up, .list (rs.map Rec.e), .int .i64 f, .list (td.map Word.e), .list (hs.map House.e), .list (ns.map Word.e), .int .i64 x.k, .int .i64 x.h, .int .i64 x.t, .int .i64 x.m] = some (wput ⟨⟨up, ⟨rs, f⟩, td⟩, hs, ns⟩ x).e := i_send (by omega)
    have hto' : WOk ⟨⟨up, ⟨rs, f⟩, td⟩, hs, ns.eraseIdx a.toNat⟩ := hto
    have hh := hto'.hear hxo
    have hhe := i_heard (k := x.k) (h := x.h) (t := x.t) (m := x.m) hto' hxo
    have etk : wtake ⟨⟨up, ⟨rs, f⟩, td⟩, hs, ns⟩ a = ⟨⟨up, ⟨rs, f⟩, td⟩, hs, ns.eraseIdx a.toNat⟩ := rfl
    simp only [etk]
    have hw : IntKind.wrap .i64 (a + 1) = a + 1 := wrap64 (by omega) (by omega)
    rcases hk with e | e | e
    · subst e
      simp (disch := first | assumption | omega | (simp only [List.length_append, List.length_map, List.length_cons, List.length_nil]; omega)) only [J_cl_0, hrow, hd, Word.e, Int.reduceEq, reduceIte, zU, zT, getC, Bool.and_true, List.length_map, List.length_nil, List.length_cons, List.nil_append]
      rw [hw, hdel]
      simp only [cd_l, getC, C.toList_list]
      rw [hhe]
      have ex : (⟨x.k, x.h, x.t, x.m⟩ : Word) = x := rfl
      rw [ex]
      generalize whear (⟨⟨up, ⟨rs, f⟩, td⟩, hs, ns.eraseIdx a.toNat⟩ : Wd) x = q at hh ⊢
      obtain ⟨q1, q2⟩ := q
      cases q2 with
      | none =>
        simp only [oW, Word.e, Wd.e, List.cons_append, List.nil_append, Option.isSome_none]
        rw [callD_ok rfl]
        rfl
      | some y =>
        have hq : WOk q1 := hh.1
        have hql := hq.nlen
        have hsn2 : φ_bm [.bool q1.dk.up, .list (q1.dk.lg.rs.map Rec.e), .int .i64 q1.dk.lg.f, .list (q1.dk.td.map Word.e), .list (q1.hs.map House.e), .list (q1.ns.map Word.e), .int .i64 y.k, .int .i64 y.h, .int .i64 y.t, .int .i64 y.m] = some (wput q1 y).e := i_send (ns := q1.ns) (by omega)
        simp only [oW, Word.e, Wd.e, List.cons_append, List.nil_append, Option.isSome_some, Option.getD_some]
        rw [callD_ok rfl]
        simp only [getC, C.toBool_bool, C.toList_list, C.toInt_int, iteD_tt]
        rw [hsn2]
        simp only [Wd.e]
        rw [callD_ok rfl]
        rfl
    · subst e
      simp (disch := first | assumption | omega | (simp only [List.length_append, List.length_map, List.length_cons, List.length_nil]; omega)) only [J_cl_0, hrow, hd, Word.e, Int.reduceEq, reduceIte, zU, zT, getC, Bool.and_true, List.length_map, List.length_nil, List.length_cons, List.nil_append]
      rw [hw, hdel]
      rfl
    · subst e
      simp (disch := first | assumption | omega | (simp only [List.length_append, List.length_map, List.length_cons, List.length_nil]; omega)) only [J_cl_0, hrow, hd, Word.e, Int.reduceEq, reduceIte, zU, zT, getC, Bool.and_true, List.length_map, List.length_nil, List.length_cons, List.nil_append]
      rw [hsn]
      simp only [Wd.e]
      rw [callD_ok rfl]
      rfl

theorem row_Wi {l : List Word} {i : Int} {x : Word} (h0 : 0 ≤ i) (h : l[i.toNat]? = some x) {kk : IntKind} {f : List C → Option Out} : rowD (.list (l.map Word.e)) (.int kk i) [.int .i64, .int .i64, .int .i64, .int .i64] f = f x.e := rowD_mapI h0 h rfl

theorem dwrite_no {d : Desk} {r : Rec} (h : dwriteB d r = false) : dwrite d r = d := by
  unfold dwriteB at h
  unfold dwrite
  split
  · rename_i hc
    simp only [Bool.and_eq_true] at hc
    simp only [hc.1, hc.2, Bool.true_and] at h
    have : d.lg.rs.length ≥ 40 := by simpa [laddB] using h
    simp [ladd, this]
  · rfl

theorem i_do (ho : WOk ⟨⟨up, ⟨rs, f⟩, td⟩, hs, ns⟩) {k a b : Int} (hm : ms.length ≤ 1099511627776) :
    φ_cy [.bool up, .list (rs.map Rec.e), .int .i64 f, .list (td.map Word.e), .list (hs.map House.e), .list (ns.map Word.e), .int .i64 k, .int .i64 a, .int .i64 b, .list (ms.map eI)] = some (wdo ⟨⟨up, ⟨rs, f⟩, td⟩, hs, ns⟩ ⟨k, a, b, ms⟩).e := by
  rw [q_cy]
  have hd : DkOk ⟨up, ⟨rs, f⟩, td⟩ := ho.dk
  have hdS : DkS ⟨up, ⟨rs, f⟩, td⟩ := hd.S
  have hdo := deskOk_iff.2 hd
  have hnl : ns.length ≤ 14 := ho.nlen
  unfold F_cy
  by_cases h1 : k = 1
  · subst h1
    simp only [BEq.rfl, iteD_tt, i_DeskBegin hdS hm, hdo, Bool.true_and]
    have ew : wdo ⟨⟨up, ⟨rs, f⟩, td⟩, hs, ns⟩ ⟨1, a, b, ms⟩ = ⟨dbegin ⟨up, ⟨rs, f⟩, td⟩ ms, hs, ns⟩ := rfl
    rw [ew]
    unfold dbegin
    cases hr : recOk (dbeginR ⟨up, ⟨rs, f⟩, td⟩ ms) with
    | false => rfl
    | true =>
      simp only [if_true]
      cases hb : dwriteB ⟨up, ⟨rs, f⟩, td⟩ (dbeginR ⟨up, ⟨rs, f⟩, td⟩ ms) with
      | false => rw [dwrite_no hb]; rfl
      | true => rfl
  by_cases h2 : k = 2
  · subst h2
    simp only [Int.reduceBEq, iteD_ff, iteD_tt, i_DeskGive hdS, hdo, Bool.true_and]
    have ew : wdo ⟨⟨up, ⟨rs, f⟩, td⟩, hs, ns⟩ ⟨2, a, b, ms⟩ = ⟨dgive ⟨up, ⟨rs, f⟩, td⟩ a, hs, ns⟩ := rfl
    rw [ew]
    unfold dgive
    cases hr : in_ a 1 6 with
    | false => rfl
    | true =>
      simp only [if_true]
      cases hb : dwriteB ⟨up, ⟨rs, f⟩, td⟩ ⟨6, a, []⟩ with
      | false => rw [dwrite_no hb]; rfl
      | true => rfl
  by_cases h3 : k = 3
  · subst h3
    have hwl : (dwords ⟨up, ⟨rs, f⟩, td⟩).length ≤ 18 := dwords_len hd
    simp (disch := first | assumption | omega | (simp only [List.length_append, List.length_map, List.length_cons, List.length_nil]; omega)) only [Int.reduceBEq, i_words hd, i_in, wrap64, Int.reduceEq, reduceIte, zU, zT, getC, Bool.and_true, List.length_map, List.length_nil, List.length_cons, List.nil_append]
    have ew : wdo ⟨⟨up, ⟨rs, f⟩, td⟩, hs, ns⟩ ⟨3, a, b, ms⟩ = wdesk ⟨⟨up, ⟨rs, f⟩, td⟩, hs, ns⟩ ⟨3, a, b, ms⟩ := rfl
    rw [ew]
    unfold wdesk
    simp only [Int.reduceEq, if_false, if_true]
    generalize dwords ⟨up, ⟨rs, f⟩, td⟩ = l at hwl
    cases hi : in_ a 0 ((l.length : Nat) - 1) with
    | false =>
      have hn : (if 0 ≤ a then l[a.toNat]? else none) = none := by
        rw [in_false] at hi
        split
        · rw [List.getElem?_eq_none]; omega
        · rfl
      rw [hn]; rfl
    | true =>
      have hi := in_iff.1 hi
      have hlt : a.toNat < l.length := by omega
      have hx : l[a.toNat]? = some l[a.toNat] := by simp
      have hn : (if 0 ≤ a then l[a.toNat]? else none) = some l[a.toNat] := by rw [if_pos hi.1, hx]
      rw [hn]
      simp only [iteD_tt]
      rw [row_Wi hi.1 hx]
      generalize l[a.toNat] = x
      simp only [Word.e, getC, C.toInt_int]
      have hsn : φ_bm [.bool up, .list (rs.map Rec.e), .int .i64 f, .list (td.map Word.e), .list (hs.map House.e), .list (ns.map Word.e), .int .i64 x.k, .int .i64 x.h, .int .i64 x.t, .int .i64 x.m] = some (wput ⟨⟨up, ⟨rs, f⟩, td⟩, hs, ns⟩ x).e := i_send (by omega)
      rw [hsn]
      simp only [Wd.e]
      rw [callD_ok rfl]
      rfl
  have e1 : (k == 1) = false := by simpa using h1
  have e2 : (k == 2) = false := by simpa using h2
  have e3 : (k == 3) = false := by simpa using h3
  have ew : wdo ⟨⟨up, ⟨rs, f⟩, td⟩, hs, ns⟩ ⟨k, a, b, ms⟩ = if k = 4 ∨ k = 5 ∨ k = 6 then wnet ⟨⟨up, ⟨rs, f⟩, td⟩, hs, ns⟩ ⟨k, a, b, ms⟩ else if k = 7 ∨ k = 8 ∨ k = 9 then wnode ⟨⟨up, ⟨rs, f⟩, td⟩, hs, ns⟩ ⟨k, a, b, ms⟩ else ⟨⟨up, ⟨rs, f⟩, td⟩, hs, ns⟩ := by
    unfold wdo; simp only [h1, h2, h3, false_or, if_false]
  rw [ew]
  simp only [e1, e2, e3, iteD_ff]
  by_cases h4 : k = 4 ∨ k = 5 ∨ k = 6
  · rw [if_pos h4]
    have hn := i_net (ms := ms) ho (k := k) (a := a) (b := b) (mc := ms.map eI) h4
    have : joinD (iteD (k == 4) (some (.jump [.bool true])) (iteD (k == 5) (some (.jump [.bool true])) (some (.jump [.bool (k == 6)])))) (fun ps => J_cy_0 up (rs.map Rec.e) f (td.map Word.e) (hs.map House.e) (ns.map Word.e) k a b (ms.map eI) (getC ps 0).toBool) =
        J_cy_0 up (rs.map Rec.e) f (td.map Word.e) (hs.map House.e) (ns.map Word.e) k a b (ms.map eI) true := by
      rcases h4 with e | e | e <;> subst e <;> rfl
    rw [this]
    unfold J_cy_0
    simp only [iteD_tt]
    rw [hn]
    simp only [Wd.e]
    rw [callD_ok rfl]
    rfl
  · rw [if_neg h4]
    simp only [not_or] at h4
    have f4 : (k == 4) = false := by simpa using h4.1
    have f5 : (k == 5) = false := by simpa using h4.2.1
    have f6 : (k == 6) = false := by simpa using h4.2.2
    simp only [f4, f5, f6, iteD_ff, joinD_jump, getC, C.toBool_bool]
    unfold J_cy_0
    simp only [iteD_ff]
    by_cases h7 : k = 7
    · subst h7
      have hn : wnode ⟨⟨up, ⟨rs, f⟩, td⟩, hs, ns⟩ ⟨7, a, b, ms⟩ = wforce ⟨⟨up, ⟨rs, f⟩, td⟩, hs, ns⟩ a := by
        unfold wnode wforce
        cases hi : in_ a 0 3 with
        | true => simp
        | false =>
          rw [in_false] at hi
          have h0 : a ≠ 0 := by omega
          have h1 : in_ a 1 3 = false := by rw [in_false]; omega
          simp [h0, h1]
      simp only [BEq.rfl, iteD_tt, i_eachForce ho, Int.reduceEq, true_or, if_true, hn]
      simp only [Wd.e]
      rw [callD_ok rfl]
      rfl
    by_cases h8 : k = 8
    · subst h8
      have hn : wnode ⟨⟨up, ⟨rs, f⟩, td⟩, hs, ns⟩ ⟨8, a, b, ms⟩ = wnode ⟨⟨up, ⟨rs, f⟩, td⟩, hs, ns⟩ ⟨8, a, b, []⟩ := rfl
      simp only [Int.reduceBEq, iteD_ff, iteD_tt, i_eachFall ho, Int.reduceEq, true_or, or_true, if_true, hn]
      simp only [Wd.e]
      rw [callD_ok rfl]
      rfl
    by_cases h9 : k = 9
    · subst h9
      have hn : wnode ⟨⟨up, ⟨rs, f⟩, td⟩, hs, ns⟩ ⟨9, a, b, ms⟩ = wnode ⟨⟨up, ⟨rs, f⟩, td⟩, hs, ns⟩ ⟨9, a, 0, []⟩ := rfl
      simp only [Int.reduceBEq, iteD_ff, iteD_tt, i_eachRise ho, Int.reduceEq, or_true, if_true, hn]
      simp only [Wd.e]
      rw [callD_ok rfl]
      rfl
    have g7 : (k == 7) = false := by simpa using h7
    have g8 : (k == 8) = false := by simpa using h8
    have g9 : (k == 9) = false := by simpa using h9
    simp only [g7, g8, g9, iteD_ff, h7, h8, h9, or_false, if_false, retOf_ret]
    rfl
theorem i_do' {w : Wd} (ho : WOk w) {e : Ev} (hm : e.m.length ≤ 1099511627776) :
    φ_cy [.bool w.dk.up, .list (w.dk.lg.rs.map Rec.e), .int .i64 w.dk.lg.f, .list (w.dk.td.map Word.e), .list (w.hs.map House.e), .list (w.ns.map Word.e), .int .i64 e.k, .int .i64 e.a, .int .i64 e.b, .list (e.m.map eI)] = some (wdo w e).e :=
  i_do (up := w.dk.up) (rs := w.dk.lg.rs) (f := w.dk.lg.f) (td := w.dk.td) (hs := w.hs) (ns := w.ns) ho hm

theorem i_WorldPlay {rooms : List Int} {es : List Ev} (hr : rooms.length ≤ 1099511627775) (hl : es.length ≤ 1099511627776) (hs : ∀ e ∈ es, EvS e) :
    φ_by [.list (rooms.map eI), .list (es.map Ev.e)] = some (((worldPlay rooms es).getD wd0).e ++ [.bool (worldPlay rooms es).isSome]) := by
  rw [q_by]
  have hwn := i_WorldNew (rooms := rooms) hr
  simp only [Wd.e, List.cons_append, List.nil_append] at hwn
  simp (disch := first | assumption | omega | (simp only [List.length_append, List.length_map, List.length_cons, List.length_nil]; omega)) only [F_by, hwn, Int.reduceEq, reduceIte, zU, zT, getC, Bool.and_true, List.length_map, List.length_nil, List.length_cons, List.nil_append]
  unfold worldPlay
  cases hw : worldNew rooms with
  | none => simp [Wd.e, wd0]
  | some w0 =>
    have ok0 := worldNew_ok hw
    simp only [Option.isSome_some, Bool.not_true, iteD_tt, iteD_ff, Option.getD_some, Option.map_some]
    by_cases h80 : ((es.length : Nat) : Int) > 80
    · have h80' : es.length > 80 := by omega
      simp [h80, h80', Wd.e, wd0]
    · have h80' : ¬ es.length > 80 := by omega
      simp only [h80, h80', if_false]
      have key := iter_list0 (l := es) (F := fun ps => L_by_0 (es.map Ev.e) ((es.length : Nat) : Int) ((getC ps 0).toInt) ((getC ps 1).toBool) ((getC ps 2).toList) ((getC ps 3).toInt) ((getC ps 4).toList) ((getC ps 5).toList) ((getC ps 6).toList))
        (enc := fun i (w : Wd) => .int .i64 i :: w.e)
        (res := fun xs _ w => .ret ((wplays w xs).e ++ [.bool true])) (fun _ w => WOk w) (s := w0) ok0 ?_ ?_
      · have key : iterD _ (C.int .i64 0 :: w0.e) = _ := key
        simp only [Wd.e] at key
        rw [key]; rfl
      · intro i x xs w hx ow
        have hi := (List.getElem?_eq_some_iff.1 hx).1
        have hi' : (i : Int) < (es.length : Nat) := by omega
        have hx3 := hs x (List.mem_of_getElem? hx)
        have hxm : x.m.length ≤ 1099511627776 := by unfold EvS at hx3; omega
        simp only [Wd.e, getC, C.toInt_int, C.toBool_bool, C.toList_list]
        unfold L_by_0
        simp only [iteD_dec, hi', if_true, row_E hx, Ev.e, getC, C.toInt_int, C.toList_list, i_do' ow hxm]
        simp only [Wd.e, cd_blilll, getC, C.toInt_int, C.toList_list, C.toBool_bool]
        rw [wrap_nat (by omega)]
        exact .inl ⟨wdo w x, rfl, ow.do_ x, rfl⟩
      · intro w ow
        have h : ¬ ((es.length : Int) < (es.length : Nat)) := by omega
        simp only [Wd.e, getC, C.toInt_int, C.toBool_bool, C.toList_list]
        unfold L_by_0
        simp only [iteD_dec, h, if_false]
        rfl
end
end Dx


/- Whether two of the program's data are the same. -/
namespace Dx
open Go

theorem eqLoop {α : Type} [DecidableEq α] {F : List C → Option Out} {a b : List α} (hl : a.length = b.length)
    (hs : ∀ (i : Nat) (x y : α), a[i]? = some x → b[i]? = some y → F [.int .i64 (i : Nat)] = if x = y then some (.jump [.int .i64 ((i + 1 : Nat) : Int)]) else some (.up (.ret [.bool false])))
    (hf : F [.int .i64 ((a.length : Nat) : Int)] = some (.up (.ret [.bool true]))) : iterD F [.int .i64 0] = some (.ret [.bool (decide (a = b))]) := by
  have key := iter_list0 (l := a) (F := F) (enc := fun i (_ : Unit) => [.int .i64 i]) (res := fun xs i _ => .ret [.bool (decide (xs = b.drop i))]) (fun _ _ => True) (s := ()) trivial ?_ ?_
  · have key : iterD _ [C.int .i64 0] = _ := key
    rw [key]; rfl
  · intro i x xs _ hx _
    have hi := (List.getElem?_eq_some_iff.1 hx).1
    have hb : i < b.length := by omega
    have hy : b[i]? = some b[i] := by simp [hb]
    have := hs i x b[i] hx hy
    have hdr := List.drop_eq_getElem_cons hb
    by_cases e : x = b[i]
    · rw [if_pos e] at this
      exact .inl ⟨(), this, trivial, by simp only [hdr, List.cons.injEq, e, true_and, false_and, decide_false]⟩
    · rw [if_neg e] at this
      exact .inr ⟨_, this, by simp only [hdr, List.cons.injEq, e, true_and, false_and, decide_false]⟩
  · intro _ _
    rw [hf, List.drop_of_length_le (by omega)]
    simp

theorem beqI (a b : Int) : (a == b) = decide (a = b) := by by_cases h : a = b <;> simp [h]
theorem bneI (a b : Int) : (a != b) = !decide (a = b) := by by_cases h : a = b <;> simp [h]

section
variable {a b : List Int} {up up' : Bool} {rs rs' : List Rec} {f f' : Int} {td td' : List Word} {k k' t t' id id' room room' h m : Int} {hs hs' : List House} {ns ns' : List Word}

theorem n_Ints (ha : a.length ≤ 1099511627776) : φ_es [.list (a.map eI), .list (b.map eI)] = some [.bool (decide (a = b))] := by
  rw [q_es]; unfold F_es
  simp only [List.length_map]
  by_cases hl : a.length = b.length
  · have e : (((a.length : Nat) : Int) != ((b.length : Nat) : Int)) = false := by simp [hl]
    simp only [e, iteD_ff]
    rw [eqLoop hl]
    · rfl
    · intro i x y hx hy
      have hi := (List.getElem?_eq_some_iff.1 hx).1
      have hi' : (i : Int) < (a.length : Nat) := by omega
      simp (disch := first | assumption | omega | (simp only [List.length_append, List.length_map, List.length_cons, List.length_nil]; omega)) only [L_es_0, row_I hx, row_I hy, eI, wrap_nat, hi', if_true, Int.reduceEq, reduceIte, zU, zT, getC, Bool.and_true, List.length_map, List.length_nil, List.length_cons, List.nil_append]
      try (by_cases e : x = y <;> simp [e])
    · have h : ¬ ((a.length : Int) < (a.length : Nat)) := by omega
      simp (disch := first | assumption | omega | (simp only [List.length_append, List.length_map, List.length_cons, List.length_nil]; omega)) only [L_es_0, h, if_false, Int.reduceEq, reduceIte, zU, zT, getC, Bool.and_true, List.length_map, List.length_nil, List.length_cons, List.nil_append]
  · have e : (((a.length : Nat) : Int) != ((b.length : Nat) : Int)) = true := by simp; omega
    have : a ≠ b := fun h => hl (by rw [h])
    simp [e, this]
theorem n_Rec {r r' : Rec} (hr : r.m.length ≤ 1099511627776) : φ_fi [.int .i64 r.k, .int .i64 r.t, .list (r.m.map eI), .int .i64 r'.k, .int .i64 r'.t, .list (r'.m.map eI)] = some [.bool (decide (r = r'))] := by
  rw [q_fi]
  obtain ⟨k, t, m⟩ := r
  obtain ⟨k', t', m'⟩ := r'
  simp (disch := first | assumption | omega | (simp only [List.length_append, List.length_map, List.length_cons, List.length_nil]; omega)) only [F_fi, n_Ints, Int.reduceEq, reduceIte, zU, zT, getC, Bool.and_true, List.length_map, List.length_nil, List.length_cons, List.nil_append]
  by_cases e1 : k = k' <;> by_cases e2 : t = t' <;> simp [e1, e2]
theorem n_Recs (hr : rs.length ≤ 1099511627776) (hm : ∀ r ∈ rs, r.m.length ≤ 1099511627776) : φ_ev [.list (rs.map Rec.e), .list (rs'.map Rec.e)] = some [.bool (decide (rs = rs'))] := by
  rw [q_ev]; unfold F_ev
  simp only [List.length_map]
  by_cases hl : rs.length = rs'.length
  · have e : (((rs.length : Nat) : Int) != ((rs'.length : Nat) : Int)) = false := by simp [hl]
    simp only [e, iteD_ff]
    rw [eqLoop hl]
    · rfl
    · intro i x y hx hy
      have hi := (List.getElem?_eq_some_iff.1 hx).1
      have hi' : (i : Int) < (rs.length : Nat) := by omega
      have hxm := hm x (List.mem_of_getElem? hx)
      simp (disch := first | assumption | omega | (simp only [List.length_append, List.length_map, List.length_cons, List.length_nil]; omega)) only [L_ev_0, row_R hx, row_R hy, Rec.e, wrap_nat, hi', if_true, n_Rec, Int.reduceEq, reduceIte, zU, zT, getC, Bool.and_true, List.length_map, List.length_nil, List.length_cons, List.nil_append]
      try (by_cases e : x = y <;> simp [e])
    · have h : ¬ ((rs.length : Int) < (rs.length : Nat)) := by omega
      simp (disch := first | assumption | omega | (simp only [List.length_append, List.length_map, List.length_cons, List.length_nil]; omega)) only [L_ev_0, h, if_false, Int.reduceEq, reduceIte, zU, zT, getC, Bool.and_true, List.length_map, List.length_nil, List.length_cons, List.nil_append]
  · have e : (((rs.length : Nat) : Int) != ((rs'.length : Nat) : Int)) = true := by simp; omega
    have : rs ≠ rs' := fun h => hl (by rw [h])
    simp [e, this]
theorem n_Log (hl : LgS ⟨rs, f⟩) : φ_fg [.list (rs.map Rec.e), .int .i64 f, .list (rs'.map Rec.e), .int .i64 f'] = some [.bool (decide ((⟨rs, f⟩ : Log) = ⟨rs', f'⟩))] := by
  rw [q_fg]
  have h1 : rs.length ≤ 1099511627776 := by have := hl.1; simp only at this; omega
  have h2 : ∀ r ∈ rs, r.m.length ≤ 1099511627776 := hl.2
  simp (disch := first | assumption | omega | (simp only [List.length_append, List.length_map, List.length_cons, List.length_nil]; omega)) only [F_fg, n_Recs h1 h2, Int.reduceEq, reduceIte, zU, zT, getC, Bool.and_true, List.length_map, List.length_nil, List.length_cons, List.nil_append]
  by_cases e1 : f = f' <;> by_cases e2 : rs = rs' <;> simp [e1, e2]
theorem n_House {x x' : House} (hl : LgS x.lg) : φ_dj [.int .i64 x.id, .bool x.up, .int .i64 x.room, .list (x.lg.rs.map Rec.e), .int .i64 x.lg.f, .int .i64 x'.id, .bool x'.up, .int .i64 x'.room, .list (x'.lg.rs.map Rec.e), .int .i64 x'.lg.f] = some [.bool (decide (x = x'))] := by
  rw [q_dj]
  obtain ⟨id, up, room, ⟨rs, f⟩⟩ := x
  obtain ⟨id', up', room', ⟨rs', f'⟩⟩ := x'
  have key : decide ((⟨id, up, room, ⟨rs, f⟩⟩ : House) = ⟨id', up', room', ⟨rs', f'⟩⟩) = (decide (id = id') && ((up == up') && (decide (room = room') && decide ((⟨rs, f⟩ : Log) = ⟨rs', f'⟩)))) := by
    rw [Bool.eq_iff_iff]; simp
  simp (disch := first | assumption | omega | (simp only [List.length_append, List.length_map, List.length_cons, List.length_nil]; omega)) only [F_dj, n_Log hl, key, Int.reduceEq, reduceIte, zT, getC, Bool.and_true, List.length_map, List.length_nil, List.length_cons, List.nil_append]
  rw [beqI id, beqI room]
  generalize decide (id = id') = p1
  generalize (up == up') = p2
  generalize decide (room = room') = p3
  generalize decide ((⟨rs, f⟩ : Log) = ⟨rs', f'⟩) = p4
  cases p1 <;> cases p2 <;> cases p3 <;> rfl
theorem n_Words (hl : td.length ≤ 1099511627776) : φ_do [.list (td.map Word.e), .list (td'.map Word.e)] = some [.bool (decide (td = td'))] := by
  rw [q_do]; unfold F_do
  simp only [List.length_map]
  by_cases hl' : td.length = td'.length
  · have e : (((td.length : Nat) : Int) != ((td'.length : Nat) : Int)) = false := by simp [hl']
    simp only [e, iteD_ff]
    rw [eqLoop hl']
    · rfl
    · intro i x y hx hy
      have hi := (List.getElem?_eq_some_iff.1 hx).1
      have hi' : (i : Int) < (td.length : Nat) := by omega
      have hb := word_beq x y
      simp (disch := first | assumption | omega | (simp only [List.length_append, List.length_map, List.length_cons, List.length_nil]; omega)) only [L_do_0, row_W hx, row_W hy, Word.e, wrap_nat, hi', if_true, hb, Int.reduceEq, reduceIte, zU, zT, getC, Bool.and_true, List.length_map, List.length_nil, List.length_cons, List.nil_append]
      try (by_cases e : x = y <;> simp [e])
    · have h : ¬ ((td.length : Int) < (td.length : Nat)) := by omega
      simp (disch := first | assumption | omega | (simp only [List.length_append, List.length_map, List.length_cons, List.length_nil]; omega)) only [L_do_0, h, if_false, Int.reduceEq, reduceIte, zU, zT, getC, Bool.and_true, List.length_map, List.length_nil, List.length_cons, List.nil_append]
  · have e : (((td.length : Nat) : Int) != ((td'.length : Nat) : Int)) = true := by simp; omega
    have : td ≠ td' := fun h => hl' (by rw [h])
    simp [e, this]
theorem n_Desk (hs : DkS ⟨up, ⟨rs, f⟩, td⟩) : φ_ei [.bool up, .list (rs.map Rec.e), .int .i64 f, .list (td.map Word.e), .bool up', .list (rs'.map Rec.e), .int .i64 f', .list (td'.map Word.e)] = some [.bool (decide ((⟨up, ⟨rs, f⟩, td⟩ : Desk) = ⟨up', ⟨rs', f'⟩, td'⟩))] := by
  rw [q_ei]
  have h1 : LgS ⟨rs, f⟩ := hs.lg
  have h2 : td.length ≤ 1099511627776 := by have := hs.td; simp only at this; omega
  have key : decide ((⟨up, ⟨rs, f⟩, td⟩ : Desk) = ⟨up', ⟨rs', f'⟩, td'⟩) = ((up == up') && (decide ((⟨rs, f⟩ : Log) = ⟨rs', f'⟩) && decide (td = td'))) := by
    rw [Bool.eq_iff_iff]; simp
  simp (disch := first | assumption | omega | (simp only [List.length_append, List.length_map, List.length_cons, List.length_nil]; omega)) only [F_ei, n_Log h1, n_Words h2, key, Int.reduceEq, reduceIte, zT, getC, Bool.and_true, List.length_map, List.length_nil, List.length_cons, List.nil_append]
  generalize (up == up') = p1
  generalize decide ((⟨rs, f⟩ : Log) = ⟨rs', f'⟩) = p2
  generalize decide (td = td') = p3
  cases p1 <;> cases p2 <;> rfl
theorem n_World {w w' : Wd} (hd : DkS w.dk) (hh : ∀ x ∈ w.hs, LgS x.lg) (hhl : w.hs.length ≤ 1000) (hn : w.ns.length ≤ 1000) :
    φ_dl [.bool w.dk.up, .list (w.dk.lg.rs.map Rec.e), .int .i64 w.dk.lg.f, .list (w.dk.td.map Word.e), .list (w.hs.map House.e), .list (w.ns.map Word.e), .bool w'.dk.up, .list (w'.dk.lg.rs.map Rec.e), .int .i64 w'.dk.lg.f, .list (w'.dk.td.map Word.e), .list (w'.hs.map House.e), .list (w'.ns.map Word.e)] = some [.bool (decide (w = w'))] := by
  rw [q_dl]
  obtain ⟨⟨up, ⟨rs, f⟩, td⟩, hs, ns⟩ := w
  obtain ⟨⟨up', ⟨rs', f'⟩, td'⟩, hs', ns'⟩ := w'
  simp only at hh hhl hn hd
  simp (disch := first | assumption | omega | (simp only [List.length_append, List.length_map, List.length_cons, List.length_nil]; omega)) only [F_dl, n_Desk hd, n_Words, Int.reduceEq, reduceIte, zU, zT, getC, Bool.and_true, List.length_map, List.length_nil, List.length_cons, List.nil_append]
  by_cases e1 : (⟨up, ⟨rs, f⟩, td⟩ : Desk) = ⟨up', ⟨rs', f'⟩, td'⟩
  case neg => simp [e1]
  by_cases e2 : ns = ns'
  case neg => simp [e2]
  simp only [e1, e2, decide_true, iteD_tt]
  by_cases hl : hs.length = hs'.length
  · have e : (((hs.length : Nat) : Int) != ((hs'.length : Nat) : Int)) = false := by simp [hl]
    have e' : ((hs.length : Nat) : Int) = ((hs'.length : Nat) : Int) := by omega
    simp only [e', if_true]
    rw [eqLoop (a := hs) (b := hs') hl]
    · simp
    · intro i x y hx hy
      have hi := (List.getElem?_eq_some_iff.1 hx).1
      have hi' : (i : Int) < (hs.length : Nat) := by omega
      have hxm := hh x (List.mem_of_getElem? hx)
      simp (disch := first | assumption | omega | (simp only [List.length_append, List.length_map, List.length_cons, List.length_nil]; omega)) only [L_dl_0, row_Hs hx, row_Hs hy, House.e, wrap_nat, hi', if_true, n_House hxm, Int.reduceEq, reduceIte, zU, zT, getC, Bool.and_true, List.length_map, List.length_nil, List.length_cons, List.nil_append]
      try (by_cases e : x = y <;> simp [e])
    · have h : ¬ ((hs.length : Int) < (hs.length : Nat)) := by omega
      simp (disch := first | assumption | omega | (simp only [List.length_append, List.length_map, List.length_cons, List.length_nil]; omega)) only [L_dl_0, h, if_false, Int.reduceEq, reduceIte, zU, zT, getC, Bool.and_true, List.length_map, List.length_nil, List.length_cons, List.nil_append]
  · have e' : ¬ ((hs.length : Nat) : Int) = ((hs'.length : Nat) : Int) := by omega
    have : hs ≠ hs' := fun h => hl (by rw [h])
    simp [e', this]
theorem WOk.n {w w' : Wd} (ho : WOk w) :
    φ_dl [.bool w.dk.up, .list (w.dk.lg.rs.map Rec.e), .int .i64 w.dk.lg.f, .list (w.dk.td.map Word.e), .list (w.hs.map House.e), .list (w.ns.map Word.e), .bool w'.dk.up, .list (w'.dk.lg.rs.map Rec.e), .int .i64 w'.dk.lg.f, .list (w'.dk.td.map Word.e), .list (w'.hs.map House.e), .list (w'.ns.map Word.e)] = some [.bool (decide (w = w'))] :=
  n_World ho.dk.S (fun x hx => by
    obtain ⟨i, hi⟩ := List.mem_iff_getElem?.1 hx
    exact (ho.hs i x hi).1.lg.S) (by rw [ho.len]; omega) (by have := ho.nlen; omega)
end
end Dx


/- Laws on worlds: how they begin. -/
namespace Dx
open Go

def Bytes (code : List Int) : Prop := ∀ b ∈ code, 0 ≤ b ∧ b ≤ 255

/-- What is known where a law on worlds goes on. -/
def wEnv (code : List Int) (rooms : List Int) (es : List Ev) (w : Wd) : List C :=
  [.list (code.map eB), .int .i64 code.length, .bool false, .list (rooms.map eI), .list (es.map Ev.e),
   .bool w.dk.up, .list (w.dk.lg.rs.map Rec.e), .int .i64 w.dk.lg.f, .list (w.dk.td.map Word.e), .list (w.hs.map House.e), .list (w.ns.map Word.e), .bool true,
   .bool w.dk.up, .list (w.dk.lg.rs.map Rec.e), .int .i64 w.dk.lg.f, .list (w.dk.td.map Word.e), .list (w.hs.map House.e), .list (w.ns.map Word.e), .bool true, .bool false, .bool true, .bool false, .bool false]

theorem den_letp (Φ : Phi) (p : Prim) (args : List Cell) (t : Tree) (env : List C) : den Φ (.letp p args t) env = den Φ t (env ++ [p.den (dens env args)]) := by rw [den]
theorem den_ite (Φ : Phi) (a : At) (t e : Tree) (env : List C) : den Φ (.ite a t e) env = iteD (a.den env).toBool (den Φ t env) (den Φ e env) := by rw [den]
theorem den_ret (Φ : Phi) (xs : List Cell) (env : List C) : den Φ (.ret xs) env = some (.ret (dens env xs)) := by rw [den]

theorem worldHead_den {Φ : Phi} {t : Tree} {code : List Int} (h0 : Φ 0 = φ_av) (h1 : Φ 1 = φ_by) (h2 : Φ 2 = φ_bt) (h3 : Φ 3 = φ_dl)
    (hl : code.length ≤ 1099511627776) (hc : Bytes code)
    (ht : ∀ (rooms : List Int) (es : List Ev) (w : Wd), worldPlay rooms es = some w → rooms.length ≤ 4 → es.length ≤ 81 → (∀ e ∈ es, EvS e) → retOf (den Φ t (wEnv code rooms es w)) = some [.bool true]) :
    retOf (den Φ (worldHead t) [.list (code.map eB)]) = some [.bool true] := by
  obtain ⟨rooms, es, hd, hr, hel, hes⟩ := m_DrawWorldPlay hl hc
  have p1 := i_WorldPlay (rooms := rooms) (es := es) (by omega) (by omega) hes
  have p2 := m_WorldPlay (rooms := rooms) (es := es) (by omega) (by omega) hes
  have hself := n_World (w := wd0) (w' := wd0) ⟨⟨by simp [wd0], by simp [wd0]⟩, by simp [wd0]⟩ (by simp [wd0]) (by simp [wd0]) (by simp [wd0])
  unfold worldHead
  rw [den_letp, den_letp, den_ite]
  simp only [dens, Cell.den, At.den, Prim.den, List.cons_append, List.nil_append, getC, C.toInt_int, C.toList_list, C.toBool_bool, List.length_map]
  by_cases hbig : ((code.length : Nat) : Int) > 1048576
  · simp only [hbig, decide_true, iteD_tt, den_ret, dens, Cell.den, At.den, C.toBool_bool]; rfl
  simp only [hbig, decide_false, iteD_ff]
  rw [den_call, h0]
  simp only [dens, Cell.den, At.den, getC, C.toList_list, hd]
  rw [callD_ok rfl, den_call, h1]
  simp only [dens, Cell.den, At.den, List.cons_append, List.nil_append, getC, C.toList_list, p1]
  cases hw : worldPlay rooms es with
  | none =>
    rw [hw] at p2
    simp only [Option.getD_none, Option.isSome_none, Wd.e, List.cons_append, List.nil_append] at p2 ⊢
    rw [callD_ok rfl, den_call, h2]
    simp only [dens, Cell.den, At.den, List.cons_append, List.nil_append, getC, C.toList_list, p2]
    rw [callD_ok rfl]
    simp only [den_letp, den_ite, den_call, h3, dens, Cell.den, At.den, Prim.den, List.cons_append, List.nil_append, getC, C.toInt_int, C.toList_list, C.toBool_bool, hself]
    simp only [BEq.rfl, Bool.not_true, iteD_ff, decide_true, cd_b, getC, C.toBool_bool, Bool.not_false, iteD_tt, List.cons_append, List.nil_append, den_letp, den_ite, den_call, den_ret, dens, Cell.den, At.den, Prim.den, h3, hself]
    rfl
  | some w =>
    have ow : WOk w := by
      unfold worldPlay at hw
      split at hw
      · cases hw
      · simp only [Option.map_eq_some_iff] at hw
        obtain ⟨w0, hw0, rfl⟩ := hw
        exact (worldNew_ok hw0).plays es
    have hn := ow.n (w' := w)
    have key := ht rooms es w hw hr hel hes
    rw [hw] at p2
    simp only [Option.getD_some, Option.isSome_some, Wd.e, List.cons_append, List.nil_append] at p2 ⊢
    rw [callD_ok rfl, den_call, h2]
    simp only [dens, Cell.den, At.den, List.cons_append, List.nil_append, getC, C.toList_list, p2]
    rw [callD_ok rfl]
    simp only [den_letp, den_ite, den_call, h3, dens, Cell.den, At.den, Prim.den, List.cons_append, List.nil_append, getC, C.toInt_int, C.toList_list, C.toBool_bool, hn]
    simp only [BEq.rfl, Bool.not_true, iteD_ff, decide_true, cd_b, getC, C.toBool_bool, Bool.not_false, iteD_tt, List.cons_append, List.nil_append, den_letp, den_ite, den_call, den_ret, dens, Cell.den, At.den, Prim.den]
    exact key

/-- The same, of a law that takes a second slice of bytes. -/
def wEnv2 (code more : List Int) (rooms : List Int) (es : List Ev) (w : Wd) : List C :=
  [.list (code.map eB), .list (more.map eB), .int .i64 code.length, .bool false, .int .i64 more.length, .bool false, .list (rooms.map eI), .list (es.map Ev.e),
   .bool w.dk.up, .list (w.dk.lg.rs.map Rec.e), .int .i64 w.dk.lg.f, .list (w.dk.td.map Word.e), .list (w.hs.map House.e), .list (w.ns.map Word.e), .bool true,
   .bool w.dk.up, .list (w.dk.lg.rs.map Rec.e), .int .i64 w.dk.lg.f, .list (w.dk.td.map Word.e), .list (w.hs.map House.e), .list (w.ns.map Word.e), .bool true, .bool false, .bool true, .bool false, .bool false]

theorem worldHead2_den {Φ : Phi} {t : Tree} {code more : List Int} (h0 : Φ 0 = φ_av) (h1 : Φ 1 = φ_by) (h2 : Φ 2 = φ_bt) (h3 : Φ 3 = φ_dl)
    (hl : code.length ≤ 1099511627776) (hc : Bytes code)
    (ht : ∀ (rooms : List Int) (es : List Ev) (w : Wd), more.length ≤ 1048576 → worldPlay rooms es = some w → rooms.length ≤ 4 → es.length ≤ 81 → (∀ e ∈ es, EvS e) → retOf (den Φ t (wEnv2 code more rooms es w)) = some [.bool true]) :
    retOf (den Φ (worldHead2 t) [.list (code.map eB), .list (more.map eB)]) = some [.bool true] := by
  obtain ⟨rooms, es, hd, hr, hel, hes⟩ := m_DrawWorldPlay hl hc
  have p1 := i_WorldPlay (rooms := rooms) (es := es) (by omega) (by omega) hes
  have p2 := m_WorldPlay (rooms := rooms) (es := es) (by omega) (by omega) hes
  have hself := n_World (w := wd0) (w' := wd0) ⟨⟨by simp [wd0], by simp [wd0]⟩, by simp [wd0]⟩ (by simp [wd0]) (by simp [wd0]) (by simp [wd0])
  unfold worldHead2
  rw [den_letp, den_letp, den_ite]
  simp only [dens, Cell.den, At.den, Prim.den, List.cons_append, List.nil_append, getC, C.toInt_int, C.toList_list, C.toBool_bool, List.length_map]
  by_cases hbig : ((code.length : Nat) : Int) > 1048576
  · simp only [hbig, decide_true, iteD_tt, den_ret, dens, Cell.den, At.den, C.toBool_bool]; rfl
  simp only [hbig, decide_false, iteD_ff]
  rw [den_letp, den_letp, den_ite]
  simp only [dens, Cell.den, At.den, Prim.den, List.cons_append, List.nil_append, getC, C.toInt_int, C.toList_list, C.toBool_bool, List.length_map]
  by_cases hbig2 : ((more.length : Nat) : Int) > 1048576
  · simp only [hbig2, decide_true, iteD_tt, den_ret, dens, Cell.den, At.den, C.toBool_bool]; rfl
  simp only [hbig2, decide_false, iteD_ff]
  rw [den_call, h0]
  simp only [dens, Cell.den, At.den, getC, C.toList_list, hd]
  rw [callD_ok rfl, den_call, h1]
  simp only [dens, Cell.den, At.den, List.cons_append, List.nil_append, getC, C.toList_list, p1]
  cases hw : worldPlay rooms es with
  | none =>
    rw [hw] at p2
    simp only [Option.getD_none, Option.isSome_none, Wd.e, List.cons_append, List.nil_append] at p2 ⊢
    rw [callD_ok rfl, den_call, h2]
    simp only [dens, Cell.den, At.den, List.cons_append, List.nil_append, getC, C.toList_list, p2]
    rw [callD_ok rfl]
    simp only [den_letp, den_ite, den_call, h3, dens, Cell.den, At.den, Prim.den, List.cons_append, List.nil_append, getC, C.toInt_int, C.toList_list, C.toBool_bool, hself]
    simp only [BEq.rfl, Bool.not_true, iteD_ff, decide_true, cd_b, getC, C.toBool_bool, Bool.not_false, iteD_tt, List.cons_append, List.nil_append, den_letp, den_ite, den_call, den_ret, dens, Cell.den, At.den, Prim.den, h3, hself]
    rfl
  | some w =>
    have ow : WOk w := by
      unfold worldPlay at hw
      split at hw
      · cases hw
      · simp only [Option.map_eq_some_iff] at hw
        obtain ⟨w0, hw0, rfl⟩ := hw
        exact (worldNew_ok hw0).plays es
    have hn := ow.n (w' := w)
    have key := ht rooms es w (by omega) hw hr hel hes
    rw [hw] at p2
    simp only [Option.getD_some, Option.isSome_some, Wd.e, List.cons_append, List.nil_append] at p2 ⊢
    rw [callD_ok rfl, den_call, h2]
    simp only [dens, Cell.den, At.den, List.cons_append, List.nil_append, getC, C.toList_list, p2]
    rw [callD_ok rfl]
    simp only [den_letp, den_ite, den_call, h3, dens, Cell.den, At.den, Prim.den, List.cons_append, List.nil_append, getC, C.toInt_int, C.toList_list, C.toBool_bool, hn]
    simp only [BEq.rfl, Bool.not_true, iteD_ff, decide_true, cd_b, getC, C.toBool_bool, Bool.not_false, iteD_tt, List.cons_append, List.nil_append, den_letp, den_ite, den_call, den_ret, dens, Cell.den, At.den, Prim.den]
    exact key
end Dx


/- Laws on worlds, as they are drawn. -/
namespace Dx
open Go

theorem den_row (Φ : Phi) (l i : At) (ks : List CK) (t : Tree) (env : List C) : den Φ (.row l i ks t) env = rowD (l.den env) (i.den env) ks fun r => den Φ t (env ++ r) := by rw [den]
theorem den_up (Φ : Phi) (t : Tree) (env : List C) : den Φ (.up t) env = upD (den Φ t env) := by rw [den]
theorem den_jump (Φ : Phi) (xs : List Cell) (env : List C) : den Φ (.jump xs) env = some (.jump (dens env xs)) := by rw [den]
theorem den_chk (Φ : Phi) (p : Prim) (args : List Cell) (t : Tree) (env : List C) : den Φ (.chk p args t) env = whenD (p.den (dens env args)).toBool (den Φ t env) := by rw [den]
theorem den_join (Φ : Phi) (ks : List CK) (body k : Tree) (env : List C) : den Φ (.join ks body k) env = joinD (den Φ body env) fun ps => den Φ k (env ++ padC ps 0 ks) := by rw [den]

/-- Each of a list is looked at. -/
theorem loopAll {α : Type} {F : List C → Option Out} {l : List α} {o : Out} (hs : ∀ (i : Nat) (x : α), l[i]? = some x → F [.int .i64 (i : Nat)] = some (.jump [.int .i64 ((i + 1 : Nat) : Int)]))
    (hf : F [.int .i64 ((l.length : Nat) : Int)] = some (.up o)) : iterD F [.int .i64 0] = some o :=
  iter_list0 (l := l) (F := F) (enc := fun i (_ : Unit) => [.int .i64 i]) (res := fun _ _ _ => o) (fun _ _ => True) (s := ()) trivial (fun i x _ _ hx _ => .inl ⟨(), hs i x hx, trivial, rfl⟩) (fun _ _ => hf)

section
variable {code : List Int}
end
end Dx


/- More laws on worlds, as they are drawn. -/
namespace Dx
open Go

section
variable {code : List Int}
end
end Dx


/- More laws on worlds, as they are drawn: what is not said does nothing. -/
namespace Dx
open Go

section
variable {code : List Int}
end
end Dx


/- The program's worlds: what they are asked. -/
namespace Dx
open Go

section
variable {room : Int} {hs : List Hold} {k h t m : Int} {ns : List Word} {w : Wd}

theorem i_wordsOk (hL : ns.length ≤ 1000) : φ_ac [.list (ns.map Word.e)] = some [.bool (ns.any fun x => !wordOk x)] := by
  have h1 : ∀ x : Word, φ_bz [.int .i64 x.k, .int .i64 x.h, .int .i64 x.t, .int .i64 x.m] = some [.bool (!wordOk x)] := fun x => by
    rw [q_bz]; simp (disch := first | assumption | omega | (simp only [List.length_append, List.length_map, List.length_cons, List.length_nil]; omega)) only [F_bz, i_WordOk, Int.reduceEq, reduceIte, zU, zT, getC, Bool.and_true, List.length_map, List.length_nil, List.length_cons, List.nil_append]
  have hi : φ_ah [.list (ns.map Word.e)] = some [.int .i64 (fidx (fun x => !wordOk x) 0 ns)] := by
    rw [q_ah]; unfold F_ah
    simp only [List.length_map]
    rw [idxLoop (l := ns) (fun x => !wordOk x)]
    · rfl
    · intro i x hx
      have hi := (List.getElem?_eq_some_iff.1 hx).1
      have hi' : (i : Int) < (ns.length : Nat) := by omega
      simp (disch := first | assumption | omega | (simp only [List.length_append, List.length_map, List.length_cons, List.length_nil]; omega)) only [L_ah_0, row_W hx, Word.e, h1, wrap_nat, hi', if_true, Int.reduceEq, reduceIte, zT, getC, Bool.and_true, List.length_map, List.length_nil, List.length_cons, List.nil_append]
      cases wordOk x <;> simp [hi']
    · have h : ¬ ((ns.length : Int) < (ns.length : Nat)) := by omega
      simp (disch := first | assumption | omega | (simp only [List.length_append, List.length_map, List.length_cons, List.length_nil]; omega)) only [L_ah_0, h, if_false, Int.reduceEq, reduceIte, zU, zT, getC, Bool.and_true, List.length_map, List.length_nil, List.length_cons, List.nil_append]
  rw [q_ac]
  simp (disch := first | assumption | omega | (simp only [List.length_append, List.length_map, List.length_cons, List.length_nil]; omega)) only [F_ac, hi, fidx_any, Bool.decide_eq_true, Int.reduceEq, reduceIte, zU, zT, getC, Bool.and_true, List.length_map, List.length_nil, List.length_cons, List.nil_append]

theorem WOk.cells (ho : WOk w) {i : Nat} {x : House} (hx : w.hs[i]? = some x) : LgOk ⟨x.lg.rs, x.lg.f⟩ ∧ houseOk ⟨x.id, x.up, x.room, ⟨x.lg.rs, x.lg.f⟩⟩ = true ∧ x.id = ((i + 1 : Nat) : Int) :=
  ⟨(ho.hs i x hx).1.lg, houseOk_iff.2 (ho.hs i x hx).1, by have := (ho.hs i x hx).2; omega⟩
theorem i_WorldOk (ho : WOk w) : φ_eb [.bool w.dk.up, .list (w.dk.lg.rs.map Rec.e), .int .i64 w.dk.lg.f, .list (w.dk.td.map Word.e), .list (w.hs.map House.e), .list (w.ns.map Word.e)] = some [.bool true] := by
  rw [q_eb]
  have hdS : DkS ⟨w.dk.up, ⟨w.dk.lg.rs, w.dk.lg.f⟩, w.dk.td⟩ := ho.dk.S
  have hdo : deskOk ⟨w.dk.up, ⟨w.dk.lg.rs, w.dk.lg.f⟩, w.dk.td⟩ = true := deskOk_iff.2 ho.dk
  have h3 := ho.len
  have hn := ho.nlen
  have h3' : ((w.hs.length : Nat) : Int) = 3 := by omega
  have hn' : ¬ (((w.ns.length : Nat) : Int) > 14) := by omega
  have hw : (w.ns.any fun x => !wordOk x) = false := by
    rw [List.any_eq_false]
    intro x hx
    rw [wordOk_iff.2 (ho.ns x hx)]; simp
  simp (disch := first | assumption | omega | (simp only [List.length_append, List.length_map, List.length_cons, List.length_nil]; omega)) only [F_eb, i_DeskOk, hdo, h3', hn', if_true, if_false, Int.reduceEq, reduceIte, zU, zT, getC, Bool.and_true, List.length_map, List.length_nil, List.length_cons, List.nil_append]
  rw [loopAll (l := w.hs) (o := .ret [.bool true])]
  · rfl
  · intro i x hx
    have hi := (List.getElem?_eq_some_iff.1 hx).1
    have hi' : (i : Int) < 3 := by omega
    obtain ⟨c1, c2, c3⟩ := ho.cells hx
    have c2' : houseOk ⟨((i + 1 : Nat) : Int), x.up, x.room, x.lg⟩ = true := by rw [← c3]; exact c2
    simp (disch := first | assumption | omega | (simp only [List.length_append, List.length_map, List.length_cons, List.length_nil]; omega)) only [L_eb_0, row_Hs hx, House.e, i_HouseOk c1.S, c2', c3, wrap_nat, hi', if_true, Int.reduceEq, reduceIte, zU, zT, getC, Bool.and_true, List.length_map, List.length_nil, List.length_cons, List.nil_append]
  · have h : ¬ ((3 : Int) < 3) := by omega
    simp (disch := first | assumption | omega | (simp only [List.length_append, List.length_map, List.length_cons, List.length_nil]; omega)) only [L_eb_0, h3', if_false, i_wordsOk, hw, Int.lt_irrefl, Int.reduceEq, reduceIte, zU, zT, getC, Bool.and_true, List.length_map, List.length_nil, List.length_cons, List.nil_append]
    try rfl

/-- What a trip has of each house. -/
def holdsOf (w : Wd) (t : Int) : List Hold := w.hs.map fun h => hAt (hstock h false).hs t
theorem i_WorldHolds (ho : WOk w) (ht : 1 ≤ t ∧ t ≤ 6) : φ_bg [.bool w.dk.up, .list (w.dk.lg.rs.map Rec.e), .int .i64 w.dk.lg.f, .list (w.dk.td.map Word.e), .list (w.hs.map House.e), .list (w.ns.map Word.e), .int .i64 t] = some [.list ((holdsOf w t).map Hold.e)] := by
  rw [q_bg]
  have h3 := ho.len
  have hit := in_iff.2 ht
  simp (disch := first | assumption | omega | (simp only [List.length_append, List.length_map, List.length_cons, List.length_nil]; omega)) only [F_bg, i_WorldOk ho, i_isTrip, hit, Int.reduceEq, reduceIte, zU, zT, getC, Bool.and_true, List.length_map, List.length_nil, List.length_cons, List.nil_append]
  have key := iter_list0 (l := w.hs) (F := fun ps => L_bg_0 (w.hs.map House.e) t ((w.hs.length : Nat) : Int) ((getC ps 0).toInt) ((getC ps 1).toList)) (enc := fun i (s : List Hold) => [.int .i64 i, .list (s.map Hold.e)])
    (res := fun xs _ s => .ret [.list ((s ++ xs.map fun h => hAt (hstock h false).hs t).map Hold.e)]) (fun i s => s.length = i) (s := []) rfl ?_ ?_
  · have key : iterD _ [C.int .i64 0, C.list []] = _ := key
    rw [key]; rfl
  · intro i x xs s hx hs
    have hi := (List.getElem?_eq_some_iff.1 hx).1
    have hi' : (i : Int) < (w.hs.length : Nat) := by omega
    obtain ⟨c1, c2, c3⟩ := ho.cells hx
    have hc : s.length + 1 ≤ 1099511627776 := by omega
    have s6 : (hstock ⟨x.id, x.up, x.room, ⟨x.lg.rs, x.lg.f⟩⟩ false).hs.length = 6 := ((houseOk_iff.1 c2).stOk false).len
    have ht6 : t ≤ ((hstock ⟨x.id, x.up, x.room, ⟨x.lg.rs, x.lg.f⟩⟩ false).hs.length : Nat) := by omega
    simp (disch := first | assumption | omega | (simp only [List.length_append, List.length_map, List.length_cons, List.length_nil]; omega)) only [L_bg_0, row_Hs hx, House.e, i_stock c1, Stock.e, wrap64, rowH ht.1 ht6, Hold.e, wrap_nat, hi', hc, if_true, Int.reduceEq, reduceIte, zU, zT, getC, Bool.and_true, List.length_map, List.length_nil, List.length_cons, List.nil_append]
    exact .inl ⟨s ++ [hAt (hstock x false).hs t], by simp [Hold.e], by simp [hs], by simp⟩
  · intro s hs
    have h : ¬ ((w.hs.length : Int) < (w.hs.length : Nat)) := by omega
    simp (disch := first | assumption | omega | (simp only [List.length_append, List.length_map, List.length_cons, List.length_nil]; omega)) only [L_bg_0, h, if_false, Int.reduceEq, reduceIte, zU, zT, getC, Bool.and_true, List.length_map, List.length_nil, List.length_cons, List.nil_append]
    simp
end
end Dx


/- Laws on worlds, as they are drawn: no house gives more than it has; what is not forced is not said. -/
namespace Dx
open Go

section
variable {code : List Int}
end
end Dx


/- Laws on worlds, as they are drawn: things happen one behind the other; what a fall keeps counts as forced. -/
namespace Dx
open Go

theorem tmod_nat (a b : Nat) : Int.tmod (a : Int) (b : Int) = ((a % b : Nat) : Int) := rfl

section
variable {code more : List Int}
end
end Dx


/- A law on worlds, as they are drawn: what was asked is held at most by its trip. -/
namespace Dx
open Go

theorem loopAll1 {α : Type} {F : List C → Option Out} {l : List α} {o : Out} (hs : ∀ (i : Nat) (x : α), l[i]? = some x → F [.int .i64 ((i + 1 : Nat) : Int)] = some (.jump [.int .i64 ((i + 1 + 1 : Nat) : Int)]))
    (hf : F [.int .i64 ((l.length + 1 : Nat) : Int)] = some (.up o)) : iterD F [.int .i64 1] = some o :=
  iter_list0 (l := l) (F := F) (enc := fun i (_ : Unit) => [.int .i64 ((i + 1 : Nat) : Int)]) (res := fun _ _ _ => o) (fun _ _ => True) (s := ()) trivial (fun i x _ _ hx _ => .inl ⟨(), hs i x hx, trivial, rfl⟩) (fun _ _ => hf)

theorem rowN {m : List Int} (hm : m.length = 3) {h : Nat} (hh : h < 3) {kk : IntKind} {f : List C → Option Out} : rowD (.list (m.map eI)) (.int kk (h : Int)) [.int .i64] f = f (eI (mAt m ((h + 1 : Nat) : Int))) := by
  refine row_I ?_
  have e : (((h + 1 : Nat) : Int) - 1).toNat = h := by omega
  rw [mAt, e, List.getElem?_eq_getElem (by omega)]; rfl

/-- What a trip has of a house. -/
theorem holds_at {w : Wd} (ow : WOk w) {h : Nat} (hh : h < 3) (t : Int) : (holdsOf w t)[h]? = some ((vw w).hA ((h + 1 : Nat) : Int) t) := by
  have e : (((h + 1 : Nat) : Int) - 1).toNat = h := by omega
  have hl : h < w.hs.length := by rw [ow.len]; exact hh
  unfold holdsOf
  rw [List.getElem?_map, List.getElem?_eq_getElem hl]
  show some _ = some (hAt (hstock (houseAt w ((h + 1 : Nat) : Int)) false).hs t)
  unfold houseAt
  rw [e, List.getElem?_eq_getElem hl]; rfl

section
variable {code : List Int}
end
end Dx


/- A law on worlds, as they are drawn: what is decided stays decided. -/
namespace Dx
open Go

section
variable {code more : List Int}
end
end Dx


/- A world fits: all of a trip is closed, or nothing. -/
namespace Dx
open Go

section
variable {w : Wd}
theorem n_Fit (ow : WOk w) (I : Inv (vw w)) : φ_fj [.bool w.dk.up, .list (w.dk.lg.rs.map Rec.e), .int .i64 w.dk.lg.f, .list (w.dk.td.map Word.e), .list (w.hs.map House.e), .list (w.ns.map Word.e)] = some [.bool true] := by
  rw [q_fj]
  have s0 : DkS ⟨w.dk.up, ⟨w.dk.lg.rs, w.dk.lg.f⟩, w.dk.td⟩ := ow.dk.S
  have k0 : deskOk ⟨w.dk.up, ⟨w.dk.lg.rs, w.dk.lg.f⟩, w.dk.td⟩ = true := deskOk_iff.2 ow.dk
  have dT := i_DeskTrips s0 (b := true)
  rw [k0, if_pos rfl] at dT
  have tr : TrOk (ltrips w.dk.lg true) := ow.dk.trOk true
  have tr6 := tr.len
  have hsF : ∀ t, (vw w).sF t = (tAt (ltrips w.dk.lg true) t).s := fun _ => rfl
  have hwt : ∀ t h, (vw w).want t h = mAt (tAt (ltrips w.dk.lg true) t).m h := fun _ _ => rfl
  unfold F_fj
  have dT' : φ_ca [.bool w.dk.up, .list (w.dk.lg.rs.map Rec.e), .int .i64 w.dk.lg.f, .list (w.dk.td.map Word.e), .bool true] = some [.list ((ltrips w.dk.lg true).map Trip.e)] := dT
  rw [dT']
  simp only [cd_l, getC, C.toList_list]
  rw [loopAll1 (l := List.range 6) (o := .ret [.bool true])]
  · rfl
  · intro i x hx
    have hi : i < 6 := by simpa using (List.getElem?_eq_some_iff.1 hx).1
    have hi' : ((i + 1 : Nat) : Int) ≤ 6 := by omega
    have ht1 : (1 : Int) ≤ ((i + 1 : Nat) : Int) := by omega
    have ht : isT ((i + 1 : Nat) : Int) := ⟨by omega, by omega⟩
    have hho := i_WorldHolds ow (t := ((i + 1 : Nat) : Int)) ht
    have hh3 : (holdsOf w ((i + 1 : Nat) : Int)).length = 3 := by unfold holdsOf; rw [List.length_map, ow.len]
    have hh3' : (((holdsOf w ((i + 1 : Nat) : Int)).length : Nat) : Int) = 3 := by omega
    have inner : ∀ st : Int, st = (tAt (ltrips w.dk.lg true) ((i + 1 : Nat) : Int)).s →
        J_fj_4 ((ltrips w.dk.lg true).map Trip.e) ((i + 1 : Nat) : Int) ((holdsOf w ((i + 1 : Nat) : Int)).map Hold.e) st = some (.jump [.int .i64 ((i + 1 + 1 : Nat) : Int)]) := by
      intro st hst
      unfold J_fj_4
      rw [loopAll (l := holdsOf w ((i + 1 : Nat) : Int)) (o := .jump [.int .i64 ((i + 1 + 1 : Nat) : Int)])]
      · intro h y hy
        have hh := (List.getElem?_eq_some_iff.1 hy).1
        have hh' : (h : Int) < ((holdsOf w ((i + 1 : Nat) : Int)).length : Nat) := by omega
        have hlt : h < 3 := by omega
        have hyA : y = (vw w).hA ((h + 1 : Nat) : Int) ((i + 1 : Nat) : Int) := by
          have := holds_at ow hlt ((i + 1 : Nat) : Int)
          rw [hy] at this
          simpa using this
        have hH : isH ((h + 1 : Nat) : Int) := ⟨by omega, by omega⟩
        have f := fun hs => I.hold ((h + 1 : Nat) : Int) ((i + 1 : Nat) : Int) hH ht hs
        have hle := I.hle ((h + 1 : Nat) : Int) ((i + 1 : Nat) : Int) hH ht
        have hok := hold_rng (I.okA ((h + 1 : Nat) : Int) ((i + 1 : Nat) : Int) hH ht)
        have tf := I.trip ((i + 1 : Nat) : Int) ht
        have hkept := fun h4 => tf.kept h4 ((h + 1 : Nat) : Int) hH
        have hleft := fun h5 => (tf.left h5).2 ((h + 1 : Nat) : Int) hH
        have hFA := fun h0 => I.toBase.FA_s ht.1 h0
        have hrng := fun h0 => I.toBase.F_rng ht.1 h0
        rw [← hyA] at f hle hok
        have hw64 : IntKind.wrap .i64 (((i + 1 : Nat) : Int) - 1) = ((i + 1 : Nat) : Int) - 1 := wrap64 (by omega) (by omega)
        have hlen : st ≠ 0 → ((i + 1 : Nat) : Int) ≤ ((ltrips w.dk.lg true).length : Nat) := fun h0 => by
          have := tAt_len (l := ltrips w.dk.lg true) (t := ((i + 1 : Nat) : Int)) (by rw [← hst]; exact h0)
          omega
        have hm3 : st ≠ 0 → (tAt (ltrips w.dk.lg true) ((i + 1 : Nat) : Int)).m.length = 3 := fun h0 => by
          have := tAt_len (l := ltrips w.dk.lg true) (t := ((i + 1 : Nat) : Int)) (by rw [← hst]; exact h0)
          exact manyOk_len (tripOk_iff.1 (tr.ok _ (tAt_mem this))).1
        rw [hsF, ← hst] at hFA hrng
        generalize hwn : mAt (tAt (ltrips w.dk.lg true) ((i + 1 : Nat) : Int)).m ((h + 1 : Nat) : Int) = wn
        have fs : y.s ≠ 0 → st ≠ 0 ∧ 0 < wn ∧ (y.s ≠ 3 → y.m = wn) ∧ (y.s = 2 → st = 2 ∨ st = 4) ∧ (y.s = 3 → st = 3 ∨ st = 5) := fun h0 => by
          have g := f h0
          have g1 := g.s; have g2 := g.w; have g3 := g.m; have g4 := g.c; have g5 := g.u
          rw [← hyA] at g3 g4 g5
          rw [hsF, ← hst] at g1 g4 g5
          rw [hwt, hwn] at g2 g3
          exact ⟨g1, g2, g3, g4, g5⟩
        have k4 : st = 4 → 0 < wn → y.s = 2 := fun h4 hw0 => by
          have a := hFA (by omega)
          have := hkept (by omega) (by rw [hwt, hwn]; exact hw0)
          unfold Dx.hle at hle; omega
        have k5 : st = 5 → 0 < wn → y.s = 3 := fun h5 hw0 => by
          have a := hFA (by omega)
          have := hleft (by omega) (by rw [hwt, hwn]; exact hw0)
          unfold Dx.hle at hle; omega
        have rr : ∀ {f : List C → Option Out}, st ≠ 0 → rowD (.list ((ltrips w.dk.lg true).map Trip.e)) (.int .i64 (((i + 1 : Nat) : Int) - 1)) [.list, .int .i64] f = f (tAt (ltrips w.dk.lg true) ((i + 1 : Nat) : Int)).e := fun h0 => rowT ht1 (hlen h0)
        have rm : ∀ {f : List C → Option Out}, st ≠ 0 → rowD (.list ((tAt (ltrips w.dk.lg true) ((i + 1 : Nat) : Int)).m.map eI)) (.int .i64 (h : Int)) [.int .i64] f = f (eI wn) := fun h0 => by rw [rowN (hm3 h0) hlt, hwn]
        have wh : IntKind.wrap .i64 ((h : Int) + 1) = ((h + 1 : Nat) : Int) := wrap_nat (by omega)
        have st6 : 0 ≤ st ∧ st ≤ 5 := by
          by_cases h0 : st = 0
          · omega
          · have := hrng h0; omega
        have s3 : y.s = 0 ∨ y.s = 1 ∨ y.s = 2 ∨ y.s = 3 := by omega
        have st5 : st = 0 ∨ st = 1 ∨ st = 2 ∨ st = 3 ∨ st = 4 ∨ st = 5 := by omega
        clear hst hFA hrng hkept hleft tf f hle
        unfold L_fj_3
        generalize ((i + 1 : Nat) : Int) = T at *
        generalize ((h + 1 : Nat) : Int) = H1 at *
        simp only [List.length_map, hh', decide_true, iteD_tt, row_H hy, Hold.e, getC, C.toInt_int]
        have fs' : y.s = 0 ∨ (st ≠ 0 ∧ 0 < wn ∧ (y.s = 3 ∨ y.m = wn) ∧ (y.s = 2 → st = 2 ∨ st = 4) ∧ (y.s = 3 → st = 3 ∨ st = 5)) := by
          by_cases h0 : y.s = 0
          · exact .inl h0
          · obtain ⟨a, b, c, d, e⟩ := fs h0
            refine .inr ⟨a, b, ?_, d, e⟩
            by_cases h3 : y.s = 3
            · exact .inl h3
            · exact .inr (c h3)
        clear fs
        by_cases h00 : st = 0
        · have e2 : y.s = 0 := by omega
          subst h00
          simp [e2, J_fj_2, J_fj_1, J_fj_0, wh]
        · have R := fun f => rr (f := f) h00
          have Mm := fun f => rm (f := f) h00
          have hwz : y.s ≠ 0 → ¬ (wn = 0) := by omega
          have hme : y.s = 1 ∨ y.s = 2 → y.m = wn := by omega
          by_cases hwp : 0 < wn
          · have hwp' : wn > 0 := hwp
            have hw0 : ¬ (wn = 0) := by omega
            rcases st5 with e | e | e | e | e | e <;> rcases s3 with e2 | e2 | e2 | e2 <;> first
              | (exfalso; omega)
              | (have em := hme (by omega); simp [e, e2, em, R, Mm, getC, hw64, wh, Trip.e, eI, hwp', hw0, J_fj_2, J_fj_1, J_fj_0, wh, bneI, beqI]; done)
              | (simp [e, e2, R, Mm, getC, hw64, wh, Trip.e, eI, hwp', hw0, J_fj_2, J_fj_1, J_fj_0, wh, bneI, beqI]; done)
          · have e2 : y.s = 0 := by omega
            have hwp' : ¬ (wn > 0) := hwp
            rcases st5 with e | e | e | e | e | e <;> first
              | (exfalso; omega)
              | (simp [e, e2, R, Mm, getC, hw64, wh, Trip.e, eI, hwp', J_fj_2, J_fj_1, J_fj_0, wh, bneI, beqI]; done)
      · have h : ¬ (((holdsOf w ((i + 1 : Nat) : Int)).length : Int) < ((holdsOf w ((i + 1 : Nat) : Int)).length : Nat)) := by omega
        simp (disch := first | assumption | omega | (simp only [List.length_append, List.length_map, List.length_cons, List.length_nil]; omega)) only [L_fj_3, h, if_false, wrap_nat, Int.reduceEq, reduceIte, zU, zT, getC, Bool.and_true, List.length_map, List.length_nil, List.length_cons, List.nil_append]
    unfold L_fj_5
    have hd : decide (((i + 1 : Nat) : Int) ≤ 6) = true := decide_eq_true hi'
    have hd3 : decide ((((holdsOf w ((i + 1 : Nat) : Int)).length : Nat) : Int) = 3) = true := decide_eq_true hh3'
    simp only [getC, C.toInt_int, hd, iteD_tt]
    rw [hho]
    simp only [cd_l, getC, C.toList_list, List.length_map, bneI, hd3, Bool.not_true, iteD_ff]
    by_cases hlt : ((i + 1 : Nat) : Int) ≤ ((ltrips w.dk.lg true).length : Nat)
    · simp (disch := first | assumption | omega | (simp only [List.length_append, List.length_map, List.length_cons, List.length_nil]; omega)) only [hlt, decide_true, iteD_tt, wrap64, rowT ht1 hlt, Trip.e, getC, C.toInt_int, joinD_jump]
      simp only [iteD_dec, hi', if_true]
      exact inner _ rfl
    · simp only [hlt, decide_false, iteD_ff, joinD_jump, getC, C.toInt_int]
      simp only [iteD_dec, hi', if_true]
      refine inner _ ?_
      rw [tAt_none (by omega)]
  · simp (disch := first | assumption | omega | (simp only [List.length_append, List.length_map, List.length_cons, List.length_nil]; omega)) only [L_fj_5, Int.reduceEq, reduceIte, zU, zT, getC, Bool.and_true, List.length_map, List.length_nil, List.length_cons, List.nil_append]
    try rfl
end
end Dx


/- Laws on worlds, as they are drawn: a world fits, at each moment. -/
namespace Dx
open Go

section
variable {code more : List Int}
theorem law_WorldFit (hl : code.length ≤ 1099511627776) (hc : Bytes code) : φ_bj [.list (code.map eB)] = some [.bool true] := by
  unfold φ_bj t_bj
  refine worldHead_den rfl rfl rfl rfl hl hc fun rooms es w hw hr hel hes => ?_
  obtain ⟨ow, I⟩ := inv_play hw
  have e4 : Φ_bj 4 = φ_fj := rfl
  simp (disch := first | assumption | omega | (simp only [List.length_append, List.length_map, List.length_cons, List.length_nil]; omega)) only [wEnv, wEnv2, den_row, den_up, den_jump, den_chk, den_join, den_letp, den_ite, den_ret, den_call, dens, Cell.den, At.den, Prim.den, List.cons_append, List.nil_append, padC, cellKs, CK.of, beqI, bneI, Bool.decide_eq_true, e4, n_Fit ow I, Int.reduceEq, reduceIte, zU, zT, getC, Bool.and_true, List.length_map, List.length_nil, List.length_cons, List.nil_append]
  try rfl

theorem law_WorldAlways (hl : code.length ≤ 1099511627776) (hc : Bytes code) : φ_aw [.list (code.map eB), .list (more.map eB)] = some [.bool true] := by
  unfold φ_aw t_aw
  refine worldHead2_den rfl rfl rfl rfl hl hc fun rooms es w hm hw hr hel hes => ?_
  have e1 : Φ_aw 1 = φ_by := rfl
  have e4 : Φ_aw 4 = φ_fj := rfl
  have e5 : Φ_aw 5 = φ_eb := rfl
  have hn : more.length % (es.length + 1) ≤ es.length := by have := Nat.mod_lt more.length (show 0 < es.length + 1 by omega); omega
  obtain ⟨w1, p1, pw, o1, I1⟩ := play_take hw (more.length % (es.length + 1))
  have hp1 := i_WorldPlay (rooms := rooms) (es := es.take (more.length % (es.length + 1))) (by omega) (by rw [List.length_take]; omega) (fun e he => hes e (List.mem_of_mem_take he))
  rw [p1] at hp1
  simp only [Option.getD_some, Option.isSome_some, Wd.e, List.cons_append, List.nil_append] at hp1
  have hz : ¬ (((es.length + 1 : Nat) : Int) = 0) := by omega
  have hup : ((more.length % (es.length + 1) : Nat) : Int) ≤ (es.length : Nat) := by omega
  have hup0 : (0 : Int) ≤ ((more.length % (es.length + 1) : Nat) : Int) := by omega
  have htk : (es.map Ev.e).take (more.length % (es.length + 1)) = (es.take (more.length % (es.length + 1))).map Ev.e := by rw [List.map_take]
  simp (disch := first | assumption | omega | (simp only [List.length_append, List.length_map, List.length_cons, List.length_nil]; omega)) only [wEnv, wEnv2, den_row, den_up, den_jump, den_chk, den_join, den_letp, den_ite, den_ret, den_call, dens, Cell.den, At.den, Prim.den, List.cons_append, List.nil_append, padC, cellKs, CK.of, beqI, bneI, Bool.decide_eq_true, wrap_nat, hz, tmod_nat, hup, hup0, Int.toNat_natCast, htk, e1, hp1, e4, n_Fit o1 I1, e5, i_WorldOk o1, decide_true, decide_false, Bool.not_false, Int.reduceEq, reduceIte, zU, zT, getC, Bool.and_true, List.length_map, List.length_nil, List.length_cons, List.nil_append]
  try rfl
end
end Dx

