import Derived.Test.YtcgenclbnnigeabGreatTa
import Derived.Test.YtcgenclbnnigeabGreatYq1
import Derived.Test.YtcgenclbnnigeabGreatYq2
import Derived.Test.YtcgenclbnnigeabGreatYq3
set_option linter.all false
set_option linter.unusedVariables false
set_option linter.unusedSimpArgs false
set_option linter.unnecessarySimpa false
/- Ways of working with typed texts: calls, rows, loops. -/
namespace Dx
open Go

theorem wrap64 {x : Int} (h1 : -9223372036854775808 <= x) (h2 : x <= 9223372036854775807) : IntKind.wrap .i64 x = x := by
  have e : IntKind.wrap .i64 x = if x % 18446744073709551616 >= 9223372036854775808 then x % 18446744073709551616 - 18446744073709551616 else x % 18446744073709551616 := by
    simp [IntKind.wrap, IntKind.bits, IntKind.signed]
  rw [e]
  split <;> omega

theorem wrap_succ {i : Nat} (h : i <= LMAX) : IntKind.wrap .i64 ((i : Int) + 1) = ((i + 1 : Nat) : Int) := by
  rw [wrap64] <;> (simp [LMAX] at h; omega)

theorem callD_ok {cs : List C} {ks : List CK} {f : List C -> Option Out} (hk : kindsB ks cs = true) : callD (some cs) ks f = f cs := by
  simp only [callD, whenD, hk, padC_ok hk]

theorem cd_l (x0 : List (List C)) (f : List C -> Option Out) : callD (some [.list x0]) [.list] f = f [.list x0] := rfl
theorem cd_b (x0 : Bool) (f : List C -> Option Out) : callD (some [.bool x0]) [.bool] f = f [.bool x0] := rfl
theorem cd_i (x0 : Int) (f : List C -> Option Out) : callD (some [.int .i64 x0]) [(.int .i64)] f = f [.int .i64 x0] := rfl
theorem cd_lb (x0 : List (List C)) (x1 : Bool) (f : List C -> Option Out) : callD (some [.list x0, .bool x1]) [.list, .bool] f = f [.list x0, .bool x1] := rfl
theorem cd_bb (x0 : Bool) (x1 : Bool) (f : List C -> Option Out) : callD (some [.bool x0, .bool x1]) [.bool, .bool] f = f [.bool x0, .bool x1] := rfl
theorem cd_li (x0 : List (List C)) (x1 : Int) (f : List C -> Option Out) : callD (some [.list x0, .int .i64 x1]) [.list, (.int .i64)] f = f [.list x0, .int .i64 x1] := rfl
theorem cd_il (x0 : Int) (x1 : List (List C)) (f : List C -> Option Out) : callD (some [.int .i64 x0, .list x1]) [(.int .i64), .list] f = f [.int .i64 x0, .list x1] := rfl
theorem cd_lib (x0 : List (List C)) (x1 : Int) (x2 : Bool) (f : List C -> Option Out) : callD (some [.list x0, .int .i64 x1, .bool x2]) [.list, (.int .i64), .bool] f = f [.list x0, .int .i64 x1, .bool x2] := rfl
theorem cd_lli (x0 : List (List C)) (x1 : List (List C)) (x2 : Int) (f : List C -> Option Out) : callD (some [.list x0, .list x1, .int .i64 x2]) [.list, .list, (.int .i64)] f = f [.list x0, .list x1, .int .i64 x2] := rfl
theorem cd_ilb (x0 : Int) (x1 : List (List C)) (x2 : Bool) (f : List C -> Option Out) : callD (some [.int .i64 x0, .list x1, .bool x2]) [(.int .i64), .list, .bool] f = f [.int .i64 x0, .list x1, .bool x2] := rfl
theorem cd_ili (x0 : Int) (x1 : List (List C)) (x2 : Int) (f : List C -> Option Out) : callD (some [.int .i64 x0, .list x1, .int .i64 x2]) [(.int .i64), .list, (.int .i64)] f = f [.int .i64 x0, .list x1, .int .i64 x2] := rfl
theorem cd_iil (x0 : Int) (x1 : Int) (x2 : List (List C)) (f : List C -> Option Out) : callD (some [.int .i64 x0, .int .i64 x1, .list x2]) [(.int .i64), (.int .i64), .list] f = f [.int .i64 x0, .int .i64 x1, .list x2] := rfl
theorem cd_blil (x0 : Bool) (x1 : List (List C)) (x2 : Int) (x3 : List (List C)) (f : List C -> Option Out) : callD (some [.bool x0, .list x1, .int .i64 x2, .list x3]) [.bool, .list, (.int .i64), .list] f = f [.bool x0, .list x1, .int .i64 x2, .list x3] := rfl
theorem cd_blilb (x0 : Bool) (x1 : List (List C)) (x2 : Int) (x3 : List (List C)) (x4 : Bool) (f : List C -> Option Out) : callD (some [.bool x0, .list x1, .int .i64 x2, .list x3, .bool x4]) [.bool, .list, (.int .i64), .list, .bool] f = f [.bool x0, .list x1, .int .i64 x2, .list x3, .bool x4] := rfl
theorem cd_bblil (x0 : Bool) (x1 : Bool) (x2 : List (List C)) (x3 : Int) (x4 : List (List C)) (f : List C -> Option Out) : callD (some [.bool x0, .bool x1, .list x2, .int .i64 x3, .list x4]) [.bool, .bool, .list, (.int .i64), .list] f = f [.bool x0, .bool x1, .list x2, .int .i64 x3, .list x4] := rfl
theorem cd_blilll (x0 : Bool) (x1 : List (List C)) (x2 : Int) (x3 : List (List C)) (x4 : List (List C)) (x5 : List (List C)) (f : List C -> Option Out) : callD (some [.bool x0, .list x1, .int .i64 x2, .list x3, .list x4, .list x5]) [.bool, .list, (.int .i64), .list, .list, .list] f = f [.bool x0, .list x1, .int .i64 x2, .list x3, .list x4, .list x5] := rfl
theorem cd_ibili (x0 : Int) (x1 : Bool) (x2 : Int) (x3 : List (List C)) (x4 : Int) (f : List C -> Option Out) : callD (some [.int .i64 x0, .bool x1, .int .i64 x2, .list x3, .int .i64 x4]) [(.int .i64), .bool, (.int .i64), .list, (.int .i64)] f = f [.int .i64 x0, .bool x1, .int .i64 x2, .list x3, .int .i64 x4] := rfl
theorem cd_blilllb (x0 : Bool) (x1 : List (List C)) (x2 : Int) (x3 : List (List C)) (x4 : List (List C)) (x5 : List (List C)) (x6 : Bool) (f : List C -> Option Out) : callD (some [.bool x0, .list x1, .int .i64 x2, .list x3, .list x4, .list x5, .bool x6]) [.bool, .list, (.int .i64), .list, .list, .list, .bool] f = f [.bool x0, .list x1, .int .i64 x2, .list x3, .list x4, .list x5, .bool x6] := rfl
theorem cd_iiiib (x0 : Int) (x1 : Int) (x2 : Int) (x3 : Int) (x4 : Bool) (f : List C -> Option Out) : callD (some [.int .i64 x0, .int .i64 x1, .int .i64 x2, .int .i64 x3, .bool x4]) [(.int .i64), (.int .i64), (.int .i64), (.int .i64), .bool] f = f [.int .i64 x0, .int .i64 x1, .int .i64 x2, .int .i64 x3, .bool x4] := rfl
theorem cd_ibilib (x0 : Int) (x1 : Bool) (x2 : Int) (x3 : List (List C)) (x4 : Int) (x5 : Bool) (f : List C -> Option Out) : callD (some [.int .i64 x0, .bool x1, .int .i64 x2, .list x3, .int .i64 x4, .bool x5]) [(.int .i64), .bool, (.int .i64), .list, (.int .i64), .bool] f = f [.int .i64 x0, .bool x1, .int .i64 x2, .list x3, .int .i64 x4, .bool x5] := rfl
theorem cd_iiilli (x0 : Int) (x1 : Int) (x2 : Int) (x3 : List (List C)) (x4 : List (List C)) (x5 : Int) (f : List C -> Option Out) : callD (some [.int .i64 x0, .int .i64 x1, .int .i64 x2, .list x3, .list x4, .int .i64 x5]) [(.int .i64), (.int .i64), (.int .i64), .list, .list, (.int .i64)] f = f [.int .i64 x0, .int .i64 x1, .int .i64 x2, .list x3, .list x4, .int .i64 x5] := rfl
theorem cd_llblilllli (x0 : List (List C)) (x1 : List (List C)) (x2 : Bool) (x3 : List (List C)) (x4 : Int) (x5 : List (List C)) (x6 : List (List C)) (x7 : List (List C)) (x8 : List (List C)) (x9 : Int) (f : List C -> Option Out) : callD (some [.list x0, .list x1, .bool x2, .list x3, .int .i64 x4, .list x5, .list x6, .list x7, .list x8, .int .i64 x9]) [.list, .list, .bool, .list, (.int .i64), .list, .list, .list, .list, (.int .i64)] f = f [.list x0, .list x1, .bool x2, .list x3, .int .i64 x4, .list x5, .list x6, .list x7, .list x8, .int .i64 x9] := rfl
theorem cd_blillliiiib (x0 : Bool) (x1 : List (List C)) (x2 : Int) (x3 : List (List C)) (x4 : List (List C)) (x5 : List (List C)) (x6 : Int) (x7 : Int) (x8 : Int) (x9 : Int) (x10 : Bool) (f : List C -> Option Out) : callD (some [.bool x0, .list x1, .int .i64 x2, .list x3, .list x4, .list x5, .int .i64 x6, .int .i64 x7, .int .i64 x8, .int .i64 x9, .bool x10]) [.bool, .list, (.int .i64), .list, .list, .list, (.int .i64), (.int .i64), (.int .i64), (.int .i64), .bool] f = f [.bool x0, .list x1, .int .i64 x2, .list x3, .list x4, .list x5, .int .i64 x6, .int .i64 x7, .int .i64 x8, .int .i64 x9, .bool x10] := rfl
theorem cd_ibiliiiiib (x0 : Int) (x1 : Bool) (x2 : Int) (x3 : List (List C)) (x4 : Int) (x5 : Int) (x6 : Int) (x7 : Int) (x8 : Int) (x9 : Bool) (f : List C -> Option Out) : callD (some [.int .i64 x0, .bool x1, .int .i64 x2, .list x3, .int .i64 x4, .int .i64 x5, .int .i64 x6, .int .i64 x7, .int .i64 x8, .bool x9]) [(.int .i64), .bool, (.int .i64), .list, (.int .i64), (.int .i64), (.int .i64), (.int .i64), (.int .i64), .bool] f = f [.int .i64 x0, .bool x1, .int .i64 x2, .list x3, .int .i64 x4, .int .i64 x5, .int .i64 x6, .int .i64 x7, .int .i64 x8, .bool x9] := rfl

theorem rowD_some' {es : List (List C)} {i : Int} {r : List C} (h0 : 0 <= i) (hx : es[i.toNat]? = some r) {kk : IntKind} {ks : List CK} {f : List C -> Option Out} (hk : kindsB ks r = true) : rowD (.list es) (.int kk i) ks f = f r := by
  obtain ⟨n, rfl⟩ := Int.eq_ofNat_of_zero_le h0
  unfold rowD
  simp only [C.toInt, C.toList]
  show (match es[n]? with | some r => whenD (kindsB ks r) (f (padC r 0 ks)) | none => none) = f r
  rw [show es[n]? = some r from hx]
  simp only [whenD, hk, padC_ok hk]

theorem rowD_map {α : Type} {e : α -> List C} {l : List α} {i : Nat} {x : α} (hx : l[i]? = some x) {kk : IntKind} {ks : List CK} {f : List C -> Option Out} (hk : kindsB ks (e x) = true) : rowD (.list (l.map e)) (.int kk i) ks f = f (e x) :=
  rowD_some' (by omega) (by simp [hx]) hk

theorem rowD_mapI {α : Type} {e : α -> List C} {l : List α} {i : Int} {x : α} (h0 : 0 <= i) (hx : l[i.toNat]? = some x) {kk : IntKind} {ks : List CK} {f : List C -> Option Out} (hk : kindsB ks (e x) = true) : rowD (.list (l.map e)) (.int kk i) ks f = f (e x) :=
  rowD_some' h0 (by simp [hx]) hk

theorem iter_list {α σ : Type} {F : List C -> Option Out} {l : List α} {enc : Nat -> σ -> List C} {res : List α -> Nat -> σ -> Out} {P : Nat -> σ -> Prop}
    (hs : ∀ (i : Nat) (x : α) (xs : List α) (s : σ), l[i]? = some x -> P i s -> (∃ s', F (enc i s) = some (.jump (enc (i + 1) s')) /\ P (i + 1) s' /\ res (x :: xs) i s = res xs (i + 1) s') \/ (∃ o, F (enc i s) = some (.up o) /\ res (x :: xs) i s = o))
    (hf : ∀ s, P l.length s -> F (enc l.length s) = some (.up (res [] l.length s))) : ∀ (n i : Nat) (s : σ), n + i = l.length -> P i s -> iterD F (enc i s) = some (res (l.drop i) i s)
  | 0, i, s, hn, h => by
    have : i = l.length := by omega
    subst this
    rw [iterD_eq, hf s h, List.drop_of_length_le (Nat.le_refl _)]
    rfl
  | n + 1, i, s, hn, h => by
    have hi : i < l.length := by omega
    have hx : l[i]? = some l[i] := by simp [hi]
    rw [iterD_eq, List.drop_eq_getElem_cons hi]
    rcases hs i _ (l.drop (i + 1)) s hx h with ⟨s', h1, h2, h3⟩ | ⟨o, h1, h2⟩
    · rw [h1, h3]
      simp only [joinD]
      exact iter_list hs hf n (i + 1) s' (by omega) h2
    · rw [h1, h2]
      rfl

theorem iter_list0 {α σ : Type} {F : List C -> Option Out} {l : List α} {enc : Nat -> σ -> List C} {res : List α -> Nat -> σ -> Out} (P : Nat -> σ -> Prop) {s : σ} (h : P 0 s)
    (hs : ∀ (i : Nat) (x : α) (xs : List α) (s : σ), l[i]? = some x -> P i s -> (∃ s', F (enc i s) = some (.jump (enc (i + 1) s')) /\ P (i + 1) s' /\ res (x :: xs) i s = res xs (i + 1) s') \/ (∃ o, F (enc i s) = some (.up o) /\ res (x :: xs) i s = o))
    (hf : ∀ s, P l.length s -> F (enc l.length s) = some (.up (res [] l.length s))) : iterD F (enc 0 s) = some (res l 0 s) := by
  have := iter_list hs hf l.length 0 s (by omega) h
  simpa using this

def eI (n : Int) : List C := [.int .i64 n]
def eB (n : Int) : List C := [.int .u8 n]
def Rec.e (r : Rec) : List C := [.int .i64 r.k, .int .i64 r.t, .list (r.m.map eI)]
def Log.e (l : Log) : List C := [.list (l.rs.map Rec.e), .int .i64 l.f]
def Hold.e (h : Hold) : List C := [.int .i64 h.m, .int .i64 h.s]
def Stock.e (s : Stock) : List C := [.int .i64 s.room, .list (s.hs.map Hold.e)]
def Word.e (w : Word) : List C := [.int .i64 w.k, .int .i64 w.h, .int .i64 w.t, .int .i64 w.m]
def House.e (h : House) : List C := [.int .i64 h.id, .bool h.up, .int .i64 h.room, .list (h.lg.rs.map Rec.e), .int .i64 h.lg.f]
def Trip.e (t : Trip) : List C := [.list (t.m.map eI), .int .i64 t.s]
def Desk.e (d : Desk) : List C := [.bool d.up, .list (d.lg.rs.map Rec.e), .int .i64 d.lg.f, .list (d.td.map Word.e)]
def Wd.e (w : Wd) : List C := [.bool w.dk.up, .list (w.dk.lg.rs.map Rec.e), .int .i64 w.dk.lg.f, .list (w.dk.td.map Word.e), .list (w.hs.map House.e), .list (w.ns.map Word.e)]
def Ev.e (e : Ev) : List C := [.int .i64 e.k, .int .i64 e.a, .int .i64 e.b, .list (e.m.map eI)]

section
variable {kk : IntKind} {i : Nat} {f : List C -> Option Out}
theorem row_I {l : List Int} {x : Int} (h : l[i]? = some x) : rowD (.list (l.map eI)) (.int kk i) [.int .i64] f = f (eI x) := rowD_map h rfl
theorem row_R {l : List Rec} {x : Rec} (h : l[i]? = some x) : rowD (.list (l.map Rec.e)) (.int kk i) [.int .i64, .int .i64, .list] f = f x.e := rowD_map h rfl
theorem row_H {l : List Hold} {x : Hold} (h : l[i]? = some x) : rowD (.list (l.map Hold.e)) (.int kk i) [.int .i64, .int .i64] f = f x.e := rowD_map h rfl
theorem row_W {l : List Word} {x : Word} (h : l[i]? = some x) : rowD (.list (l.map Word.e)) (.int kk i) [.int .i64, .int .i64, .int .i64, .int .i64] f = f x.e := rowD_map h rfl
theorem row_T {l : List Trip} {x : Trip} (h : l[i]? = some x) : rowD (.list (l.map Trip.e)) (.int kk i) [.list, .int .i64] f = f x.e := rowD_map h rfl
end
end Dx


/- The first functions, in typed words: numbers, records, trips. -/
namespace Dx
open Go

@[simp] theorem iteD_tt (t e : Option Out) : iteD true t e = t := rfl
@[simp] theorem iteD_ff (t e : Option Out) : iteD false t e = e := rfl
theorem iteD_not (b : Bool) (t e : Option Out) : iteD (!b) t e = iteD b e t := by cases b <;> rfl
theorem iteD_dec (p : Prop) [Decidable p] (t e : Option Out) : iteD (decide p) t e = if p then t else e := by by_cases h : p <;> simp [h, iteD]
theorem iteD_b (b : Bool) (t e : Option Out) : iteD b t e = if b = true then t else e := by cases b <;> rfl
theorem iteD_eq (a b : Int) (t e : Option Out) : iteD (a == b) t e = if a = b then t else e := by rw [iteD_b]; simp
theorem iteD_ne (a b : Int) (t e : Option Out) : iteD (a != b) t e = if a = b then e else t := by rw [iteD_b]; by_cases h : a = b <;> simp [h]
theorem whenD_b {b : Bool} {k : Option Out} (h : b = true) : whenD b k = k := by subst h; rfl
@[simp] theorem retOf_ret (cs : List C) : retOf (some (.ret cs)) = some cs := rfl
theorem retOf_up (o : Out) : retOf (some (.up o)) = none := rfl
@[simp] theorem upD_ret (o : Out) : upD (some o) = some (.up o) := rfl
theorem retOf_ite (p : Prop) [Decidable p] (a b : Option Out) : retOf (if p then a else b) = if p then retOf a else retOf b := by split <;> rfl
theorem wrap_nat {i : Nat} (h : i <= 1099511627776) : IntKind.wrap .i64 ((i : Int) + 1) = ((i + 1 : Nat) : Int) := wrap_succ h
theorem bothD_self (t : Option Out) : bothD t t = t := by unfold bothD; rw [if_pos rfl]
theorem word_beq (x w : Word) : (([x.k, x.h, x.t, x.m] : List Int) == [w.k, w.h, w.t, w.m]) = decide (x = w) := by
  obtain ⟨a, b, c, d⟩ := x; obtain ⟨a', b', c', d'⟩ := w
  rw [Bool.eq_iff_iff]; simp
theorem eta_St (s : Stock) : (⟨s.room, s.hs⟩ : Stock) = s := rfl
theorem eta_R (s : Rec) : (⟨s.k, s.t, s.m⟩ : Rec) = s := rfl
theorem eta_W (s : Word) : (⟨s.k, s.h, s.t, s.m⟩ : Word) = s := rfl
theorem eta_L (s : Log) : (⟨s.rs, s.f⟩ : Log) = s := rfl
theorem eta_D (s : Desk) : (⟨s.up, s.lg, s.td⟩ : Desk) = s := rfl
theorem eta_H (s : House) : (⟨s.id, s.up, s.room, s.lg⟩ : House) = s := rfl
theorem eta_T (s : Trip) : (⟨s.m, s.s⟩ : Trip) = s := rfl
theorem eta_Wd (s : Wd) : (⟨s.dk, s.hs, s.ns⟩ : Wd) = s := rfl
theorem eta_Ev (s : Ev) : (⟨s.k, s.a, s.b, s.m⟩ : Ev) = s := rfl
@[simp] theorem whenD_tt (k : Option Out) : whenD true k = k := rfl
theorem whenD_dec {p : Prop} [Decidable p] (h : p) (k : Option Out) : whenD (decide p) k = k := by simp [h, whenD]
theorem whenD_dec2 {p q : Prop} [Decidable p] [Decidable q] (h1 : p) (h2 : q) (k : Option Out) : whenD (decide p && decide q) k = k := by simp [h1, h2, whenD]
@[simp] theorem joinD_jump (ps : List C) (k : List C -> Option Out) : joinD (some (.jump ps)) k = k ps := rfl
theorem joinD_ite (p : Prop) [Decidable p] (a b : Option Out) (k : List C -> Option Out) : joinD (if p then a else b) k = if p then joinD a k else joinD b k := by split <;> rfl
theorem retOf_w {b : Bool} {k : Option Out} (h : b = true) : retOf (whenD b k) = retOf k := by subst h; rfl
theorem le_B {i n : Int} (h1 : 0 <= i) (h2 : i <= n) : (decide ((0 : Int) <= i) && decide (i <= n)) = true := by simp [h1, h2]
theorem lt_B {i n : Int} (h1 : 0 <= i) (h2 : i < n) : (decide ((0 : Int) <= i) && decide (i < n)) = true := by simp [h1, h2]
theorem LMAX_eq : LMAX = 1099511627776 := rfl
theorem kinds_I (m : List Int) : (m.map eI).all (kindsB [.int .i64]) = true := by simp [List.all_map, eI, kindsB, kindB, eqKind, Function.comp_def]
theorem kinds_W (m : List Word) : (m.map Word.e).all (kindsB [.int .i64, .int .i64, .int .i64, .int .i64]) = true := by simp [List.all_map, Word.e, kindsB, kindB, eqKind, Function.comp_def]
theorem kinds_R (m : List Rec) : (m.map Rec.e).all (kindsB [.int .i64, .int .i64, .list]) = true := by simp [List.all_map, Rec.e, kindsB, kindB, eqKind, Function.comp_def]
theorem setRow_map {α : Type} {e : α -> List C} {l : List α} {off j : Nat} {cs : List C} {x y : α} (hx : l[j]? = some x) (hy : putC (e x) off cs = e y) : setRow off (l.map e) j cs = (l.set j y).map e := by
  unfold setRow
  simp only [List.getElem?_map, hx, Option.map_some, hy, List.map_set]

theorem m_l6In (n lo hi : Int) : φ_ea [.int .i64 n, .int .i64 lo, .int .i64 hi] = some [.bool (in_ n lo hi)] := by
  rw [q_ea]
  simp only [F_ea, ge_iff_le, in_]
  cases decide (lo <= n) <;> rfl

theorem tAt_get {l : List Trip} {t : Int} (h1 : 1 <= t) (h2 : t <= l.length) : l[(t - 1).toNat]? = some (tAt l t) := by rw [tAt_eq (by omega)]; exact List.getElem?_eq_getElem (by omega)
theorem hAt_get {l : List Hold} {t : Int} (h1 : 1 <= t) (h2 : t <= l.length) : l[(t - 1).toNat]? = some (hAt l t) := by rw [hAt_eq (by omega)]; exact List.getElem?_eq_getElem (by omega)
theorem rowT {l : List Trip} {t : Int} (h1 : 1 <= t) (h2 : t <= l.length) {kk : IntKind} {f : List C -> Option Out} : rowD (.list (l.map Trip.e)) (.int kk (t - 1)) [.list, .int .i64] f = f (tAt l t).e :=
  rowD_mapI (by omega) (tAt_get h1 h2) rfl
theorem rowH {l : List Hold} {t : Int} (h1 : 1 <= t) (h2 : t <= l.length) {kk : IntKind} {f : List C -> Option Out} : rowD (.list (l.map Hold.e)) (.int kk (t - 1)) [.int .i64, .int .i64] f = f (hAt l t).e :=
  rowD_mapI (by omega) (hAt_get h1 h2) rfl

def zL := And.intro @List.length_append.{0} <| And.intro @List.length_map.{0, 0} <| And.intro @List.length_cons.{0} <| @List.length_nil.{0}
def zS := And.intro @Bool.and_true <| And.intro @List.length_map.{0, 0} <| And.intro @List.length_nil.{0} <| And.intro @List.length_cons.{0} <| @List.nil_append.{0}
def zT := And.intro zS <| And.intro @iteD_not <| And.intro @iteD_tt <| And.intro @iteD_ff <| And.intro @eta_St <| And.intro @eta_R <| And.intro @eta_W <| And.intro @eta_L <| And.intro @eta_D <| And.intro @eta_H <| And.intro @eta_T <| And.intro @eta_Wd <| And.intro @eta_Ev <| And.intro @LMAX_eq <| And.intro @whenD_tt <| And.intro @whenD_dec <| And.intro @whenD_dec2 <| And.intro @kinds_I <| And.intro @kinds_W <| And.intro @kinds_R <| And.intro @retOf_ret <| And.intro @retOf_up <| And.intro @upD_ret <| And.intro @retOf_w <| And.intro @joinD_jump <| And.intro @cd_l <| And.intro @cd_b <| And.intro @cd_i <| And.intro @cd_lb <| And.intro @cd_bb <| And.intro @cd_li <| And.intro @cd_il <| And.intro @cd_lib <| And.intro @cd_lli <| And.intro @cd_ilb <| And.intro @cd_ili <| And.intro @cd_iil <| And.intro @cd_blil <| And.intro @cd_blilb <| And.intro @cd_bblil <| And.intro @cd_blilll <| And.intro @cd_ibili <| And.intro @cd_blilllb <| And.intro @cd_iiiib <| And.intro @cd_ibilib <| And.intro @cd_iiilli <| And.intro @cd_llblilllli <| And.intro @cd_blillliiiib <| And.intro @cd_ibiliiiiib <| And.intro @C.toInt_int <| And.intro @C.toBool_bool <| And.intro @C.toList_list <| @C.toStr_str
def zU := And.intro @iteD_eq <| And.intro @iteD_ne <| And.intro @iteD_dec <| And.intro @retOf_ite <| @joinD_ite
theorem m_l12May {l : List Trip} (hl : l.length <= 1099511627776) {k t : Int} {m : List Int} (hr : recOk ⟨k, t, m⟩ = true) :
    φ_do [.list (l.map Trip.e), .int .i64 k, .int .i64 t, .list (m.map eI)] = some [.bool (tmay l ⟨k, t, m⟩)] := by
  have ht := recOk_t hr
  simp only at ht
  rw [q_do]
  simp (disch := first | assumption | omega | (simp only [zL]; omega)) only [F_do, tmay, wrap64, Int.reduceEq, reduceIte, zU, zT, getC]
  split
  · rfl
  · split
    · rfl
    · simp (disch := first | assumption | omega | (simp only [zL]; omega)) only [rowT, Trip.e, Int.reduceEq, reduceIte, zU, zT, getC]
      grind

theorem m_l12Do {l : List Trip} (hl : l.length <= 1099511627775) {k t : Int} {m : List Int} (hr : recOk ⟨k, t, m⟩ = true) (hm : tmay l ⟨k, t, m⟩ = true) (hT : TrOk l) :
    φ_spec_l12Do [.list (l.map Trip.e), .int .i64 k, .int .i64 t, .list (m.map eI)] = some [.list ((tact l ⟨k, t, m⟩).map Trip.e)] := by
  have ht := recOk_t hr
  have hml := recOk_mlen hr
  simp only at ht hml
  rw [q_spec_l12Do]
  rcases tmay_was hr hm with ⟨h4, h⟩ | ⟨h1, h2, h⟩
  · simp only at h4; subst h4
    have c1 : decide (([] : List (List C)).length + (m.map eI).length <= LMAX) = true := by simp [LMAX_eq]; omega
    have c2 : decide ((l.map Trip.e).length + [[C.list (m.map eI), C.int .i64 1]].length <= LMAX) = true := by simp [LMAX_eq]; omega
    simp only [F_spec_l12Do, tact, iteD_eq, if_true, whenD_b (kinds_I m), whenD_b c1, List.nil_append, whenD_b c2]
    simp [retOf_ret, Trip.e]
  · simp only at h1 h2 h
    have hx := tAt_get h1 h2
    have hw : IntKind.wrap .i64 (t - 1) = t - 1 := wrap64 (by omega) (by omega)
    have hb : (decide ((0 : Int) <= t - 1) && decide (t - 1 < ((l.map Trip.e).length : Nat))) = true := lt_B (by omega) (by simp; omega)
    have st : ∀ s : Int, setRow 1 (l.map Trip.e) (t - 1).toNat [C.int .i64 s] = (l.set (t - 1).toNat ⟨(tAt l t).m, s⟩).map Trip.e := fun s => setRow_map hx rfl
    simp only [F_spec_l12Do, hw, tact, iteD_eq, whenD_b hb, rowT h1 h2, Trip.e, getC, C.toInt, st]
    rcases h with ⟨h | h, _⟩ | ⟨h, hs⟩
    · subst h; rfl
    · subst h; rfl
    · subst h; rw [wrap64 (by omega) (by omega)]; rfl
end Dx


/- The reference's records, trips, the desk. -/
namespace Dx
open Go

theorem m_l1Many (m : List Int) (hL : m.length <= 1099511627776) : φ_dc [.list (m.map eI)] = some [.bool (manyOk m)] := by
  rw [q_dc]; unfold F_dc
  have key := iter_list0 (l := m) (F := fun ps => L_dc_0 (m.map eI) ((getC ps 0).toInt) ((getC ps 1).toInt)) (enc := fun i (s : Int) => [.int .i64 s, .int .i64 i])
    (res := fun xs _ s => .ret [.bool (xs.all (fun n => in_ n 0 3) && (m.length == 3 && decide (s + xs.sum > 0)))]) (fun i s => 0 <= s /\ s <= 3 * i) (s := 0) (by simp) ?_ ?_
  · have key : iterD _ [C.int .i64 0, C.int .i64 0] = _ := key
    rw [key]; simp [retOf, manyOk]
  · intro i x xs s hx ⟨h1, h2⟩
    have hi := (List.getElem?_eq_some_iff.1 hx).1
    have hi' : (i : Int) < (m.length : Nat) := by omega
    simp (disch := first | assumption | omega | (simp only [zL]; omega)) only [L_dc_0, row_I hx, m_l6In, eI, wrap_nat, hi', if_true, Int.reduceEq, reduceIte, zU, zT, getC]
    cases hin : in_ x 0 3 with
    | true =>
      have := in_iff.1 hin
      refine .inl ⟨s + x, ?_, by omega, by simp [hin, Int.add_assoc]⟩
      simp (disch := first | assumption | omega | (simp only [zL]; omega)) only [iteD_tt, wrap64]
    | false => exact .inr ⟨_, rfl, by simp [hin]⟩
  · intro s _
    have h : ¬ ((m.length : Int) < (m.length : Nat)) := by omega
    simp only [L_dc_0, h, if_false, Int.reduceEq, reduceIte, zU, zT, getC]
    by_cases h3 : m.length = 3
    · have h3' : ((m.length : Nat) : Int) = 3 := by omega
      simp [h3, upD]
    · have h3' : ¬ ((m.length : Nat) : Int) = 3 := by omega
      simp [h3, h3', upD]

theorem m_RecOk {k t : Int} {m : List Int} (hL : m.length <= 1099511627776) : φ_dx [.int .i64 k, .int .i64 t, .list (m.map eI)] = some [.bool (recOk ⟨k, t, m⟩)] := by
  rw [q_dx]
  simp (disch := first | assumption | omega | (simp only [zL]; omega)) only [F_dx, m_l6In, m_l1Many, recOk, Int.reduceEq, reduceIte, zU, zT, getC]
  cases in_ t 1 6 with
  | false => rfl
  | true =>
    simp only [Bool.true_and]
    by_cases h1 : k = 1
    · simp only [h1, if_true]
      match m with
      | [] => rfl
      | [n] => have hr : ∀ f, rowD (.list ([n].map eI)) (.int .i64 0) [.int .i64] f = f (eI n) := fun f => rfl
               simp (disch := first | assumption | omega | (simp only [zL]; omega)) only [hr, eI, m_l6In, Int.reduceEq, reduceIte, zU, zT, getC]; rfl
      | a :: b :: l => have : ¬ ((((a :: b :: l).length : Nat) : Int) = 1) := by simp; omega
                       simp only [List.length_map, this, if_false]; rfl
    · by_cases h4 : k = 4
      · simp [h4, retOf]
      · simp only [h1, h4, if_false]
        cases in_ k 2 7 with
        | false => rfl
        | true => cases m with
          | nil => rfl
          | cons a l => simp; omega

theorem m_l1Add {rs : List Rec} {f k t : Int} {m : List Int} (hL : rs.length <= 1099511627775) :
    φ_ds [.list (rs.map Rec.e), .int .i64 f, .int .i64 k, .int .i64 t, .list (m.map eI)] = some [.list ((ladd ⟨rs, f⟩ ⟨k, t, m⟩).rs.map Rec.e), .int .i64 f, .bool (laddB ⟨rs, f⟩)] := by
  rw [q_ds]
  simp (disch := first | assumption | omega | (simp only [zL]; omega)) only [F_ds, ladd, laddB, Int.reduceEq, reduceIte, zU, zT, getC]
  by_cases h : rs.length >= 40
  · have h' : ((rs.length : Nat) : Int) >= 40 := by omega
    simp only [h, h', if_true]; simp
  · have h' : ¬ (((rs.length : Nat) : Int) >= 40) := by omega
    simp only [h, h', if_false]; simp [Rec.e]

theorem m_l12Of {rs : List Rec} (hL : rs.length <= 1000000) (hm : ∀ r ∈ rs, r.m.length <= 1099511627776) :
    φ_dr [.list (rs.map Rec.e)] = some [.list (((tripsOf rs).getD []).map Trip.e), .bool (tripsOf rs).isSome] := by
  rw [q_dr]; unfold F_dr
  have key := iter_list0 (l := rs) (F := fun ps => L_dr_0 (rs.map Rec.e) ((getC ps 0).toInt) ((getC ps 1).toList)) (enc := fun i (s : List Trip) => [.int .i64 i, .list (s.map Trip.e)])
    (res := fun xs _ s => .ret [.list (((tfold xs s).getD []).map Trip.e), .bool (tfold xs s).isSome]) (fun _ s => TrOk s) (s := []) TrOk.nil ?_ ?_
  · have key : iterD _ [C.int .i64 0, C.list []] = _ := key
    rw [key]; rfl
  · intro i x xs s hx hs
    have hi := (List.getElem?_eq_some_iff.1 hx).1
    have hi' : (i : Int) < (rs.length : Nat) := by omega
    have hxm := hm x (List.mem_of_getElem? hx)
    have hsl := hs.len
    simp (disch := first | assumption | omega | (simp only [zL]; omega)) only [L_dr_0, row_R hx, Rec.e, m_RecOk, wrap_nat, hi', if_true, Int.reduceEq, reduceIte, zU, zT, getC]
    cases hr : recOk ⟨x.k, x.t, x.m⟩ with
    | false => exact .inr ⟨_, rfl, by simp [tfold, hr]⟩
    | true =>
      simp (disch := first | assumption | omega | (simp only [zL]; omega)) only [m_l12May, Int.reduceEq, reduceIte, zU, zT, getC]
      cases hmay : tmay s ⟨x.k, x.t, x.m⟩ with
      | false => exact .inr ⟨_, rfl, by simp [tfold, hr, hmay]⟩
      | true =>
        simp (disch := first | assumption | omega | (simp only [zL]; omega)) only [m_l12Do, Int.reduceEq, reduceIte, zU, zT, getC]
        exact .inl ⟨tact s x, rfl, tact_ok hs hr hmay, by simp [tfold, hr, hmay]⟩
  · intro s _
    have h : ¬ ((rs.length : Int) < (rs.length : Nat)) := by omega
    simp only [L_dr_0, h, if_false, Int.reduceEq, reduceIte, zU, zT, getC]
    rfl

def LgS (l : Log) : Prop := l.rs.length <= 1000000 /\ ∀ r ∈ l.rs, r.m.length <= 1099511627776
theorem LgOk.S {l : Log} (h : LgOk l) : LgS l := ⟨by have := h.len; omega, fun r hr => by have := recOk_mlen (h.ok r hr); omega⟩

theorem m_l13Trips {up : Bool} {rs : List Rec} {f : Int} {b : Bool} (hl : LgS ⟨rs, f⟩) (hf : b = true -> 0 <= f /\ f <= rs.length) {tl : List (List C)} :
    φ_bv [.bool up, .list (rs.map Rec.e), .int .i64 f, .list tl, .bool b] = some [.list ((ltrips ⟨rs, f⟩ b).map Trip.e)] := by
  rw [q_bv]
  have ht : ∀ n : Nat, (rs.map Rec.e).take n = (rs.take n).map Rec.e := fun n => by simp
  have h1 : ∀ n : Nat, φ_dr [.list ((rs.take n).map Rec.e)] = _ := fun n => m_l12Of (by simp; have := hl.1; simp only at this; omega) (fun r hr => hl.2 r (List.mem_of_mem_take hr))
  cases b with
  | true =>
    obtain ⟨h2, h3⟩ := hf rfl
    simp only [F_bv, List.length_map, whenD_b (le_B h2 h3), ht, h1, ltrips, lknown]
    simp (disch := first | assumption | omega | (simp only [zL]; omega)) only [Int.reduceEq, reduceIte, zU, zT, getC]
  | false =>
    have h2 : (0 : Int) <= (rs.length : Nat) := by omega
    simp only [F_bv, List.length_map, whenD_b (le_B h2 (Int.le_refl _)), ht, h1, ltrips, lknown]
    simp (disch := first | assumption | omega | (simp only [zL]; omega)) only [Int.reduceEq, reduceIte, zU, zT, getC]
    simp only [Bool.false_eq_true, if_false, List.take_length, Int.toNat_natCast]

theorem m_tripsA {up : Bool} {rs : List Rec} {f : Int} (hl : LgS ⟨rs, f⟩) {tl : List (List C)} :
    φ_bv [.bool up, .list (rs.map Rec.e), .int .i64 f, .list tl, .bool false] = some [.list ((ltrips ⟨rs, f⟩ false).map Trip.e)] := m_l13Trips hl (fun h => by cases h)
theorem m_tripsF {up : Bool} {rs : List Rec} {f : Int} (hl : LgOk ⟨rs, f⟩) {tl : List (List C)} :
    φ_bv [.bool up, .list (rs.map Rec.e), .int .i64 f, .list tl, .bool true] = some [.list ((ltrips ⟨rs, f⟩ true).map Trip.e)] := m_l13Trips hl.S (fun _ => ⟨hl.lo, hl.hi⟩)

theorem m_l13Write {up : Bool} {rs : List Rec} {f : Int} {td : List Word} (hd : DkOk ⟨up, ⟨rs, f⟩, td⟩) {k t : Int} {m : List Int} (hr : recOk ⟨k, t, m⟩ = true) :
    φ_bo [.bool up, .list (rs.map Rec.e), .int .i64 f, .list (td.map Word.e), .int .i64 k, .int .i64 t, .list (m.map eI)] = some ((dwrite ⟨up, ⟨rs, f⟩, td⟩ ⟨k, t, m⟩).e ++ [.bool (dwriteB ⟨up, ⟨rs, f⟩, td⟩ ⟨k, t, m⟩)]) := by
  rw [q_bo]
  have h1 := hd.lg.S
  have h2 := hd.trOk false
  have hl2 := h2.len
  have h3 := hd.lg.len
  simp only [dtrips] at h2 hl2 h3
  simp (disch := first | assumption | omega | (simp only [zL]; omega)) only [F_bo, m_tripsA, m_l12May, m_l1Add, dwrite, dwriteB, dtrips, Int.reduceEq, reduceIte, zU, zT, getC]
  cases up with
  | false => rfl
  | true =>
    simp only [Bool.true_and]
    cases tmay (ltrips ⟨rs, f⟩ false) ⟨k, t, m⟩ with
    | false => rfl
    | true => simp only [ladd, laddB]; by_cases h : rs.length >= 40 <;> simp [h, Desk.e, retOf_ret]

theorem m_l13Told {td : List Word} (hL : td.length <= 1099511627775) {k h t m : Int} :
    φ_cf [.list (td.map Word.e), .int .i64 k, .int .i64 h, .int .i64 t, .int .i64 m] = some [.bool (td.contains ⟨k, h, t, m⟩)] := by
  rw [q_cf]; unfold F_cf
  have key := iter_list0 (l := td) (F := fun ps => L_cf_0 (td.map Word.e) k h t m ((getC ps 0).toInt)) (enc := fun i (_ : Unit) => [.int .i64 i])
    (res := fun xs _ _ => .ret [.bool (xs.contains ⟨k, h, t, m⟩)]) (fun _ _ => True) (s := ()) trivial ?_ ?_
  · have key : iterD _ [C.int .i64 0] = _ := key
    rw [key]; rfl
  · intro i x xs s hx _
    have hi := (List.getElem?_eq_some_iff.1 hx).1
    have hi' : (i : Int) < (td.length : Nat) := by omega
    have hw := word_beq x ⟨k, h, t, m⟩
    simp only at hw
    simp (disch := first | assumption | omega | (simp only [zL]; omega)) only [L_cf_0, row_W hx, Word.e, wrap_nat, hi', if_true, hw, Int.reduceEq, reduceIte, zU, zT, getC]
    by_cases e : x = ⟨k, h, t, m⟩
    · exact .inr ⟨_, by rw [if_pos e], by simp [e]⟩
    · exact .inl ⟨(), by rw [if_neg e], trivial, by simp [Ne.symm e]⟩
  · intro s _
    have h : ¬ ((td.length : Int) < (td.length : Nat)) := by omega
    simp only [L_cf_0, h, if_false, Int.reduceEq, reduceIte, zU, zT, getC]
    rfl

theorem m_WordOk {k h t m : Int} : φ_de [.int .i64 k, .int .i64 h, .int .i64 t, .int .i64 m] = some [.bool (wordOk ⟨k, h, t, m⟩)] := by
  rw [q_de]
  simp (disch := first | assumption | omega | (simp only [zL]; omega)) only [F_de, m_l6In, wordOk, Int.reduceEq, reduceIte, zU, zT, getC]
  cases in_ h 1 3 <;> cases in_ t 1 6 <;> cases in_ k 1 7 <;> simp only [iteD_tt, iteD_ff, Bool.true_and, Bool.false_and, retOf_ret]
  split <;> rfl

theorem m_l13Any {up : Bool} {rs : List (List C)} {f : Int} {td : List Word} (hL : td.length <= 1099511627775) {t k : Int} {m : List Int} (hm : m.length <= 1000) :
    φ_dj [.bool up, .list rs, .int .i64 f, .list (td.map Word.e), .int .i64 t, .list (m.map eI), .int .i64 k] = some [.bool (toldAny td t k 1 m)] := by
  rw [q_dj]; unfold F_dj
  have key := iter_list0 (l := m) (F := fun ps => L_dj_0 (td.map Word.e) t (m.map eI) k ((getC ps 0).toInt)) (enc := fun i (_ : Unit) => [.int .i64 i])
    (res := fun xs i _ => .ret [.bool (toldAny td t k ((i + 1 : Nat) : Int) xs)]) (fun _ _ => True) (s := ()) trivial ?_ ?_
  · have key : iterD _ [C.int .i64 0] = _ := key
    rw [key]; rfl
  · intro i x xs s hx _
    have hi := (List.getElem?_eq_some_iff.1 hx).1
    have hi' : (i : Int) < (m.length : Nat) := by omega
    simp (disch := first | assumption | omega | (simp only [zL]; omega)) only [L_dj_0, row_I hx, eI, wrap_nat, hi', if_true, m_l13Told, Int.reduceEq, reduceIte, zU, zT, getC]
    have e1 : ((i + 1 : Nat) : Int) + 1 = ((i + 1 + 1 : Nat) : Int) := by omega
    by_cases hx0 : x > 0
    · simp only [hx0, if_true]
      cases hc : td.contains ⟨k, ((i + 1 : Nat) : Int), t, 0⟩ with
      | true => exact .inr ⟨_, rfl, by simp only [toldAny, hx0, hc, decide_true, Bool.and_self, Bool.true_or]⟩
      | false => exact .inl ⟨(), rfl, trivial, by simp only [toldAny, hx0, hc, e1, Bool.and_false, Bool.false_or]⟩
    · simp only [hx0, if_false]
      exact .inl ⟨(), by first | rfl | trivial, trivial, by simp only [toldAny, hx0, e1, decide_false, Bool.false_and, Bool.false_or]⟩
  · intro s _
    have h : ¬ ((m.length : Int) < (m.length : Nat)) := by omega
    simp only [L_dj_0, h, if_false, Int.reduceEq, reduceIte, zU, zT, getC]
    rfl

theorem m_l13All {up : Bool} {rs : List (List C)} {f : Int} {td : List Word} (hL : td.length <= 1099511627775) {t k : Int} {m : List Int} (hm : m.length <= 1000) :
    φ_dm [.bool up, .list rs, .int .i64 f, .list (td.map Word.e), .int .i64 t, .list (m.map eI), .int .i64 k] = some [.bool (toldAll td t k 1 m)] := by
  rw [q_dm]; unfold F_dm
  have key := iter_list0 (l := m) (F := fun ps => L_dm_0 (td.map Word.e) t (m.map eI) k ((getC ps 0).toInt)) (enc := fun i (_ : Unit) => [.int .i64 i])
    (res := fun xs i _ => .ret [.bool (toldAll td t k ((i + 1 : Nat) : Int) xs)]) (fun _ _ => True) (s := ()) trivial ?_ ?_
  · have key : iterD _ [C.int .i64 0] = _ := key
    rw [key]; rfl
  · intro i x xs s hx _
    have hi := (List.getElem?_eq_some_iff.1 hx).1
    have hi' : (i : Int) < (m.length : Nat) := by omega
    simp (disch := first | assumption | omega | (simp only [zL]; omega)) only [L_dm_0, row_I hx, eI, wrap_nat, hi', if_true, m_l13Told, Int.reduceEq, reduceIte, zU, zT, getC]
    have e1 : ((i + 1 : Nat) : Int) + 1 = ((i + 1 + 1 : Nat) : Int) := by omega
    by_cases hx0 : x > 0
    · simp only [hx0, if_true]
      cases hc : td.contains ⟨k, ((i + 1 : Nat) : Int), t, 0⟩ with
      | true => exact .inl ⟨(), rfl, trivial, by simp only [toldAll, hx0, hc, e1, Bool.or_true, Bool.true_and]⟩
      | false => exact .inr ⟨_, rfl, by simp only [toldAll, hx0, hc, decide_true, Bool.not_true, Bool.or_self, Bool.false_and]⟩
    · simp only [hx0, if_false]
      exact .inl ⟨(), by first | rfl | trivial, trivial, by simp only [toldAll, hx0, e1, decide_false, Bool.not_false, Bool.true_or, Bool.true_and]⟩
  · intro s _
    have h : ¬ ((m.length : Int) < (m.length : Nat)) := by omega
    simp only [L_dm_0, h, if_false, Int.reduceEq, reduceIte, zU, zT, getC]
    rfl
end Dx


/- The reference's stocks and houses. -/
namespace Dx
open Go

theorem m_StockNew {room : Int} : φ_bw [.int .i64 room] = some ((if in_ room 0 9 then stockNew room else ⟨0, []⟩).e ++ [.bool (in_ room 0 9)]) := by
  rw [q_bw]
  simp (disch := first | assumption | omega | (simp only [zL]; omega)) only [F_bw, m_l6In, Int.reduceEq, reduceIte, zU, zT, getC]
  cases in_ room 0 9 <;> rfl

theorem holdOk_m {h : Hold} (ho : holdOk h = true) : 0 <= had h /\ had h <= 3 /\ (h.s = 1 \/ h.s = 2 -> had h = h.m) /\ 0 <= h.m /\ h.m <= 3 := by
  unfold holdOk at ho
  unfold had
  split at ho
  · rename_i e; simp at ho; simp [e]; omega
  · split at ho
    · rename_i e; have h1 := in_iff.1 ho; simp only [e, if_true]; exact ⟨by omega, by omega, by simp, by omega, by omega⟩
    · rename_i e; simp only [e, if_false]
      split at ho
      · have h1 := in_iff.1 ho; exact ⟨by omega, by omega, by simp, by omega, by omega⟩
      · cases ho

theorem m_l2Free {room : Int} {hs : List Hold} (hr : 0 <= room /\ room <= 9) (ho : ∀ h ∈ hs, holdOk h = true) (hl : hs.length <= 100) :
    φ_cu [.int .i64 room, .list (hs.map Hold.e)] = some [.int .i64 (free ⟨room, hs⟩)] := by
  rw [q_cu]; unfold F_cu
  have key := iter_list0 (l := hs) (F := fun ps => L_cu_0 (hs.map Hold.e) ((getC ps 0).toInt) ((getC ps 1).toInt)) (enc := fun i (s : Int) => [.int .i64 s, .int .i64 i])
    (res := fun xs _ s => .ret [.int .i64 (s - (xs.map had).sum)]) (fun i s => room - 3 * i <= s /\ s <= room) (s := room) (by simp) ?_ ?_
  · have key : iterD _ [C.int .i64 room, C.int .i64 0] = _ := key
    rw [key]; rfl
  · intro i x xs s hx ⟨h1, h2⟩
    have hi := (List.getElem?_eq_some_iff.1 hx).1
    have hi' : (i : Int) < (hs.length : Nat) := by omega
    have hm := holdOk_m (ho x (List.mem_of_getElem? hx))
    simp (disch := first | assumption | omega | (simp only [zL]; omega)) only [L_cu_0, row_H hx, Hold.e, wrap_nat, hi', if_true, wrap64, Int.reduceEq, reduceIte, zU, zT, getC]
    refine .inl ⟨s - had x, ?_, by omega, by simp [Int.sub_sub]⟩
    unfold had
    by_cases e1 : x.s = 1
    · simp [e1]
    · by_cases e2 : x.s = 2 <;> simp [e1, e2]
  · intro s _
    have h : ¬ ((hs.length : Int) < (hs.length : Nat)) := by omega
    simp only [L_cu_0, h, if_false, Int.reduceEq, reduceIte, zU, zT, getC]
    simp

theorem row0 {n : Int} {f : List C -> Option Out} : rowD (.list ([n].map eI)) (.int .i64 0) [.int .i64] f = f (eI n) := rfl

theorem m_l2May {room : Int} {hs : List Hold} (ho : StOk ⟨room, hs⟩) {k t : Int} {m : List Int} (hr : recOk ⟨k, t, m⟩ = true) :
    φ_dw [.int .i64 room, .list (hs.map Hold.e), .int .i64 k, .int .i64 t, .list (m.map eI)] = some [.bool (may ⟨room, hs⟩ ⟨k, t, m⟩)] := by
  have ht := recOk_t hr
  have hl := ho.len
  simp only at ht hl
  rw [q_dw]
  simp (disch := first | assumption | omega | (simp only [zL]; omega)) only [F_dw, wrap64, rowH, Hold.e, may, stAt, m_l2Free ho.room ho.hold (show hs.length <= 100 by omega), Int.reduceEq, reduceIte, zU, zT, getC]
  by_cases h1 : k = 1
  · obtain ⟨n, e, _⟩ := recOk_hold hr h1
    simp only at e; subst e
    simp only [h1, if_true, row0, eI, Int.reduceEq, reduceIte, zU, zT, getC]
    by_cases h0 : (hAt hs t).s = 0 <;> simp [h0, retOf_ret]
  · by_cases h2 : k = 2
    · simp [h2, retOf_ret]
    · by_cases h3 : k = 3
      · by_cases h0 : (hAt hs t).s = 1 <;> simp [h3, h0, retOf_ret]
      · simp [h1, h2, h3, retOf_ret]

theorem m_l2Do {room : Int} {hs : List Hold} (ho : StOk ⟨room, hs⟩) {k t : Int} {m : List Int} (hr : recOk ⟨k, t, m⟩ = true) :
    φ_spec_l2Do [.int .i64 room, .list (hs.map Hold.e), .int .i64 k, .int .i64 t, .list (m.map eI)] = some (act ⟨room, hs⟩ ⟨k, t, m⟩).e := by
  have ht := recOk_t hr
  have hl := ho.len
  simp only at ht hl
  have hx := hAt_get (l := hs) ht.1 (by omega)
  have st : ∀ a b : Int, setRow 0 (hs.map Hold.e) (t - 1).toNat [C.int .i64 a, C.int .i64 b] = (hs.set (t - 1).toNat ⟨a, b⟩).map Hold.e := fun a b => setRow_map hx rfl
  rw [q_spec_l2Do]
  simp (disch := first | assumption | omega | (simp only [zL]; omega)) only [F_spec_l2Do, wrap64, rowH, Hold.e, act, actH, st, Int.reduceEq, reduceIte, zU, zT, getC]
  by_cases h1 : k = 1
  · obtain ⟨n, e, _⟩ := recOk_hold hr h1
    simp only at e; subst e
    simp only [h1, if_true, row0, eI, Int.reduceEq, reduceIte, zU, zT, getC]
    rfl
  · by_cases h2 : k = 2
    · simp only [h2, if_true]; rfl
    · by_cases h3 : k = 3
      · simp only [h3, if_true]; rfl
      · simp only [h1, h2, h3, if_false]; rfl

theorem m_l2Of {room : Int} {rs : List Rec} (hL : rs.length <= 1000000) (hm : ∀ r ∈ rs, r.m.length <= 1099511627776) :
    φ_eb [.int .i64 room, .list (rs.map Rec.e)] = some (((stockOf room rs).getD ⟨0, []⟩).e ++ [.bool (stockOf room rs).isSome]) := by
  rw [q_eb]
  simp (disch := first | assumption | omega | (simp only [zL]; omega)) only [F_eb, m_StockNew, Stock.e, List.cons_append, Int.reduceEq, reduceIte, zU, zT, getC]
  cases hr : in_ room 0 9 with
  | false => simp [stockOf, hr, retOf_ret]
  | true =>
    simp only [if_true]
    have key := iter_list0 (l := rs) (F := fun ps => L_eb_0 (rs.map Rec.e) ((getC ps 0).toInt) ((getC ps 1).toInt) ((getC ps 2).toList)) (enc := fun i (s : Stock) => [.int .i64 i, .int .i64 s.room, .list (s.hs.map Hold.e)])
      (res := fun xs _ s => .ret (((sfold xs s).getD ⟨0, []⟩).e ++ [.bool (sfold xs s).isSome])) (fun _ s => StOk s) (s := stockNew room) (stockNew_ok (in_iff.1 hr)) ?_ ?_
    · have key : iterD _ [C.int .i64 0, C.int .i64 (stockNew room).room, C.list ((stockNew room).hs.map Hold.e)] = _ := key
      rw [key]; simp [stockOf, hr, retOf_ret, Stock.e]
    · intro i x xs s hx hs
      have hi := (List.getElem?_eq_some_iff.1 hx).1
      have hi' : (i : Int) < (rs.length : Nat) := by omega
      have hxm := hm x (List.mem_of_getElem? hx)
      simp (disch := first | assumption | omega | (simp only [zL]; omega)) only [L_eb_0, row_R hx, Rec.e, m_RecOk, wrap_nat, hi', if_true, Int.reduceEq, reduceIte, zU, zT, getC]
      cases hr : recOk x with
      | false => exact .inr ⟨_, rfl, by simp [sfold, hr]; rfl⟩
      | true =>
        have hs' : StOk ⟨s.room, s.hs⟩ := hs
        have hr' : recOk ⟨x.k, x.t, x.m⟩ = true := hr
        simp (disch := first | assumption | omega | (simp only [zL]; omega)) only [m_l2May, Int.reduceEq, reduceIte, zU, zT, getC]
        cases hmay : may s x with
        | false => exact .inr ⟨_, rfl, by simp [sfold, hr, hmay]; rfl⟩
        | true =>
          simp (disch := first | assumption | omega | (simp only [zL]; omega)) only [m_l2Do, Stock.e, Int.reduceEq, reduceIte, zU, zT, getC]
          exact .inl ⟨act s x, rfl, act_ok hs hr hmay, by simp [sfold, hr, hmay]⟩
    · intro s _
      have h : ¬ ((rs.length : Int) < (rs.length : Nat)) := by omega
      simp only [L_eb_0, h, if_false, Int.reduceEq, reduceIte, zU, zT, getC]
      rfl

theorem m_l11Stock {id room f : Int} {up b : Bool} {rs : List Rec} (ho : LgOk ⟨rs, f⟩) :
    φ_bp [.int .i64 id, .bool up, .int .i64 room, .list (rs.map Rec.e), .int .i64 f, .bool b] = some (hstock ⟨id, up, room, ⟨rs, f⟩⟩ b).e := by
  rw [q_bp]
  have hl := ho.S
  have h2 := ho.lo
  have h3 := ho.hi
  simp only at h2 h3
  have ht : ∀ n : Nat, (rs.map Rec.e).take n = (rs.take n).map Rec.e := fun n => by simp
  have h1 : ∀ n : Nat, φ_eb [.int .i64 room, .list ((rs.take n).map Rec.e)] = _ := fun n => m_l2Of (by simp; have := hl.1; simp only at this; omega) (fun r hr => hl.2 r (List.mem_of_mem_take hr))
  cases b with
  | true =>
    simp (disch := first | assumption | omega | (simp only [zL]; omega)) only [F_bp, ht, h1, hstock, lknown, Stock.e, List.cons_append, if_true, Int.reduceEq, reduceIte, zU, zT, getC]
  | false =>
    simp (disch := first | assumption | omega | (simp only [zL]; omega)) only [F_bp, ht, h1, hstock, lknown, Stock.e, List.cons_append, Int.reduceEq, reduceIte, zU, zT, getC]
    simp

theorem m_l11Rec {k h t m : Int} : φ_dl [.int .i64 k, .int .i64 h, .int .i64 t, .int .i64 m] = some (recOf ⟨k, h, t, m⟩).e := by
  rw [q_dl]
  simp (disch := first | assumption | omega | (simp only [zL]; omega)) only [F_dl, recOf, Int.reduceEq, reduceIte, zU, zT, getC]
  split
  · rfl
  · split <;> rfl

theorem ladd_f (l : Log) (r : Rec) : (ladd l r).f = l.f := by unfold ladd; split <;> rfl

def oW (o : Option Word) : Word := o.getD ⟨0, 0, 0, 0⟩

theorem m_l11Answer {id room f : Int} {up : Bool} {rs : List (List C)} {k h t m st : Int} :
    φ_ax [.int .i64 id, .bool up, .int .i64 room, .list rs, .int .i64 f, .int .i64 k, .int .i64 h, .int .i64 t, .int .i64 m, .int .i64 st] = some ((oW (answer id ⟨k, h, t, m⟩ st)).e ++ [.bool (answer id ⟨k, h, t, m⟩ st).isSome]) := by
  rw [q_ax]
  by_cases h1 : k = 1
  · subst h1
    by_cases s1 : st = 1
    · subst s1; rfl
    · by_cases s2 : st = 2
      · subst s2; rfl
      · by_cases s3 : st = 3
        · subst s3; rfl
        · simp [F_ax, J_ax_0, J_ax_1, answer, s1, s2, s3, iteD_eq, iteD_tt, iteD_ff, joinD_jump, joinD_ite, C.toBool_bool, getC, retOf_ret, oW, Word.e]
  · by_cases h2 : k = 2
    · subst h2
      by_cases s2 : st = 2
      · subst s2; rfl
      · simp [F_ax, J_ax_0, J_ax_1, answer, s2, iteD_eq, iteD_tt, iteD_ff, joinD_jump, joinD_ite, C.toBool_bool, getC, retOf_ret, oW, Word.e]
    · by_cases h3 : k = 3
      · subst h3
        by_cases s3 : st = 3
        · subst s3; rfl
        · simp [F_ax, J_ax_0, J_ax_1, answer, s3, iteD_eq, iteD_tt, iteD_ff, joinD_jump, joinD_ite, C.toBool_bool, getC, retOf_ret, oW, Word.e]
      · simp [F_ax, J_ax_0, J_ax_1, answer, h1, h2, h3, iteD_eq, iteD_tt, iteD_ff, joinD_jump, joinD_ite, C.toBool_bool, getC, retOf_ret, oW, Word.e]

theorem m_l11Hear {id room f : Int} {up : Bool} {rs : List Rec} (ho : HsOk ⟨id, up, room, ⟨rs, f⟩⟩) {k h t m : Int} :
    φ_ce [.int .i64 id, .bool up, .int .i64 room, .list (rs.map Rec.e), .int .i64 f, .int .i64 k, .int .i64 h, .int .i64 t, .int .i64 m] =
      some ((hhear ⟨id, up, room, ⟨rs, f⟩⟩ ⟨k, h, t, m⟩).1.e ++ ((oW (hhear ⟨id, up, room, ⟨rs, f⟩⟩ ⟨k, h, t, m⟩).2).e ++ [.bool (hhear ⟨id, up, room, ⟨rs, f⟩⟩ ⟨k, h, t, m⟩).2.isSome])) := by
  rw [q_ce]
  have hlg : LgOk ⟨rs, f⟩ := ho.lg
  have hlen : rs.length <= 40 := ho.lg.len
  have sA := ho.stOk false
  have sF := ho.stOk true
  have lA := sA.len
  have lF := sF.len
  simp (disch := first | assumption | omega | (simp only [zL]; omega)) only [F_ce, m_WordOk, hhear, Int.reduceEq, reduceIte, zU, zT, getC]
  cases up with
  | false => rfl
  | true =>
    cases hw : wordOk ⟨k, h, t, m⟩ with
    | false => rfl
    | true =>
      have wok := wordOk_iff.1 hw
      have wt := wok.t
      simp only at wt
      have hr := recOf_ok wok
      have sA' : StOk ⟨(hstock ⟨id, true, room, ⟨rs, f⟩⟩ false).room, (hstock ⟨id, true, room, ⟨rs, f⟩⟩ false).hs⟩ := sA
      have hr' : recOk ⟨(recOf ⟨k, h, t, m⟩).k, (recOf ⟨k, h, t, m⟩).t, (recOf ⟨k, h, t, m⟩).m⟩ = true := hr
      simp (disch := first | assumption | omega | (simp only [zL]; omega)) only [m_l11Stock, m_l11Rec, Stock.e, Rec.e, m_l2May, m_l1Add, m_l11Answer, rowH, wrap64, Hold.e, Word.e, List.cons_append, Int.reduceEq, reduceIte, zU, zT, getC]
      by_cases e1 : h = id
      · by_cases e2 : k > 3
        · simp [e1, e2, retOf_ret, House.e, oW, Word.e]
        · simp only [e1, e2, if_true, if_false, stAt]
          cases may (hstock ⟨id, true, room, ⟨rs, f⟩⟩ false) (recOf ⟨k, id, t, m⟩) with
          | true => simp [retOf_ret, House.e, oW, Word.e, ladd_f]
          | false =>
            by_cases e3 : k = 1
            · by_cases e4 : (hAt (hstock ⟨id, true, room, ⟨rs, f⟩⟩ false).hs t).s = 0
              · simp [e3, e4, retOf_ret, House.e, oW, Word.e]
              · simp [e3, e4, retOf_ret, House.e, oW, Word.e]
            · simp [e3, retOf_ret, House.e, oW, Word.e]
      · simp [e1, retOf_ret, House.e, oW, Word.e]
end Dx


/- The reference's desk: what it decides, hears, says. -/
namespace Dx
open Go

def kindOf (s : Int) (sure : Bool) (td : List Word) (t : Int) (m : List Int) : Int :=
  if s = 1 /\ toldAny td t 5 1 m then 6
  else if s = 1 /\ toldAll td t 4 1 m then 5
  else if s = 2 /\ sure /\ toldAll td t 6 1 m then 7
  else if s = 3 /\ sure /\ toldAll td t 7 1 m then 7
  else 0
theorem dkind_eq (d : Desk) (t : Int) : dkind d t = kindOf (tAt (dtrips d false) t).s (dsure d t) d.td t (tAt (dtrips d false) t).m := rfl

section
variable {up : Bool} {rs : List Rec} {f : Int} {td : List Word} {t : Int} {m : List Int} {s : Int} {b : Bool}
theorem jD0 (hL : td.length <= 1099511627775) (hm : m.length <= 1000) {d5 d7 : Desk} {b5 b7 : Bool}
    (w5 : φ_bo [.bool up, .list (rs.map Rec.e), .int .i64 f, .list (td.map Word.e), .int .i64 5, .int .i64 t, .list []] = some (d5.e ++ [.bool b5]))
    (w7 : φ_bo [.bool up, .list (rs.map Rec.e), .int .i64 f, .list (td.map Word.e), .int .i64 7, .int .i64 t, .list []] = some (d7.e ++ [.bool b7])) (c : Bool) :
    retOf (J_ay_0 up (rs.map Rec.e) f (td.map Word.e) t (m.map eI) s b c) = some (if c then d5 else if s = 2 /\ b /\ toldAll td t 6 1 m then d7 else if s = 3 /\ b /\ toldAll td t 7 1 m then d7 else ⟨up, ⟨rs, f⟩, td⟩).e := by
  simp only [Desk.e, List.cons_append, List.nil_append] at w5 w7
  unfold J_ay_0
  cases c with
  | true => simp only [iteD_tt, w5, cd_blilb, retOf_ret, getC, C.toInt_int, C.toBool_bool, C.toList_list, if_true]; rfl
  | false =>
    simp only [iteD_ff, iteD_eq, Bool.false_eq_true, if_false]
    by_cases h2 : s = 2
    · subst h2
      simp (disch := first | assumption | omega | (simp only [zL]; omega)) only [if_true, m_l13All, w7, cd_b, cd_blilb, getC, C.toInt_int, C.toBool_bool, C.toList_list]
      cases b <;> cases toldAll td t 6 1 m <;> simp [Desk.e]
    · simp only [h2, if_false, false_and]
      by_cases h3 : s = 3
      · subst h3
        simp (disch := first | assumption | omega | (simp only [zL]; omega)) only [if_true, m_l13All, w7, cd_b, cd_blilb, getC, C.toInt_int, C.toBool_bool, C.toList_list]
        cases b <;> cases toldAll td t 7 1 m <;> simp [Desk.e]
      · simp only [h3, if_false, false_and]; rfl

theorem jD1 (hL : td.length <= 1099511627775) (hm : m.length <= 1000) {d5 d6 d7 : Desk} {b5 b6 b7 : Bool}
    (w5 : φ_bo [.bool up, .list (rs.map Rec.e), .int .i64 f, .list (td.map Word.e), .int .i64 5, .int .i64 t, .list []] = some (d5.e ++ [.bool b5]))
    (w6 : φ_bo [.bool up, .list (rs.map Rec.e), .int .i64 f, .list (td.map Word.e), .int .i64 6, .int .i64 t, .list []] = some (d6.e ++ [.bool b6]))
    (w7 : φ_bo [.bool up, .list (rs.map Rec.e), .int .i64 f, .list (td.map Word.e), .int .i64 7, .int .i64 t, .list []] = some (d7.e ++ [.bool b7])) (c : Bool) :
    retOf (J_ay_1 up (rs.map Rec.e) f (td.map Word.e) t (m.map eI) s b c) = some (if c then d6 else if s = 1 /\ toldAll td t 4 1 m then d5 else if s = 2 /\ b /\ toldAll td t 6 1 m then d7 else if s = 3 /\ b /\ toldAll td t 7 1 m then d7 else ⟨up, ⟨rs, f⟩, td⟩).e := by
  have j0 := fun c => jD0 (s := s) (b := b) hL hm w5 w7 c
  simp only [Desk.e, List.cons_append, List.nil_append] at w6
  unfold J_ay_1
  cases c with
  | true => simp only [iteD_tt, w6, cd_blilb, retOf_ret, getC, C.toInt_int, C.toBool_bool, C.toList_list, if_true]; rfl
  | false =>
    simp only [iteD_ff, iteD_eq, Bool.false_eq_true, if_false]
    by_cases h1 : s = 1
    · simp (disch := first | assumption | omega | (simp only [zL]; omega)) only [h1, if_true, m_l13All, cd_b, getC, C.toBool_bool, joinD_jump]
      rw [<- h1, j0]
      simp [h1]
    · simp only [h1, if_false, joinD_jump, getC, C.toBool_bool]
      rw [j0]; simp

theorem jD2 (hL : td.length <= 1099511627775) (hm : m.length <= 1000) {d5 d6 d7 : Desk} {b5 b6 b7 : Bool}
    (w5 : φ_bo [.bool up, .list (rs.map Rec.e), .int .i64 f, .list (td.map Word.e), .int .i64 5, .int .i64 t, .list []] = some (d5.e ++ [.bool b5]))
    (w6 : φ_bo [.bool up, .list (rs.map Rec.e), .int .i64 f, .list (td.map Word.e), .int .i64 6, .int .i64 t, .list []] = some (d6.e ++ [.bool b6]))
    (w7 : φ_bo [.bool up, .list (rs.map Rec.e), .int .i64 f, .list (td.map Word.e), .int .i64 7, .int .i64 t, .list []] = some (d7.e ++ [.bool b7])) :
    retOf (J_ay_2 up (rs.map Rec.e) f (td.map Word.e) t (m.map eI) s b) =
      some (if s = 1 /\ toldAny td t 5 1 m then d6 else if s = 1 /\ toldAll td t 4 1 m then d5 else if s = 2 /\ b /\ toldAll td t 6 1 m then d7 else if s = 3 /\ b /\ toldAll td t 7 1 m then d7 else ⟨up, ⟨rs, f⟩, td⟩).e := by
  have j1 := fun c => jD1 (s := s) (b := b) hL hm w5 w6 w7 c
  unfold J_ay_2
  simp only [iteD_eq]
  by_cases h1 : s = 1
  · simp (disch := first | assumption | omega | (simp only [zL]; omega)) only [h1, if_true, m_l13Any, cd_b, getC, C.toBool_bool, joinD_jump]
    rw [<- h1, j1]
    simp [h1]
  · simp only [h1, if_false, joinD_jump, getC, C.toBool_bool]
    rw [j1]; simp [h1]
end

theorem m_l13Decide {up : Bool} {rs : List Rec} {f : Int} {td : List Word} (hd : DkOk ⟨up, ⟨rs, f⟩, td⟩) (hL : td.length <= 1099511627775) {t : Int} (h1 : 1 <= t) (h2 : t <= (ltrips ⟨rs, f⟩ false).length) :
    φ_ay [.bool up, .list (rs.map Rec.e), .int .i64 f, .list (td.map Word.e), .int .i64 t] = some (ddecide ⟨up, ⟨rs, f⟩, td⟩ t).e := by
  rw [q_ay]
  have hlg : LgOk ⟨rs, f⟩ := hd.lg
  have hS := hlg.S
  have tA : TrOk (ltrips ⟨rs, f⟩ false) := hd.trOk false
  have tF : TrOk (ltrips ⟨rs, f⟩ true) := hd.trOk true
  have lA := tA.len
  have lF := tF.len
  have hml := manyOk_len (tripOk_iff.1 (tA.ok _ (tAt_mem (t := t) (by omega)))).1
  have w5 := m_l13Write hd (k := 5) (t := t) (m := []) (by simp [recOk, in_iff]; omega)
  have w6 := m_l13Write hd (k := 6) (t := t) (m := []) (by simp [recOk, in_iff]; omega)
  have w7 := m_l13Write hd (k := 7) (t := t) (m := []) (by simp [recOk, in_iff]; omega)
  have j := fun s b => jD2 (s := s) (b := b) hL (by omega : (tAt (ltrips ⟨rs, f⟩ false) t).m.length <= 1000) w5 w6 w7
  simp (disch := first | assumption | omega | (simp only [zL]; omega)) only [F_ay, m_tripsA, m_tripsF, rowT, wrap64, Trip.e, Int.reduceEq, reduceIte, zU, zT, getC]
  rw [j, j]
  unfold ddecide
  rw [dkind_eq]
  unfold dsure dtrips
  have fin : ∀ b : Bool, (if kindOf (tAt (ltrips ⟨rs, f⟩ false) t).s b td t (tAt (ltrips ⟨rs, f⟩ false) t).m > 0 then dwrite ⟨up, ⟨rs, f⟩, td⟩ ⟨kindOf (tAt (ltrips ⟨rs, f⟩ false) t).s b td t (tAt (ltrips ⟨rs, f⟩ false) t).m, t, []⟩ else ⟨up, ⟨rs, f⟩, td⟩) =
      (if (tAt (ltrips ⟨rs, f⟩ false) t).s = 1 /\ toldAny td t 5 1 (tAt (ltrips ⟨rs, f⟩ false) t).m then dwrite ⟨up, ⟨rs, f⟩, td⟩ ⟨6, t, []⟩ else if (tAt (ltrips ⟨rs, f⟩ false) t).s = 1 /\ toldAll td t 4 1 (tAt (ltrips ⟨rs, f⟩ false) t).m then dwrite ⟨up, ⟨rs, f⟩, td⟩ ⟨5, t, []⟩ else if (tAt (ltrips ⟨rs, f⟩ false) t).s = 2 /\ b /\ toldAll td t 6 1 (tAt (ltrips ⟨rs, f⟩ false) t).m then dwrite ⟨up, ⟨rs, f⟩, td⟩ ⟨7, t, []⟩ else if (tAt (ltrips ⟨rs, f⟩ false) t).s = 3 /\ b /\ toldAll td t 7 1 (tAt (ltrips ⟨rs, f⟩ false) t).m then dwrite ⟨up, ⟨rs, f⟩, td⟩ ⟨7, t, []⟩ else ⟨up, ⟨rs, f⟩, td⟩) := by
    intro b
    unfold kindOf
    split
    · rfl
    · split
      · rfl
      · split
        · rfl
        · split <;> rfl
  dsimp only
  rw [fin]
  by_cases h : t <= ((ltrips ⟨rs, f⟩ true).length : Nat)
  · simp only [h, if_true, decide_true, Bool.true_and]
  · simp only [h, if_false, decide_false, Bool.false_and]

theorem dheard_eq (up : Bool) (l : Log) (td : List Word) (k h t m : Int) : dheard ⟨up, l, td⟩ ⟨k, h, t, m⟩ = (up && (wordOk ⟨k, h, t, m⟩ && (decide (k >= 4) && decide (t <= (ltrips l false).length)))) := rfl

theorem m_l13Hear {up : Bool} {rs : List Rec} {f : Int} {td : List Word} (hd : DkOk ⟨up, ⟨rs, f⟩, td⟩) (hL : td.length <= 1099511627774) {k h t m : Int} :
    φ_by [.bool up, .list (rs.map Rec.e), .int .i64 f, .list (td.map Word.e), .int .i64 k, .int .i64 h, .int .i64 t, .int .i64 m] = some (dhear ⟨up, ⟨rs, f⟩, td⟩ ⟨k, h, t, m⟩).e := by
  rw [q_by]
  have hlg : LgOk ⟨rs, f⟩ := hd.lg
  have hS := hlg.S
  have hL' : td.length <= 1099511627775 := by omega
  unfold dhear
  simp (disch := first | assumption | omega | (simp only [zL]; omega)) only [F_by, m_WordOk, m_tripsA, m_l13Told, Int.reduceEq, reduceIte, zU, zT, getC]
  have nh : dheard ⟨up, ⟨rs, f⟩, td⟩ ⟨k, h, t, m⟩ = false -> (if dheard ⟨up, ⟨rs, f⟩, td⟩ ⟨k, h, t, m⟩ = true then ddecide (dtell ⟨up, ⟨rs, f⟩, td⟩ ⟨k, h, t, m⟩) t else ⟨up, ⟨rs, f⟩, td⟩) = ⟨up, ⟨rs, f⟩, td⟩ := fun e => by rw [e]; rfl
  cases up with
  | false => rw [nh rfl]; rfl
  | true =>
    cases hw : wordOk ⟨k, h, t, m⟩ with
    | false => rw [nh (by simp [dheard, hw])]; rfl
    | true =>
      have wt := (wordOk_iff.1 hw).t
      simp only at wt
      simp only [iteD_tt, retOf_ite]
      by_cases h4 : k < 4
      · rw [nh (by simp [dheard, hw]; omega)]
        simp only [h4, if_true]; rfl
      · by_cases ht : t > ((ltrips ⟨rs, f⟩ false).length : Nat)
        · rw [nh (by rw [dheard_eq, hw]; simp only [Bool.true_and]; rw [Bool.and_eq_false_iff]; right; exact decide_eq_false (by omega))]
          simp only [h4, ht, if_true, if_false]; rfl
        · have c1 : dheard ⟨true, ⟨rs, f⟩, td⟩ ⟨k, h, t, m⟩ = true := by rw [dheard_eq, hw]; simp only [Bool.true_and]; rw [Bool.and_eq_true]; exact ⟨decide_eq_true (by omega), decide_eq_true (by omega)⟩
          rw [if_pos c1]
          simp only [h4, ht, if_false, dtell]
          cases hc : td.contains ⟨k, h, t, m⟩ with
          | true =>
            simp (disch := first | assumption | omega | (simp only [zL]; omega)) only [m_l13Decide, Desk.e, iteD_tt, retOf_ret, cd_blil, getC, C.toInt_int, C.toBool_bool, C.toList_list, if_true]
          | false =>
            have hd2 : DkOk ⟨true, ⟨rs, f⟩, td ++ [⟨k, h, t, m⟩]⟩ := by
              have := hd.tell (w := ⟨k, h, t, m⟩) c1
              unfold dtell at this
              rw [if_neg (by rw [hc]; simp)] at this
              exact this
            have e1 : (td.map Word.e) ++ [[C.int .i64 k, C.int .i64 h, C.int .i64 t, C.int .i64 m]] = (td ++ [(⟨k, h, t, m⟩ : Word)]).map Word.e := by simp [Word.e]
            have hd3 := m_l13Decide hd2 (by simp; omega) wt.1 (show t <= ((ltrips ⟨rs, f⟩ false).length : Nat) by omega)
            simp only [iteD_ff, e1, hd3]
            simp (disch := first | assumption | omega | (simp only [zL]; omega)) only [Desk.e, Bool.false_eq_true, if_false, Int.reduceEq, reduceIte, zU, zT, getC]

theorem rowI3 {m : List Int} {i : Nat} {n : Int} (h : m[i]? = some n) {f : List C -> Option Out} : rowD (.list (m.map eI)) (.int .i64 i) [.int .i64] f = f (eI n) := row_I h

theorem wordsIn {td : List Word} (hL : td.length <= 1099511627775) {l : List Trip} {ti : Nat} {x : Trip} (hx : l[ti]? = some x) (hti : ti <= 1000) (hs : 1 <= x.s /\ x.s <= 3) (hml : x.m.length = 3) {acc : List Word} (ha : acc.length <= 3000) :
    iterD (fun ps => L_bm_0 (td.map Word.e) (l.map Trip.e) (ti : Int) ((getC ps 0).toInt) ((getC ps 1).toList)) [.int .i64 0, .list (acc.map Word.e)] =
      some (.jump [.int .i64 ((ti + 1 : Nat) : Int), .list ((acc ++ tripSays td x.s ((ti + 1 : Nat) : Int) 1 x.m).map Word.e)]) := by
  have key := iter_list0 (l := x.m) (F := fun ps => L_bm_0 (td.map Word.e) (l.map Trip.e) (ti : Int) ((getC ps 0).toInt) ((getC ps 1).toList)) (enc := fun i (s : List Word) => [.int .i64 i, .list (s.map Word.e)])
    (res := fun xs i s => .jump [.int .i64 ((ti + 1 : Nat) : Int), .list ((s ++ tripSays td x.s ((ti + 1 : Nat) : Int) ((i + 1 : Nat) : Int) xs).map Word.e)]) (fun i s => s.length <= 3000 + i) (s := acc) (by omega) ?_ ?_
  · exact key
  · intro i n xs s hn hs'
    have hi := (List.getElem?_eq_some_iff.1 hn).1
    have hi' : (i : Int) < 3 := by omega
    have e1 : ((i + 1 : Nat) : Int) + 1 = ((i + 1 + 1 : Nat) : Int) := by omega
    have ra : ∀ g : List C -> Option Out, rowD (.list [[C.int .i64 0], [C.int .i64 4], [C.int .i64 6], [C.int .i64 7]]) (.int .i64 x.s) [.int .i64] g = g [.int .i64 (ansOf x.s)] := by
      intro g
      have : x.s = 1 \/ x.s = 2 \/ x.s = 3 := by omega
      rcases this with e | e | e <;> rw [e] <;> rfl
    have h4 : x.s < ((([[C.int .i64 0], [C.int .i64 4], [C.int .i64 6], [C.int .i64 7]] : List (List C)).length : Nat) : Int) := by simp; omega
    have h5 : (0 : Int) <= x.s := by omega
    have hb := whenD_dec2 (p := (0 : Int) <= x.s) (q := x.s < ((([[C.int .i64 0], [C.int .i64 4], [C.int .i64 6], [C.int .i64 7]] : List (List C)).length : Nat) : Int)) h5 h4
    unfold L_bm_0
    simp only [getC, C.toInt_int, C.toList_list, iteD_dec, hi', if_true, row_T hx, Trip.e, hb, ra, rowI3 hn, eI, iteD_eq]
    simp (disch := first | assumption | omega | (simp only [zL]; omega)) only [wrap_nat, m_l13Told, cd_b, getC, C.toBool_bool]
    simp only [tripSays, wordTo]
    by_cases hn0 : n = 0
    · simp only [hn0, if_true, true_or]
      exact .inl ⟨s, rfl, by omega, by rw [e1]; simp⟩
    · simp only [hn0, if_false, false_or]
      cases hc : td.contains ⟨ansOf x.s, ((i + 1 : Nat) : Int), ((ti + 1 : Nat) : Int), 0⟩ with
      | true => exact .inl ⟨s, rfl, by omega, by rw [e1]; simp⟩
      | false =>
        have hlen : ∀ w : List C, decide ((s.map Word.e).length + [w].length <= LMAX) = true := fun w => by simp [LMAX_eq]; omega
        refine .inl ⟨s ++ [⟨x.s, ((i + 1 : Nat) : Int), ((ti + 1 : Nat) : Int), if x.s = 1 then n else 0⟩], ?_, by simp; omega, by rw [e1]; simp⟩
        simp only [iteD_ff, whenD_b (hlen _)]
        split <;> simp [Word.e]
  · intro s _
    unfold L_bm_0
    have h : ¬ ((x.m.length : Int) < 3) := by omega
    simp only [getC, C.toInt_int, C.toList_list, iteD_dec, h, if_false]
    simp (disch := first | assumption | omega | (simp only [zL]; omega)) only [wrap_nat, upD_ret]
    simp [tripSays]

theorem m_l13WordsD {up : Bool} {rs : List Rec} {f : Int} {td : List Word} (hd : DkOk ⟨up, ⟨rs, f⟩, []⟩) (hL : td.length <= 1099511627775) :
    φ_bm [.bool up, .list (rs.map Rec.e), .int .i64 f, .list (td.map Word.e)] = some [.list ((dwords ⟨up, ⟨rs, f⟩, td⟩).map Word.e)] := by
  rw [q_bm]
  have hlg : LgOk ⟨rs, f⟩ := hd.lg
  have hS := hlg.S
  have tF : TrOk (ltrips ⟨rs, f⟩ true) := hd.trOk true
  have lF := tF.len
  simp (disch := first | assumption | omega | (simp only [zL]; omega)) only [F_bm, m_tripsF, dwords, dtrips, Int.reduceEq, reduceIte, zU, zT, getC]
  cases up with
  | false => rfl
  | true =>
    simp only [iteD_tt, if_true]
    have key := iter_list0 (l := ltrips ⟨rs, f⟩ true) (F := fun ps => L_bm_1 (td.map Word.e) ((ltrips ⟨rs, f⟩ true).map Trip.e) ((getC ps 0).toInt) ((getC ps 1).toList)) (enc := fun i (s : List Word) => [.int .i64 i, .list (s.map Word.e)])
      (res := fun xs i s => .ret [.list ((s ++ allSay td ((i + 1 : Nat) : Int) xs).map Word.e)]) (fun i s => s.length <= 3 * i) (s := []) (by simp) ?_ ?_
    · have key : iterD _ [C.int .i64 0, C.list []] = _ := key
      rw [key]; simp
    · intro i x xs s hx hs
      have hi := (List.getElem?_eq_some_iff.1 hx).1
      have hi' : (i : Int) < ((ltrips ⟨rs, f⟩ true).length : Nat) := by omega
      have hxo := tripOk_iff.1 (tF.ok x (List.mem_of_getElem? hx))
      have hml := manyOk_len hxo.1
      have e1 : ((i + 1 : Nat) : Int) + 1 = ((i + 1 + 1 : Nat) : Int) := by omega
      unfold L_bm_1
      simp only [getC, C.toInt_int, C.toList_list, List.length_map, iteD_dec, hi', if_true, row_T hx, Trip.e, allSay]
      by_cases h3 : x.s > 3
      · simp only [h3, if_true]
        simp (disch := first | assumption | omega | (simp only [zL]; omega)) only [wrap_nat]
        exact .inl ⟨s, rfl, by omega, by rw [e1]; simp⟩
      · simp only [h3, if_false]
        rw [wordsIn hL hx (by omega) (by omega) hml (by omega)]
        refine .inl ⟨s ++ tripSays td x.s ((i + 1 : Nat) : Int) 1 x.m, rfl, ?_, by rw [e1]; simp⟩
        have := tripSays_len td x.s ((i + 1 : Nat) : Int) x.m 1
        simp only [List.length_append]; omega
    · intro s _
      unfold L_bm_1
      have h : ¬ (((ltrips ⟨rs, f⟩ true).length : Int) < ((ltrips ⟨rs, f⟩ true).length : Nat)) := by omega
      simp only [getC, C.toInt_int, C.toList_list, List.length_map, iteD_dec, h, if_false, upD_ret]
      simp [allSay]
theorem DkOk.bare {d : Desk} (h : DkOk d) : DkOk ⟨d.up, d.lg, []⟩ := ⟨h.lg, h.tr, by simp, by simp, .inr rfl⟩
theorem m_l13Words {up : Bool} {rs : List Rec} {f : Int} {td : List Word} (hd : DkOk ⟨up, ⟨rs, f⟩, td⟩) (hL : td.length <= 1099511627775) :
    φ_bm [.bool up, .list (rs.map Rec.e), .int .i64 f, .list (td.map Word.e)] = some [.list ((dwords ⟨up, ⟨rs, f⟩, td⟩).map Word.e)] := m_l13WordsD hd.bare hL
end Dx


/- The reference's worlds. -/
namespace Dx
open Go

def hsAt (hs : List House) (i : Int) : House := (hs[(i - 1).toNat]?).getD ⟨0, false, 0, ⟨[], 0⟩⟩
theorem houseAt_eq (w : Wd) (i : Int) : houseAt w i = hsAt w.hs i := rfl
theorem hsAt_get {l : List House} {t : Int} (h1 : 1 <= t) (h2 : t <= l.length) : l[(t - 1).toNat]? = some (hsAt l t) := by
  have : (t - 1).toNat < l.length := by omega
  unfold hsAt; rw [List.getElem?_eq_getElem this]; rfl
theorem rowHs {l : List House} {t : Int} (h1 : 1 <= t) (h2 : t <= l.length) {kk : IntKind} {f : List C -> Option Out} : rowD (.list (l.map House.e)) (.int kk (t - 1)) [.int .i64, .bool, .int .i64, .list, .int .i64] f = f (hsAt l t).e :=
  rowD_mapI (by omega) (hsAt_get h1 h2) rfl
theorem rowHsS {l : List House} {t : Int} {x : House} (h1 : 1 <= t) (h2 : t <= l.length) {kk : IntKind} {f : List C -> Option Out} : rowD (.list ((l.set (t - 1).toNat x).map House.e)) (.int kk (t - 1)) [.int .i64, .bool, .int .i64, .list, .int .i64] f = f x.e := by
  refine rowD_mapI (by omega) ?_ rfl
  rw [List.getElem?_set]; simp; omega
theorem setHs (l : List House) (n : Nat) (id : Int) (up : Bool) (room : Int) (rs : List Rec) (f : Int) : (l.map House.e).set n [.int .i64 id, .bool up, .int .i64 room, .list (rs.map Rec.e), .int .i64 f] = (l.set n ⟨id, up, room, ⟨rs, f⟩⟩).map House.e := by
  simp [List.map_set, House.e]
theorem eqD (a : Int) (k : Option Out) : whenD (a == a) k = k := by simp
theorem set_self {l : List House} {t : Int} (h1 : 1 <= t) (h2 : t <= l.length) : l.set (t - 1).toNat (hsAt l t) = l := by
  have hi : (t - 1).toNat < l.length := by omega
  have : hsAt l t = l[(t - 1).toNat] := by unfold hsAt; rw [List.getElem?_eq_getElem hi]; rfl
  rw [this]; exact List.set_getElem_self hi
section
variable {up : Bool} {rs : List Rec} {f : Int} {td : List Word} {hs : List House} {ns : List Word}

theorem m_l21Put (hL : ns.length <= 1000) {k h t m : Int} :
    φ_dd [.bool up, .list (rs.map Rec.e), .int .i64 f, .list (td.map Word.e), .list (hs.map House.e), .list (ns.map Word.e), .int .i64 k, .int .i64 h, .int .i64 t, .int .i64 m] = some (wput ⟨⟨up, ⟨rs, f⟩, td⟩, hs, ns⟩ ⟨k, h, t, m⟩).e := by
  rw [q_dd]
  simp (disch := first | assumption | omega | (simp only [zL]; omega)) only [F_dd, wput, Int.reduceEq, reduceIte, zU, zT, getC]
  by_cases hn : ns.length < 14
  · have h' : ((ns.length : Nat) : Int) < 14 := by omega
    have hc : ns.length + 1 <= 1099511627776 := by omega
    simp [hn, h', Wd.e, Word.e, LMAX_eq, hc]
  · have h' : ¬ (((ns.length : Nat) : Int) < 14) := by omega
    simp [hn, h', Wd.e]

theorem m_l21Take (hL : ns.length <= 1000) {i : Int} (h0 : 0 <= i) (h1 : i < ns.length) :
    φ_co [.bool up, .list (rs.map Rec.e), .int .i64 f, .list (td.map Word.e), .list (hs.map House.e), .list (ns.map Word.e), .int .i64 i] = some (wtake ⟨⟨up, ⟨rs, f⟩, td⟩, hs, ns⟩ i).e := by
  rw [q_co]
  obtain ⟨n, rfl⟩ := Int.eq_ofNat_of_zero_le h0
  have e1 : (ns.map Word.e).take n = (ns.take n).map Word.e := by simp
  have e2 : (ns.map Word.e).drop (n + 1) = (ns.drop (n + 1)).map Word.e := by simp
  have c1 : (0 : Int) <= ((n + 1 : Nat) : Int) := by omega
  have c2 : ((n + 1 : Nat) : Int) <= (ns.length : Nat) := by omega
  have c3 : (n : Int) <= (ns.length : Nat) := by omega
  have c4 : (ns.take n).length <= 1000 := by simp; omega
  have c5 : (ns.drop (n + 1)).length <= 1000 := by simp; omega
  simp (disch := first | assumption | omega | (simp only [zL]; omega)) only [F_co, wrap_nat, Int.toNat_natCast, e1, e2, bothD_self, Int.reduceEq, reduceIte, zU, zT, getC]
  simp [Wd.e, wtake, List.eraseIdx_eq_take_drop_succ]

theorem m_l21Hear (ho : WOk ⟨⟨up, ⟨rs, f⟩, td⟩, hs, ns⟩) (hL : td.length <= 1099511627774) {k h t m : Int} (hx : WdOk ⟨k, h, t, m⟩) :
    φ_cq [.bool up, .list (rs.map Rec.e), .int .i64 f, .list (td.map Word.e), .list (hs.map House.e), .list (ns.map Word.e), .int .i64 k, .int .i64 h, .int .i64 t, .int .i64 m] =
      some ((whear ⟨⟨up, ⟨rs, f⟩, td⟩, hs, ns⟩ ⟨k, h, t, m⟩).1.e ++ ((oW (whear ⟨⟨up, ⟨rs, f⟩, td⟩, hs, ns⟩ ⟨k, h, t, m⟩).2).e ++ [.bool (whear ⟨⟨up, ⟨rs, f⟩, td⟩, hs, ns⟩ ⟨k, h, t, m⟩).2.isSome])) := by
  rw [q_cq]
  have hd : DkOk ⟨up, ⟨rs, f⟩, td⟩ := ho.dk
  have hl : hs.length = 3 := ho.len
  have hh := hx.h
  simp only at hh
  by_cases h4 : k >= 4
  · simp (disch := first | assumption | omega | (simp only [zL]; omega)) only [F_cq, m_l13Hear, whear, h4, if_true, decide_true, Desk.e, Int.reduceEq, reduceIte, zU, zT, getC]
    simp [Wd.e, oW, Word.e]
  · have hho := (ho.houseAt (i := h) hh).2.1
    rw [houseAt_eq] at hho
    simp only at hho
    have hho' : HsOk ⟨(hsAt hs h).id, (hsAt hs h).up, (hsAt hs h).room, ⟨(hsAt hs h).lg.rs, (hsAt hs h).lg.f⟩⟩ := hho
    simp (disch := first | assumption | omega | (simp only [zL]; omega)) only [F_cq, whear, h4, if_false, wrap64, rowHs, House.e, m_l11Hear, eqD, List.cons_append, Word.e, setHs, houseAt_eq, Int.reduceEq, reduceIte, zU, zT, getC]
    simp [Wd.e, setHouse, House.e]

theorem m_l1Fall (ho : LgOk ⟨rs, f⟩) {keep : Int} :
    φ_cv [.list (rs.map Rec.e), .int .i64 f, .int .i64 keep] = some (lfall ⟨rs, f⟩ keep).e := by
  rw [q_cv]
  have h1 := ho.lo
  have h2 := ho.hi
  have h3 := ho.len
  have hk := ho.keep keep
  simp only at h1 h2 h3 hk
  unfold lkeep at hk
  have e1 : ∀ n : Nat, (rs.map Rec.e).take n = (rs.take n).map Rec.e := fun n => by simp
  simp only [F_cv, lfall, lkeep, iteD_dec, List.length_map]
  by_cases h : keep > 0
  · simp only [h, if_true] at hk ⊢
    have em : (if ((rs.length : Nat) : Int) - f < keep then ((rs.length : Nat) : Int) - f else keep) = min keep (rs.length - f) := by rw [Int.min_def]; split <;> split <;> omega
    rw [wrap64 (x := ((rs.length : Nat) : Int) - f) (by omega) (by omega), em, wrap64 (by omega) (by omega)]
    rw [whenD_dec2 (by omega) (by omega), e1]
    simp [Log.e]
  · simp only [h, if_false] at hk ⊢
    rw [whenD_dec2 (by omega) (by omega), e1]
    simp [Log.e]

theorem m_l13Fall (ho : LgOk ⟨rs, f⟩) {keep : Int} :
    φ_cl [.bool up, .list (rs.map Rec.e), .int .i64 f, .list (td.map Word.e), .int .i64 keep] = some (dfall ⟨up, ⟨rs, f⟩, td⟩ keep).e := by
  rw [q_cl]
  simp (disch := first | assumption | omega | (simp only [zL]; omega)) only [F_cl, m_l1Fall, Log.e, Int.reduceEq, reduceIte, zU, zT, getC]
  simp [dfall, Desk.e]

theorem m_l21Force (hl : hs.length = 3) (hh : ∀ h ∈ hs, h.lg.rs.length <= 1000000) {i : Int} (hi : 0 <= i /\ i <= 3) :
    φ_bu [.bool up, .list (rs.map Rec.e), .int .i64 f, .list (td.map Word.e), .list (hs.map House.e), .list (ns.map Word.e), .int .i64 i] = some (wforce ⟨⟨up, ⟨rs, f⟩, td⟩, hs, ns⟩ i).e := by
  rw [q_bu]
  by_cases h0 : i = 0
  · subst h0
    have e0 : in_ 0 1 3 = false := rfl
    cases up <;> simp (disch := first | assumption | omega | (simp only [zL]; omega)) only [F_bu, J_bu_0, m_l6In, wforce, dforce, e0, if_true, Int.reduceEq, reduceIte, zU, zT, getC] <;> simp [Wd.e, lforce]
  · have e1 : in_ i 1 3 = true := in_iff.2 (by omega)
    simp (disch := first | assumption | omega | (simp only [zL]; omega)) only [F_bu, J_bu_0, m_l6In, wforce, h0, if_false, e1, if_true, wrap64, rowHs, House.e, eqD, setHs, rowHsS, houseAt_eq, Int.reduceEq, reduceIte, zU, zT, getC]
    unfold hforce
    cases hu : (hsAt hs i).up with
    | true =>
      simp (disch := first | assumption | omega | (simp only [zL]; omega)) only [setHs, rowHsS, House.e, eqD, Int.reduceEq, reduceIte, zU, zT, getC]
      simp [Wd.e, setHouse, hu, lforce]
    | false =>
      have : setHouse ⟨⟨up, ⟨rs, f⟩, td⟩, hs, ns⟩ i (hsAt hs i) = ⟨⟨up, ⟨rs, f⟩, td⟩, hs, ns⟩ := by
        unfold setHouse; simp only; rw [set_self (by omega) (by omega)]
      simp only [Bool.false_eq_true, if_false, this, iteD_ff, retOf_ret]
      rfl

theorem m_l21Node (ho : WOk ⟨⟨up, ⟨rs, f⟩, td⟩, hs, ns⟩) {k a b : Int} {m : List (List C)} :
    φ_cj [.bool up, .list (rs.map Rec.e), .int .i64 f, .list (td.map Word.e), .list (hs.map House.e), .list (ns.map Word.e), .int .i64 k, .int .i64 a, .int .i64 b, .list m] = some (wnode ⟨⟨up, ⟨rs, f⟩, td⟩, hs, ns⟩ ⟨k, a, b, []⟩).e := by
  rw [q_cj]
  have hd : DkOk ⟨up, ⟨rs, f⟩, td⟩ := ho.dk
  have hlg : LgOk ⟨rs, f⟩ := hd.lg
  have hl : hs.length = 3 := ho.len
  have hh : ∀ h ∈ hs, h.lg.rs.length <= 1000000 := fun h hm => by
    obtain ⟨i, hi⟩ := List.mem_iff_getElem?.1 hm
    have := (ho.hs i h hi).1.lg.len; omega
  unfold wnode
  simp only
  cases ha : in_ a 0 3 with
  | false => simp (disch := first | assumption | omega | (simp only [zL]; omega)) only [F_cj, m_l6In, ha, Bool.not_false, Int.reduceEq, reduceIte, zU, zT, getC]; rfl
  | true =>
    have ha' := in_iff.1 ha
    simp only [if_true]
    by_cases h7 : k = 7
    · subst h7
      simp (disch := first | assumption | omega | (simp only [zL]; omega)) only [F_cj, m_l6In, ha, Bool.not_true, if_true, m_l21Force, Wd.e, Int.reduceEq, reduceIte, zU, zT, getC]
    · by_cases h8 : k = 8
      · subst h8
        by_cases a0 : a = 0
        · subst a0
          simp (disch := first | assumption | omega | (simp only [zL]; omega)) only [F_cj, m_l6In, ha, Bool.not_true, if_true, if_false, m_l13Fall, Desk.e, Int.reduceEq, reduceIte, zU, zT, getC]
          simp [Wd.e]
        · have hho := (ho.houseAt (i := a) (by omega)).2.1
          rw [houseAt_eq] at hho
          have hlo : LgOk ⟨(hsAt hs a).lg.rs, (hsAt hs a).lg.f⟩ := hho.lg
          simp (disch := first | assumption | omega | (simp only [zL]; omega)) only [F_cj, m_l6In, ha, Bool.not_true, if_true, if_false, a0, wrap64, rowHs, House.e, eqD, setHs, rowHsS, m_l1Fall, Log.e, houseAt_eq, List.length_set, Int.reduceEq, reduceIte, zU, zT, getC]
          simp [Wd.e, setHouse, hfall, House.e]
      · by_cases h9 : k = 9
        · subst h9
          by_cases a0 : a = 0
          · subst a0
            simp (disch := first | assumption | omega | (simp only [zL]; omega)) only [F_cj, m_l6In, ha, Bool.not_true, if_true, if_false, Int.reduceEq, reduceIte, zU, zT, getC]
            simp [Wd.e, drise]
          · simp (disch := first | assumption | omega | (simp only [zL]; omega)) only [F_cj, m_l6In, ha, Bool.not_true, if_true, if_false, a0, wrap64, rowHs, House.e, eqD, setHs, houseAt_eq, Int.reduceEq, reduceIte, zU, zT, getC]
            simp [Wd.e, setHouse, hrise]
        · simp (disch := first | assumption | omega | (simp only [zL]; omega)) only [F_cj, m_l6In, ha, Bool.not_true, if_false, h7, h8, h9, Int.reduceEq, reduceIte, zU, zT, getC]
          rfl

theorem m_l21Net (ho : WOk ⟨⟨up, ⟨rs, f⟩, td⟩, hs, ns⟩) (hL : td.length <= 1099511627774) {k a b : Int} {m : List (List C)} :
    φ_cw [.bool up, .list (rs.map Rec.e), .int .i64 f, .list (td.map Word.e), .list (hs.map House.e), .list (ns.map Word.e), .int .i64 k, .int .i64 a, .int .i64 b, .list m] = some (wnet ⟨⟨up, ⟨rs, f⟩, td⟩, hs, ns⟩ ⟨k, a, b, []⟩).e := by
  rw [q_cw]
  have hnl : ns.length <= 14 := ho.nlen
  unfold wnet
  simp only
  by_cases h0 : 0 <= a
  · by_cases h1 : a < ns.length
    · have e1 : in_ a 0 ((ns.length : Nat) - 1) = true := in_iff.2 (by omega)
      obtain ⟨n, rfl⟩ := Int.eq_ofNat_of_zero_le h0
      have hn : n < ns.length := by omega
      have hx : ns[n]? = some ns[n] := by simp [hn]
      have hxw := ho.ns ns[n] (List.mem_of_getElem? hx)
      have hxw' : WdOk ⟨ns[n].k, ns[n].h, ns[n].t, ns[n].m⟩ := hxw
      simp only [Int.toNat_natCast, h0, if_true, hx]
      by_cases h5 : k = 5
      · subst h5
        simp (disch := first | assumption | omega | (simp only [zL]; omega)) only [F_cw, m_l6In, wrap64, e1, Bool.not_true, row_W hx, Word.e, if_true, m_l21Take, Wd.e, Int.reduceEq, reduceIte, zU, zT, getC]
      · by_cases h6 : k = 6
        · subst h6
          simp (disch := first | assumption | omega | (simp only [zL]; omega)) only [F_cw, m_l6In, wrap64, e1, Bool.not_true, row_W hx, Word.e, if_true, if_false, h5, m_l21Put, Wd.e, Int.reduceEq, reduceIte, zU, zT, getC]
        · have ho2 := ho.take (n : Int)
          generalize hw2 : wtake ⟨⟨up, ⟨rs, f⟩, td⟩, hs, ns⟩ (n : Int) = w2 at ho2
          have htk := m_l21Take (up := up) (rs := rs) (f := f) (td := td) (hs := hs) (ns := ns) (by omega) h0 h1
          rw [hw2] at htk
          have ho2' : WOk ⟨⟨w2.dk.up, ⟨w2.dk.lg.rs, w2.dk.lg.f⟩, w2.dk.td⟩, w2.hs, w2.ns⟩ := ho2
          have hL2 : w2.dk.td.length <= 1099511627774 := by rw [<- hw2]; exact hL
          have hhe := ho2.hear hxw
          have hm := m_l21Hear ho2' hL2 hxw'
          simp only [eta_L, eta_D, eta_Wd, eta_W] at hm
          generalize (whear w2 ns[n]) = p at hhe hm
          obtain ⟨w3, o⟩ := p
          have hn3 : w3.ns.length <= 1000 := by have := hhe.1.nlen; simp only at this; omega
          simp only [Wd.e, Word.e, List.cons_append, List.nil_append] at hm htk
          simp (disch := first | assumption | omega | (simp only [zL]; omega)) only [F_cw, m_l6In, wrap64, e1, Bool.not_true, row_W hx, Word.e, h5, h6, if_false, htk, hm, Int.reduceEq, reduceIte, zU, zT, getC]
          cases o with
          | none => simp [wputO, Wd.e]
          | some y =>
            simp (disch := first | assumption | omega | (simp only [zL]; omega)) only [Option.isSome_some, oW, Option.getD_some, m_l21Put, Wd.e, wputO, Int.reduceEq, reduceIte, zU, zT, getC]
    · have e1 : in_ a 0 ((ns.length : Nat) - 1) = false := in_false.2 (by omega)
      have hx : ns[a.toNat]? = none := List.getElem?_eq_none (by omega)
      simp (disch := first | assumption | omega | (simp only [zL]; omega)) only [F_cw, m_l6In, wrap64, e1, Bool.not_false, h0, if_true, hx, Int.reduceEq, reduceIte, zU, zT, getC]
      rfl
  · have e1 : in_ a 0 ((ns.length : Nat) - 1) = false := in_false.2 (by omega)
    simp (disch := first | assumption | omega | (simp only [zL]; omega)) only [F_cw, m_l6In, wrap64, e1, Bool.not_false, h0, if_false, Int.reduceEq, reduceIte, zU, zT, getC]
    rfl

theorem m_l21Desk (ho : WOk ⟨⟨up, ⟨rs, f⟩, td⟩, hs, ns⟩) (hL : td.length <= 1099511627774) {k a b : Int} {m : List Int} (hm : m.length <= 1000000) :
    φ_cn [.bool up, .list (rs.map Rec.e), .int .i64 f, .list (td.map Word.e), .list (hs.map House.e), .list (ns.map Word.e), .int .i64 k, .int .i64 a, .int .i64 b, .list (m.map eI)] = some (wdesk ⟨⟨up, ⟨rs, f⟩, td⟩, hs, ns⟩ ⟨k, a, b, m⟩).e := by
  rw [q_cn]
  have hd : DkOk ⟨up, ⟨rs, f⟩, td⟩ := ho.dk
  have hlg : LgOk ⟨rs, f⟩ := hd.lg
  have hS := hlg.S
  have tA : TrOk (ltrips ⟨rs, f⟩ false) := hd.trOk false
  have lA := tA.len
  have hnl : ns.length <= 14 := ho.nlen
  unfold wdesk
  simp only
  by_cases h1 : k = 1
  · subst h1
    simp (disch := first | assumption | omega | (simp only [zL]; omega)) only [F_cn, m_tripsA, m_RecOk, wrap64, bothD_self, if_true, dbegin, dbeginR, dtrips, Int.reduceEq, reduceIte, zU, zT, getC]
    rcases Bool.eq_false_or_eq_true (recOk ⟨4, ((ltrips ⟨rs, f⟩ false).length : Int) + 1, m⟩) with hr | hr
    · simp (disch := first | assumption | omega | (simp only [zL]; omega)) only [hr, m_l13Write, Desk.e, List.cons_append, if_true, Int.reduceEq, reduceIte, zU, zT, getC]
      simp [Wd.e]
    · simp [hr, Wd.e]
  · by_cases h2 : k = 2
    · subst h2
      simp (disch := first | assumption | omega | (simp only [zL]; omega)) only [F_cn, m_l6In, if_true, if_false, dgive, Int.reduceEq, reduceIte, zU, zT, getC]
      cases hi : in_ a 1 6 with
      | false => simp [Wd.e]
      | true =>
        have hw := m_l13Write hd (k := 6) (t := a) (m := []) (by simp [recOk, in_iff, in_iff.1 hi])
        simp only [List.map_nil, Desk.e, List.cons_append, List.nil_append] at hw
        simp (disch := first | assumption | omega | (simp only [zL]; omega)) only [hw, Int.reduceEq, reduceIte, zU, zT, getC]
        simp [Wd.e]
    · by_cases h3 : k = 3
      · subst h3
        have hwl : (dwords ⟨up, ⟨rs, f⟩, td⟩).length <= 1000 := by have := dwords_len hd; omega
        generalize hwd : dwords ⟨up, ⟨rs, f⟩, td⟩ = l at hwl
        have hmw := m_l13Words hd (by omega)
        rw [hwd] at hmw
        by_cases h0 : 0 <= a
        · by_cases hlt : a < l.length
          · have e1 : in_ a 0 ((l.length : Nat) - 1) = true := in_iff.2 (by omega)
            obtain ⟨n, rfl⟩ := Int.eq_ofNat_of_zero_le h0
            have hn : n < l.length := by omega
            have hx : l[n]? = some l[n] := by simp [hn]
            simp (disch := first | assumption | omega | (simp only [zL]; omega)) only [F_cn, hmw, m_l6In, wrap64, e1, Int.toNat_natCast, h0, if_true, if_false, hx, row_W hx, Word.e, m_l21Put, Wd.e, Int.reduceEq, reduceIte, zU, zT, getC]
          · have e1 : in_ a 0 ((l.length : Nat) - 1) = false := in_false.2 (by omega)
            have hx : l[a.toNat]? = none := List.getElem?_eq_none (by omega)
            simp (disch := first | assumption | omega | (simp only [zL]; omega)) only [F_cn, hmw, m_l6In, wrap64, e1, h0, if_true, if_false, hx, Int.reduceEq, reduceIte, zU, zT, getC]
            rfl
        · have e1 : in_ a 0 ((l.length : Nat) - 1) = false := in_false.2 (by omega)
          simp (disch := first | assumption | omega | (simp only [zL]; omega)) only [F_cn, hmw, m_l6In, wrap64, e1, h0, if_true, if_false, Int.reduceEq, reduceIte, zU, zT, getC]
          rfl
      · simp (disch := first | assumption | omega | (simp only [zL]; omega)) only [F_cn, h1, h2, h3, if_false, Int.reduceEq, reduceIte, zU, zT, getC]
        rfl

theorem m_l21Do (ho : WOk ⟨⟨up, ⟨rs, f⟩, td⟩, hs, ns⟩) (hL : td.length <= 1099511627774) {k a b : Int} {m : List Int} (hm : m.length <= 1000000) :
    φ_du [.bool up, .list (rs.map Rec.e), .int .i64 f, .list (td.map Word.e), .list (hs.map House.e), .list (ns.map Word.e), .int .i64 k, .int .i64 a, .int .i64 b, .list (m.map eI)] = some (wdo ⟨⟨up, ⟨rs, f⟩, td⟩, hs, ns⟩ ⟨k, a, b, m⟩).e := by
  rw [q_du]
  have hA := fun k => m_l21Desk ho hL (k := k) (a := a) (b := b) hm
  have hB := fun k => m_l21Net ho hL (k := k) (a := a) (b := b) (m := m.map eI)
  have hC := fun k => m_l21Node ho (k := k) (a := a) (b := b) (m := m.map eI)
  have eB : ∀ k, wnet ⟨⟨up, ⟨rs, f⟩, td⟩, hs, ns⟩ ⟨k, a, b, []⟩ = wnet ⟨⟨up, ⟨rs, f⟩, td⟩, hs, ns⟩ ⟨k, a, b, m⟩ := fun _ => rfl
  have eC : ∀ k, wnode ⟨⟨up, ⟨rs, f⟩, td⟩, hs, ns⟩ ⟨k, a, b, []⟩ = wnode ⟨⟨up, ⟨rs, f⟩, td⟩, hs, ns⟩ ⟨k, a, b, m⟩ := fun _ => rfl
  simp only [eB, eC, Wd.e] at hA hB hC
  unfold wdo
  simp only [F_du, iteD_eq]
  by_cases c1 : k = 1 \/ k = 2 \/ k = 3
  · simp only [c1, if_true]
    rcases c1 with e | e | e <;> subst e <;> simp (disch := first | assumption | omega | (simp only [zL]; omega)) only [J_du_0, hA, Wd.e, if_true, if_false, BEq.rfl, Int.reduceEq, reduceIte, zU, zT, getC]
  · simp only [c1, if_false]
    have n1 : ¬ k = 1 := by omega
    have n2 : ¬ k = 2 := by omega
    have n3 : (k == 3) = false := by simpa using (by omega : ¬ k = 3)
    simp only [n1, n2, n3, if_false, joinD_jump, getC, C.toBool_bool, J_du_0, iteD_ff, iteD_eq]
    by_cases c2 : k = 4 \/ k = 5 \/ k = 6
    · simp only [c2, if_true]
      rcases c2 with e | e | e <;> subst e <;> simp (disch := first | assumption | omega | (simp only [zL]; omega)) only [hB, Wd.e, if_true, if_false, Int.reduceEq, reduceIte, zU, zT, getC]
    · simp only [c2, if_false]
      have n4 : ¬ k = 4 := by omega
      have n5 : ¬ k = 5 := by omega
      have n6 : ¬ k = 6 := by omega
      simp only [n4, n5, n6, if_false]
      by_cases c3 : k = 7 \/ k = 8 \/ k = 9
      · simp only [c3, if_true]
        rcases c3 with e | e | e <;> subst e <;> simp (disch := first | assumption | omega | (simp only [zL]; omega)) only [hC, Wd.e, if_true, if_false, Int.reduceEq, reduceIte, zU, zT, getC]
      · simp only [c3, if_false]
        have n7 : ¬ k = 7 := by omega
        have n8 : ¬ k = 8 := by omega
        have n9 : ¬ k = 9 := by omega
        simp only [n7, n8, n9, if_false]
        rfl
end
end Dx


/- What is drawn. -/
namespace Dx
open Go

theorem iter_ex {F : List C -> Option Out} {I : Nat -> List C -> Prop} {Q : Out -> Prop}
    (h : ∀ n ps, I n ps -> (∃ ps' n', n' < n /\ F ps = some (.jump ps') /\ I n' ps') \/ (∃ o, F ps = some (.up o) /\ Q o)) : ∀ (n : Nat) (ps : List C), I n ps -> ∃ o, iterD F ps = some o /\ Q o := by
  intro n
  induction n using Nat.strongRecOn with
  | _ n ih =>
    intro ps hI
    rcases h n ps hI with ⟨ps', n', hlt, h1, h2⟩ | ⟨o, h1, h2⟩
    · obtain ⟨o, h3, h4⟩ := ih n' hlt ps' h2
      exact ⟨o, by rw [iterD_eq, h1]; exact h3, h4⟩
    · exact ⟨o, by rw [iterD_eq, h1]; rfl, h2⟩
@[simp] theorem joinD_up (o : Out) (k : List C -> Option Out) : joinD (some (.up o)) k = some o := rfl

def Rd (bs : List Int) : Prop := bs.length <= 2000 /\ ∀ b ∈ bs, 0 <= b /\ b <= 255
theorem row_B {l : List Int} {i : Int} {x : Int} (h0 : 0 <= i) (h : l[i.toNat]? = some x) {kk : IntKind} {f : List C -> Option Out} : rowD (.list (l.map eB)) (.int kk i) [.int .u8] f = f (eB x) := rowD_mapI h0 h rfl

theorem xor_lt {a b : Int} (ha : 0 <= a /\ a < 1099511627776) (hb : 0 <= b /\ b < 1099511627776) : (BitVec.ofInt 64 a ^^^ BitVec.ofInt 64 b).toNat < 1099511627776 := by
  obtain ⟨n, rfl⟩ := Int.eq_ofNat_of_zero_le ha.1
  obtain ⟨m, rfl⟩ := Int.eq_ofNat_of_zero_le hb.1
  rw [BitVec.toNat_xor, BitVec.toNat_ofInt, BitVec.toNat_ofInt]
  have e1 : ((n : Int) % (2 ^ 64 : Nat)).toNat = n := by omega
  have e2 : ((m : Int) % (2 ^ 64 : Nat)).toNat = m := by omega
  rw [e1, e2]
  exact Nat.xor_lt_two_pow (n := 40) (by omega) (by omega)

theorem tmod_rng {x n : Int} (hx : 0 <= x) (hn : 1 <= n) : 0 <= Int.tmod x n /\ Int.tmod x n < n := ⟨Int.tmod_nonneg _ hx, Int.tmod_lt_of_pos _ (by omega)⟩

theorem m_pick {bs : List Int} (hb : Rd bs) {p n : Int} (h0 : 0 <= p) (h1 : p <= 1000000000) (hn : n <= 1000000000) :
    ∃ x, φ_bi [.list (bs.map eB), .int .i64 p, .int .i64 n] = some [.int .i64 x, .list (bs.map eB), .int .i64 (p + 1)] /\ 0 <= x /\ (1 <= n -> x < n) /\ x <= 1000000000 := by
  rw [q_bi]
  have w1 : IntKind.wrap .i64 (p + 1) = p + 1 := wrap64 (by omega) (by omega)
  have w2 : IntKind.wrap .i64 (p + 1 - 1) = p := by rw [wrap64 (by omega) (by omega)]; omega
  simp only [F_bi, w1, w2, iteD_dec, iteD_eq, List.length_map]
  by_cases c1 : n < 1
  · exact ⟨0, by simp [c1], by omega, by omega, by omega⟩
  simp only [c1, if_false]
  by_cases c2 : ((bs.length : Nat) : Int) = 0
  · exact ⟨0, by simp [c2], by omega, by omega, by omega⟩
  simp only [c2, if_false]
  have hl := hb.1
  have hn0 : (n != 0) = true := by simp; omega
  have hl0 : (((bs.length : Nat) : Int) != 0) = true := by rw [bne_iff_ne]; omega
  by_cases c3 : p < ((bs.length : Nat) : Int)
  · have hx : bs[p.toNat]? = some (bs[p.toNat]'(by omega)) := List.getElem?_eq_getElem (by omega)
    have hx2 := hb.2 _ (List.mem_of_getElem? hx)
    have w3 : IntKind.wrap .i64 (bs[p.toNat]'(by omega)) = bs[p.toNat]'(by omega) := wrap64 (by omega) (by omega)
    have := tmod_rng hx2.1 (show 1 <= n by omega)
    refine ⟨_, ?_, this.1, fun _ => this.2, by omega⟩
    simp only [c3, if_true, row_B h0 hx, eB, getC, C.toInt_int, w3, hn0, whenD_tt, retOf_ret]
  simp only [c3, if_false]
  have hmod : ∀ a : Int, 0 <= a -> 0 <= Int.tmod a (bs.length : Nat) /\ (Int.tmod a (bs.length : Nat)).toNat < bs.length := fun a ha => by
    have := tmod_rng ha (show (1 : Int) <= (bs.length : Nat) by omega)
    exact ⟨this.1, by omega⟩
  have hrow : ∀ (a : Int) (f : List C -> Option Out), 0 <= a -> ∃ x, 0 <= x /\ x <= 255 /\ rowD (.list (bs.map eB)) (.int .i64 (Int.tmod a (bs.length : Nat))) [.int .u8] f = f (eB x) := fun a f ha => by
    obtain ⟨m1, m2⟩ := hmod a ha
    have hx : bs[(Int.tmod a (bs.length : Nat)).toNat]? = some bs[(Int.tmod a (bs.length : Nat)).toNat] := by simp [m2]
    have hx2 := hb.2 _ (List.mem_of_getElem? hx)
    exact ⟨_, hx2.1, hx2.2, row_B m1 hx⟩
  simp only [hl0, whenD_tt]
  have w7 : IntKind.wrap .i64 (IntKind.wrap .i64 (p * 7) + 3) = p * 7 + 3 := by rw [wrap64 (x := p * 7) (by omega) (by omega), wrap64 (by omega) (by omega)]
  rw [w7]
  obtain ⟨x, hx1, hx2, e⟩ := hrow p _ h0
  rw [e]
  simp only [eB, getC, C.toInt_int]
  obtain ⟨y, hy1, hy2, e⟩ := hrow (p * 7 + 3) _ (by omega)
  rw [e]
  simp only [eB, getC, C.toInt_int]
  have hd : 0 <= Int.tdiv p (bs.length : Nat) /\ Int.tdiv p (bs.length : Nat) <= p := by
    obtain ⟨k, rfl⟩ := Int.eq_ofNat_of_zero_le h0
    rw [<- Int.ofNat_tdiv]
    have := Nat.div_le_self k bs.length
    generalize k / bs.length = d at this ⊢
    omega
  have s1 : IntKind.wrap .i64 x = x := wrap64 (by omega) (by omega)
  have s2 : IntKind.wrap .i64 y = y := wrap64 (by omega) (by omega)
  have s3 : IntKind.wrap .i64 (x * 131) = x * 131 := wrap64 (by omega) (by omega)
  have s4 : IntKind.wrap .i64 (y * 1117) = y * 1117 := wrap64 (by omega) (by omega)
  have s5 : IntKind.wrap .i64 (p * 29) = p * 29 := wrap64 (by omega) (by omega)
  have s6 : IntKind.wrap .i64 (x * 131 + y * 1117) = x * 131 + y * 1117 := wrap64 (by omega) (by omega)
  have s7 : IntKind.wrap .i64 (x * 131 + y * 1117 + p * 29) = x * 131 + y * 1117 + p * 29 := wrap64 (by omega) (by omega)
  have s8 : IntKind.wrap .i64 (Int.tdiv p (bs.length : Nat)) = Int.tdiv p (bs.length : Nat) := wrap64 (by omega) (by omega)
  have s9 : IntKind.wrap .i64 (Int.tdiv p (bs.length : Nat) * 53) = Int.tdiv p (bs.length : Nat) * 53 := wrap64 (by omega) (by omega)
  have s10 : IntKind.wrap .i64 (x * 131 + y * 1117 + p * 29 + Int.tdiv p (bs.length : Nat) * 53) = x * 131 + y * 1117 + p * 29 + Int.tdiv p (bs.length : Nat) * 53 := wrap64 (by omega) (by omega)
  simp only [s1, s2, s3, s4, s5, s6, s7, s8, s9, s10]
  generalize hz : x * 131 + y * 1117 + p * 29 + Int.tdiv p (bs.length : Nat) * 53 = z
  have hz' : 0 <= z /\ z < 1099511627776 := by omega
  have hq : 0 <= Int.tdiv z 64 /\ Int.tdiv z 64 < 1099511627776 := by
    obtain ⟨k, rfl⟩ := Int.eq_ofNat_of_zero_le hz'.1
    have : Int.tdiv (k : Int) 64 = ((k / 64 : Nat) : Int) := rfl
    rw [this]; omega
  have s11 : IntKind.wrap .i64 (Int.tdiv z 64) = Int.tdiv z 64 := wrap64 (by omega) (by omega)
  rw [s11]
  have hx := xor_lt hz' hq
  have s12 : IntKind.wrap .i64 ((BitVec.ofInt 64 z ^^^ BitVec.ofInt 64 (Int.tdiv z 64)).toNat : Int) = ((BitVec.ofInt 64 z ^^^ BitVec.ofInt 64 (Int.tdiv z 64)).toNat : Int) := wrap64 (by omega) (by omega)
  rw [s12]
  have := tmod_rng (x := ((BitVec.ofInt 64 z ^^^ BitVec.ofInt 64 (Int.tdiv z 64)).toNat : Int)) (by omega) (show 1 <= n by omega)
  exact ⟨_, by simp only [hn0, whenD_tt, retOf_ret], this.1, fun _ => this.2, by omega⟩

theorem picks {bs : List Int} (hb : Rd bs) : ∃ pk : Int -> Int -> Int, ∀ p n, 0 <= p -> p <= 1000000000 -> n <= 1000000000 ->
    φ_bi [.list (bs.map eB), .int .i64 p, .int .i64 n] = some [.int .i64 (pk p n), .list (bs.map eB), .int .i64 (p + 1)] /\ 0 <= pk p n /\ (1 <= n -> pk p n < n) /\ pk p n <= 1000000000 := by
  classical
  refine ⟨fun p n => if h : 0 <= p /\ p <= 1000000000 /\ n <= 1000000000 then Classical.choose (m_pick hb h.1 h.2.1 h.2.2) else 0, fun p n h0 h1 h2 => ?_⟩
  dsimp only
  rw [dif_pos ⟨h0, h1, h2⟩]
  exact Classical.choose_spec (m_pick hb h0 h1 h2)

theorem m_l6Open {code : List Int} (hl : code.length <= 1099511627776) (hc : ∀ b ∈ code, 0 <= b /\ b <= 255) : ∃ bs, Rd bs /\ φ_df [.list (code.map eB)] = some [.list (bs.map eB), .int .i64 0] := by
  rw [q_df]
  simp only [F_df, iteD_dec, List.length_map]
  by_cases h : ((code.length : Nat) : Int) > 2000
  · refine ⟨code.take 2000, ⟨by simp; omega, fun b hb => hc b (List.mem_of_mem_take hb)⟩, ?_⟩
    simp only [h, if_true]
    rw [whenD_dec2 (by omega) (by omega)]
    simp
  · exact ⟨code, ⟨by omega, hc⟩, by simp [h]⟩

theorem m_DeskNew : φ_cb [] = some deskNew.e := by rw [q_cb]; rfl

theorem m_HouseNew {id room : Int} : φ_bl [.int .i64 id, .int .i64 room] =
    some (if in_ id 1 3 && in_ room 0 9 then (⟨id, true, room, ⟨[], 0⟩⟩ : House).e ++ [.bool true] else (⟨0, false, 0, ⟨[], 0⟩⟩ : House).e ++ [.bool false]) := by
  rw [q_bl]
  simp (disch := first | assumption | omega | (simp only [zL]; omega)) only [F_bl, m_StockNew, m_l6In, Stock.e, List.cons_append, Int.reduceEq, reduceIte, zU, zT, getC]
  cases in_ id 1 3 <;> cases in_ room 0 9 <;> rfl

def nh : Nat -> List Int -> List House
  | _, [] => []
  | i, r :: rs => ⟨((i + 1 : Nat) : Int), true, r, ⟨[], 0⟩⟩ :: nh (i + 1) rs
theorem nh_eq : ∀ (rs : List Int) (i : Nat), nh i rs = (rs.zipIdx (i + 1)).map fun p => ⟨p.2, true, p.1, ⟨[], 0⟩⟩
  | [], i => rfl
  | r :: rs, i => by simp [nh, nh_eq rs (i + 1)]
def wd0 : Wd := ⟨⟨false, ⟨[], 0⟩, []⟩, [], []⟩

theorem m_WorldNew {rooms : List Int} (hL : rooms.length <= 1099511627775) : φ_bq [.list (rooms.map eI)] = some (((worldNew rooms).getD wd0).e ++ [.bool (worldNew rooms).isSome]) := by
  rw [q_bq]
  simp (disch := first | assumption | omega | (simp only [zL]; omega)) only [F_bq, m_DeskNew, Desk.e, deskNew, Int.reduceEq, reduceIte, zU, zT, getC]
  have key := iter_list0 (l := rooms) (F := fun ps => L_bq_0 (rooms.map eI) true [] 0 [] ((getC ps 0).toInt) ((getC ps 1).toList)) (enc := fun i (s : List House) => [.int .i64 i, .list (s.map House.e)])
    (res := fun xs i s => .ret (((if rooms.length = 3 /\ xs.all (fun n => in_ n 0 9) = true then some (⟨deskNew, s ++ nh i xs, []⟩ : Wd) else none).getD wd0).e ++ [.bool (if rooms.length = 3 /\ xs.all (fun n => in_ n 0 9) = true then some (⟨deskNew, s ++ nh i xs, []⟩ : Wd) else none).isSome])) (fun i s => s.length = i) (s := []) (by simp) ?_ ?_
  · have key : iterD _ [C.int .i64 0, C.list []] = _ := key
    simp only [List.map_nil] at key ⊢
    rw [key]
    have : (if rooms.length = 3 /\ rooms.all (fun n => in_ n 0 9) = true then some (⟨deskNew, [] ++ nh 0 rooms, []⟩ : Wd) else none) = worldNew rooms := by
      unfold worldNew newHouses
      rw [nh_eq]; simp
    rw [this]; rfl
  · intro i x xs s hx hs
    have hi := (List.getElem?_eq_some_iff.1 hx).1
    have hi' : (i : Int) < (rooms.length : Nat) := by omega
    simp only [L_bq_0, getC, C.toInt_int, C.toList_list, List.length_map, iteD_dec, hi', if_true, row_I hx, eI]
    simp (disch := first | assumption | omega | (simp only [zL]; omega)) only [wrap_nat, m_HouseNew]
    by_cases hok : (in_ ((i + 1 : Nat) : Int) 1 3 && in_ x 0 9) = true
    · have hr := in_iff.1 (Bool.and_eq_true_iff.1 hok).1
      rw [if_pos hok]
      simp only [House.e, List.cons_append, List.nil_append, cd_ibilib, getC, C.toInt_int, C.toList_list, C.toBool_bool, List.map_nil, Bool.not_true, iteD_ff]
      rw [whenD_b (by simp [LMAX_eq]; omega)]
      refine .inl ⟨s ++ [⟨((i + 1 : Nat) : Int), true, x, ⟨[], 0⟩⟩], by simp [House.e], by simp [hs], ?_⟩
      have := (Bool.and_eq_true_iff.1 hok).2
      simp [nh, this]
    · rw [if_neg hok]
      refine .inr ⟨_, rfl, ?_⟩
      have : ¬ (rooms.length = 3 /\ (x :: xs).all (fun n => in_ n 0 9) = true) := by
        intro ⟨h3, ha⟩
        simp only [List.all_cons, Bool.and_eq_true] at ha
        exact hok (Bool.and_eq_true_iff.2 ⟨in_iff.2 (by omega), ha.1⟩)
      simp only [this, if_false]; rfl
  · intro s hs
    have h : ¬ ((rooms.length : Int) < (rooms.length : Nat)) := by omega
    simp only [L_bq_0, getC, C.toInt_int, C.toList_list, List.length_map, iteD_dec, h, if_false, iteD_ne]
    by_cases h3 : rooms.length = 3
    · have h3' : ((rooms.length : Nat) : Int) = 3 := by omega
      simp [h3, upD, nh, Wd.e, deskNew]
    · have h3' : ¬ ((rooms.length : Nat) : Int) = 3 := by omega
      simp [h3, h3', upD, Wd.e, wd0]
end Dx


/- Plays, as they are drawn, and as they go. -/
namespace Dx
open Go

def EvS (e : Ev) : Prop := e.m.length <= 1000000

section
variable {bs : List Int}

def EvOut (bs : List Int) (p : Int) (r : Option (List C)) : Prop := ∃ (e : Ev) (p' : Int), r = some (e.e ++ [.list (bs.map eB), .int .i64 p']) /\ p <= p' /\ p' <= p + 10 /\ EvS e
theorem EvOut.ite {p : Int} {c : Prop} [Decidable c] {a b : Option (List C)} (ha : EvOut bs p a) (hb : EvOut bs p b) : EvOut bs p (if c then a else b) := by split <;> assumption
theorem evOut {p p' k a b : Int} (h1 : p <= p') (h2 : p' <= p + 10) : EvOut bs p (some [.int .i64 k, .int .i64 a, .int .i64 b, .list [], .list (bs.map eB), .int .i64 p']) := ⟨⟨k, a, b, []⟩, p', rfl, h1, h2, by simp [EvS]⟩
theorem evOut3 {p p' k a b x y z : Int} (h1 : p <= p') (h2 : p' <= p + 10) : EvOut bs p (some [.int .i64 k, .int .i64 a, .int .i64 b, .list [[.int .i64 x], [.int .i64 y], [.int .i64 z]], .list (bs.map eB), .int .i64 p']) := ⟨⟨k, a, b, [x, y, z]⟩, p', rfl, h1, h2, by simp [EvS]⟩

theorem ev0 (hb : Rd bs) {v p : Int} (h0 : 0 <= p) (h1 : p <= 900000000) (b : Bool) : EvOut bs p (retOf (J_bn_0 v (bs.map eB) p b)) := by
  obtain ⟨pk, hpk⟩ := picks hb
  have q := fun p n h0 h1 h2 => (hpk p n h0 h1 h2).1
  unfold J_bn_0
  simp (disch := first | assumption | omega | (simp only [zL]; omega)) only [q, Int.reduceEq, reduceIte, zU, zT, getC]
  cases b with
  | true => simp only [iteD_tt, retOf_ret]; exact evOut (by omega) (by omega)
  | false =>
    simp only [iteD_ff, retOf_ite, retOf_ret]
    refine EvOut.ite (evOut (by omega) (by omega)) (EvOut.ite (evOut (by omega) (by omega)) (EvOut.ite (evOut (by omega) (by omega)) (EvOut.ite (evOut (by omega) (by omega)) (EvOut.ite (evOut (by omega) (by omega)) (evOut (by omega) (by omega))))))

theorem ev1 (hb : Rd bs) {n ws v p : Int} (h0 : 0 <= p) (h1 : p <= 900000000) (hn : 0 <= n /\ n <= 1000) (hw : 0 <= ws /\ ws <= 1000) (b : Bool) : EvOut bs p (retOf (J_bn_1 n ws v (bs.map eB) p b)) := by
  obtain ⟨pk, hpk⟩ := picks hb
  have q := fun p n h0 h1 h2 => (hpk p n h0 h1 h2).1
  have j := fun b => ev0 hb (v := v) h0 h1 b
  unfold J_bn_1
  simp (disch := first | assumption | omega | (simp only [zL]; omega)) only [q, wrap64, Int.reduceEq, reduceIte, zU, zT, getC]
  cases b with
  | true => simp only [iteD_tt, retOf_ret]; exact evOut (by omega) (by omega)
  | false =>
    simp only [iteD_ff, retOf_ite, retOf_ret]
    refine EvOut.ite (evOut (by omega) (by omega)) (EvOut.ite (evOut (by omega) (by omega)) (EvOut.ite (j _) (EvOut.ite (j _) (j _))))

theorem ev2 (hb : Rd bs) {n tr ws v p : Int} (h0 : 0 <= p) (h1 : p <= 900000000) (hn : 0 <= n /\ n <= 1000) (ht : 0 <= tr /\ tr <= 1000) (hw : 0 <= ws /\ ws <= 1000) (b : Bool) : EvOut bs p (retOf (J_bn_2 n tr ws v (bs.map eB) p b)) := by
  obtain ⟨pk, hpk⟩ := picks hb
  have q := fun p n h0 h1 h2 => (hpk p n h0 h1 h2).1
  have j := fun b => ev1 hb (v := v) h0 h1 hn hw b
  unfold J_bn_2
  simp (disch := first | assumption | omega | (simp only [zL]; omega)) only [q, wrap64, Int.reduceEq, reduceIte, zU, zT, getC]
  cases b with
  | true => simp only [iteD_tt, retOf_ret]; exact evOut3 (by omega) (by omega)
  | false =>
    simp only [iteD_ff, retOf_ite, retOf_ret]
    refine EvOut.ite (evOut (by omega) (by omega)) (EvOut.ite (j _) (EvOut.ite (j _) (EvOut.ite (j _) (EvOut.ite (j _) (j _)))))

def EvOut' (bs : List Int) (p : Int) (r : Option (List C)) : Prop := ∃ (e : Ev) (p' : Int), r = some (e.e ++ [.list (bs.map eB), .int .i64 p']) /\ p <= p' /\ p' <= p + 20 /\ EvS e
theorem EvOut.up {p q : Int} {r : Option (List C)} (h : EvOut bs p r) (h1 : q <= p) (h2 : p <= q + 10) : EvOut' bs q r := by
  obtain ⟨e, p', e1, e2, e3, e4⟩ := h
  exact ⟨e, p', e1, by omega, by omega, e4⟩
theorem EvOut'.ite {p : Int} {c : Prop} [Decidable c] {a b : Option (List C)} (ha : EvOut' bs p a) (hb : EvOut' bs p b) : EvOut' bs p (if c then a else b) := by split <;> assumption

theorem ev3 (hb : Rd bs) {n tr ws p : Int} (h0 : 0 <= p) (h1 : p <= 800000000) (hn : 0 <= n /\ n <= 1000) (ht : 0 <= tr /\ tr <= 1000) (hw : 0 <= ws /\ ws <= 1000) : EvOut bs (p + 1) (retOf (J_bn_3 n tr ws (bs.map eB) p)) := by
  obtain ⟨pk, hpk⟩ := picks hb
  have q := fun p n h0 h1 h2 => (hpk p n h0 h1 h2).1
  have j := fun v b => ev2 hb (n := n) (tr := tr) (ws := ws) (v := v) (p := p + 1) (by omega) (by omega) hn ht hw b
  unfold J_bn_3
  simp (disch := first | assumption | omega | (simp only [zL]; omega)) only [q, Int.reduceEq, reduceIte, zU, zT, getC]
  by_cases hv : pk p 20 = 0
  · simp only [hv, if_true]; exact j _ _
  · simp only [hv, if_false]; exact j _ _

theorem dwords_lenD {d : Desk} (h : DkOk ⟨d.up, d.lg, []⟩) : (dwords d).length <= 18 := by
  have tF : TrOk (ltrips d.lg true) := h.trOk true
  have lF := tF.len
  unfold dwords
  split
  · have := allSay_len d.td (dtrips d true) 1 fun x hx => by
      have := manyOk_len (tripOk_iff.1 (tF.ok x hx)).1
      omega
    have e : (dtrips d true).length = (ltrips d.lg true).length := rfl
    omega
  · simp
theorem m_l72EventD (hb : Rd bs) {p : Int} (h0 : 0 <= p) (h1 : p <= 700000000) {w : Wd} (hd : DkOk ⟨w.dk.up, ⟨w.dk.lg.rs, w.dk.lg.f⟩, []⟩) (htl : w.dk.td.length <= 1000) (hnl : w.ns.length <= 1000) :
    EvOut' bs p (φ_bn [.list (bs.map eB), .int .i64 p, .bool w.dk.up, .list (w.dk.lg.rs.map Rec.e), .int .i64 w.dk.lg.f, .list (w.dk.td.map Word.e), .list (w.hs.map House.e), .list (w.ns.map Word.e)]) := by
  rw [q_bn]
  obtain ⟨pk, hpk⟩ := picks hb
  have q := fun p n h0 h1 h2 => (hpk p n h0 h1 h2).1
  have hS := hd.lg.S
  have hS' : LgS ⟨w.dk.lg.rs, w.dk.lg.f⟩ := hS
  have lA := (hd.trOk false).len
  have hwl : (dwords w.dk).length <= 18 := dwords_lenD (d := w.dk) hd
  simp only [dtrips] at lA
  have lA' : (ltrips w.dk.lg false).length <= 6 := lA
  have j := fun p h0 h1 => ev3 hb (n := ((w.ns.length : Nat) : Int)) (tr := ((ltrips w.dk.lg false).length : Nat)) (ws := ((dwords w.dk).length : Nat)) (p := p) h0 h1 (by omega) (by omega) (by omega)
  simp (disch := first | assumption | omega | (simp only [zL]; omega)) only [F_bn, m_tripsA, m_l13WordsD hd, q, joinD_up, Int.reduceEq, reduceIte, zU, zT, getC]
  by_cases hz : ((w.ns.length : Nat) : Int) > 0
  · simp only [hz, if_true]
    refine EvOut'.ite ?_ ?_
    · exact ⟨⟨4, _, 0, []⟩, p + 1 + 1, rfl, by omega, by omega, by simp [EvS]⟩
    · exact (j (p + 1) (by omega) (by omega)).up (by omega) (by omega)
  · simp only [hz, if_false]
    exact (j p h0 (by omega)).up (by omega) (by omega)

theorem m_l72Event (hb : Rd bs) {p : Int} (h0 : 0 <= p) (h1 : p <= 700000000) {w : Wd} (ho : WOk w) :
    EvOut' bs p (φ_bn [.list (bs.map eB), .int .i64 p, .bool w.dk.up, .list (w.dk.lg.rs.map Rec.e), .int .i64 w.dk.lg.f, .list (w.dk.td.map Word.e), .list (w.hs.map House.e), .list (w.ns.map Word.e)]) :=
  m_l72EventD hb h0 h1 ho.dk.bare (by have := ho.dk.tdlen; omega) (by have := ho.nlen; omega)

theorem m_l72Rooms (hb : Rd bs) {p : Int} (h0 : 0 <= p) (h1 : p <= 700000000) :
    ∃ a b c, φ_bk [.list (bs.map eB), .int .i64 p] = some [.list ([a, b, c].map eI), .list (bs.map eB), .int .i64 (p + 1 + 1 + 1)] /\ 0 <= a /\ a <= 5 /\ 0 <= b /\ b <= 5 /\ 1 <= c /\ c <= 5 := by
  rw [q_bk]
  obtain ⟨pk, hpk⟩ := picks hb
  have q := fun p n h0 h1 h2 => (hpk p n h0 h1 h2).1
  have r1 := hpk p 6 h0 (by omega) (by omega)
  have r2 := hpk (p + 1) 6 (by omega) (by omega) (by omega)
  have r3 := hpk (p + 1 + 1) 5 (by omega) (by omega) (by omega)
  have b1 := r1.2.2.1 (by omega)
  have b2 := r2.2.2.1 (by omega)
  have b3 := r3.2.2.1 (by omega)
  refine ⟨pk p 6, pk (p + 1) 6, 1 + pk (p + 1 + 1) 5, ?_, r1.2.1, by omega, r2.2.1, by omega, by omega, by omega⟩
  simp (disch := first | assumption | omega | (simp only [zL]; omega)) only [F_bk, q, wrap64, Int.reduceEq, reduceIte, zU, zT, getC]
  rfl
end

theorem wplays_append (w : Wd) (a b : List Ev) : wplays w (a ++ b) = wplays (wplays w a) b := by
  induction a generalizing w with
  | nil => rfl
  | cons e es ih => exact ih _

structure Drawn (w0 : Wd) (es : List Ev) (w : Wd) (n : Nat) : Prop where
  play : w = wplays w0 es
  len : es.length <= n
  sz : ∀ e ∈ es, EvS e
theorem Drawn.snoc {w0 w : Wd} {es : List Ev} {n : Nat} (h : Drawn w0 es w n) {e : Ev} (he : EvS e) : Drawn w0 (es ++ [e]) (wdo w e) (n + 1) :=
  ⟨by rw [h.play, wplays_append]; rfl, by have := h.len; simp; omega, fun x hx => by
    rcases List.mem_append.1 hx with hx | hx
    · exact h.sz x hx
    · simp at hx; exact hx ▸ he⟩

theorem m_l21Do' {w : Wd} (ho : WOk w) {e : Ev} (he : EvS e) :
    φ_du [.bool w.dk.up, .list (w.dk.lg.rs.map Rec.e), .int .i64 w.dk.lg.f, .list (w.dk.td.map Word.e), .list (w.hs.map House.e), .list (w.ns.map Word.e), .int .i64 e.k, .int .i64 e.a, .int .i64 e.b, .list (e.m.map eI)] = some (wdo w e).e :=
  m_l21Do (up := w.dk.up) (rs := w.dk.lg.rs) (f := w.dk.lg.f) (td := w.dk.td) (hs := w.hs) (ns := w.ns) ho (by have := ho.dk.tdlen; omega) he

theorem row_E {l : List Ev} {i : Nat} {x : Ev} (h : l[i]? = some x) {kk : IntKind} {f : List C -> Option Out} : rowD (.list (l.map Ev.e)) (.int kk i) [.int .i64, .int .i64, .int .i64, .list] f = f x.e := rowD_map h rfl

theorem m_l72Play {bs : List Int} (hb : Rd bs) {p : Int} (h0 : 0 <= p) (h1 : p <= 1000) :
    ∃ a b c w0 es w p', φ_cg [.list (bs.map eB), .int .i64 p] = some ([.list ([a, b, c].map eI), .list (es.map Ev.e)] ++ (w.e ++ [.list (bs.map eB), .int .i64 p'])) /\ 0 <= a /\ a <= 5 /\ 0 <= b /\ b <= 5 /\ 1 <= c /\ c <= 5 ∧
      worldNew [a, b, c] = some w0 /\ Drawn w0 es w 74 /\ 0 <= p' /\ p' <= p + 2000 := by
  rw [q_cg]
  obtain ⟨pk, hpk⟩ := picks hb
  have q := fun p n h0 h1 h2 => (hpk p n h0 h1 h2).1
  obtain ⟨a, b, c, hr, ha1, ha2, hb1, hb2, hc1, hc2⟩ := m_l72Rooms hb h0 (by omega)
  have hw0 : worldNew [a, b, c] = some ⟨deskNew, newHouses [a, b, c], []⟩ := by
    unfold worldNew
    rw [if_pos]
    simp [in_]; omega
  generalize hw : (⟨deskNew, newHouses [a, b, c], []⟩ : Wd) = w0 at hw0
  have ok0 := worldNew_ok hw0
  have hwn := m_WorldNew (rooms := [a, b, c]) (by simp)
  rw [hw0] at hwn
  simp only [Option.getD_some, Option.isSome_some, Wd.e, List.cons_append, List.nil_append] at hwn
  simp (disch := first | assumption | omega | (simp only [zL]; omega)) only [F_cg, hr, hwn, q, Int.reduceEq, reduceIte, zU, zT, getC]
  -- the events that are drawn one by one
  have tail : ∀ (w1 : Wd) (es1 : List Ev), Drawn w0 es1 w1 2 -> ∃ es w p', retOf (J_cg_1 ([a, b, c].map eI) w1.dk.up w1.dk.lg.f (bs.map eB) (p + 1 + 1 + 1 + 1) (es1.map Ev.e) (w1.dk.lg.rs.map Rec.e) (w1.dk.td.map Word.e) (w1.hs.map House.e) (w1.ns.map Word.e)) =
      some ([.list ([a, b, c].map eI), .list (es.map Ev.e)] ++ (w.e ++ [.list (bs.map eB), .int .i64 p'])) /\ Drawn w0 es w 74 /\ 0 <= p' /\ p' <= p + 2000 := by
    intro w1 es1 hd1
    unfold J_cg_1
    simp (disch := first | assumption | omega | (simp only [zL]; omega)) only [q, Int.reduceEq, reduceIte, zU, zT, getC]
    have hn := hpk (p + 1 + 1 + 1 + 1) 72 (by omega) (by omega) (by omega)
    have hn2 := hn.2.2.1 (by omega)
    have hn1 := hn.2.1
    generalize pk (p + 1 + 1 + 1 + 1) 72 = n0 at hn1 hn2
    obtain ⟨n, rfl⟩ := Int.eq_ofNat_of_zero_le hn1
    have key := iter_ex (F := fun ps => L_cg_0 ([a, b, c].map eI) ((getC ps 0).toInt) ((getC ps 1).toList) ((getC ps 2).toInt) ((getC ps 3).toBool) ((getC ps 4).toInt) ((getC ps 5).toList) ((getC ps 6).toList) ((getC ps 7).toList) ((getC ps 8).toList) ((getC ps 9).toList))
      (I := fun k ps => ∃ es w p', ps = [.int .i64 (k : Int), .list (bs.map eB), .int .i64 p', .bool w.dk.up, .int .i64 w.dk.lg.f, .list (es.map Ev.e), .list (w.dk.lg.rs.map Rec.e), .list (w.dk.td.map Word.e), .list (w.hs.map House.e), .list (w.ns.map Word.e)] /\ k <= 72 /\ Drawn w0 es w (74 - k) /\ 0 <= p' /\ p' <= p + 5 + 20 * (72 - k))
      (Q := fun o => ∃ es w p', o = .ret ([.list ([a, b, c].map eI), .list (es.map Ev.e)] ++ (w.e ++ [.list (bs.map eB), .int .i64 p'])) /\ Drawn w0 es w 74 /\ 0 <= p' /\ p' <= p + 2000) ?_ n _
      ⟨es1, w1, p + 1 + 1 + 1 + 1 + 1, rfl, by omega, ⟨hd1.play, by have := hd1.len; omega, hd1.sz⟩, by omega, by omega⟩
    · obtain ⟨o, h1, es, w, p', rfl, h2, h3, h4⟩ := key
      exact ⟨es, w, p', by rw [h1]; rfl, h2, h3, h4⟩
    · rintro k ps ⟨es, w, p', rfl, hk, hd, hp0, hp1⟩
      have ow : WOk w := by rw [hd.play]; exact ok0.plays es
      simp only [getC, C.toInt_int, C.toBool_bool, C.toList_list]
      unfold L_cg_0
      simp only [iteD_dec]
      by_cases hk0 : (k : Int) > 0
      · left
        simp only [hk0, if_true]
        obtain ⟨e, p2, he, he1, he2, he3⟩ := m_l72Event hb hp0 (by omega) ow
        rw [he]
        simp only [Ev.e, List.cons_append, List.nil_append, cd_iiilli, getC, C.toInt_int, C.toList_list]
        rw [m_l21Do' ow he3]
        have hlen := hd.len
        rw [whenD_b (by simp [LMAX_eq]; omega)]
        simp only [Wd.e, cd_blilll, getC, C.toInt_int, C.toList_list, C.toBool_bool]
        refine ⟨_, k - 1, by omega, rfl, es ++ [e], wdo w e, p2, ?_, by omega, ?_, by omega, by omega⟩
        · rw [wrap64 (by omega) (by omega)]
          have : (k : Int) - 1 = ((k - 1 : Nat) : Int) := by omega
          rw [this]; simp [Ev.e]
        · have := hd.snoc he3
          exact ⟨this.play, by have := this.len; omega, this.sz⟩
      · right
        simp only [hk0, if_false]
        exact ⟨_, rfl, es, w, p', rfl, ⟨hd.play, by have := hd.len; omega, hd.sz⟩, hp0, by omega⟩
  have fin : ∀ (w1 : Wd) (es1 : List Ev), Drawn w0 es1 w1 2 -> ∃ a' b' c' w0' es w p', retOf (J_cg_1 ([a, b, c].map eI) w1.dk.up w1.dk.lg.f (bs.map eB) (p + 1 + 1 + 1 + 1) (es1.map Ev.e) (w1.dk.lg.rs.map Rec.e) (w1.dk.td.map Word.e) (w1.hs.map House.e) (w1.ns.map Word.e)) =
      some ([.list ([a', b', c'].map eI), .list (es.map Ev.e)] ++ (w.e ++ [.list (bs.map eB), .int .i64 p'])) /\ 0 <= a' /\ a' <= 5 /\ 0 <= b' /\ b' <= 5 /\ 1 <= c' /\ c' <= 5 /\ worldNew [a', b', c'] = some w0' /\ Drawn w0' es w 74 /\ 0 <= p' /\ p' <= p + 2000 := by
    intro w1 es1 hd1
    obtain ⟨es, w, p', h1, h2, h3, h4⟩ := tail w1 es1 hd1
    exact ⟨a, b, c, w0, es, w, p', h1, ha1, ha2, hb1, hb2, hc1, hc2, hw0, h2, h3, h4⟩
  by_cases hz : pk (p + 1 + 1 + 1) 3 > 0
  · simp only [hz, if_true]
    have e1 : EvS ⟨1, 0, 0, [1, 1, 1]⟩ := by simp [EvS]
    have e2 : EvS ⟨7, 0, 0, []⟩ := by simp [EvS]
    have key := iter_list0 (l := [(⟨1, 0, 0, [1, 1, 1]⟩ : Ev), ⟨7, 0, 0, []⟩]) (F := fun ps => L_cg_2 (bs.map eB) (p + 1 + 1 + 1 + 1) ([(⟨1, 0, 0, [1, 1, 1]⟩ : Ev), ⟨7, 0, 0, []⟩].map Ev.e) 2 ((getC ps 0).toInt) ((getC ps 1).toBool) ((getC ps 2).toInt) ((getC ps 3).toList) ((getC ps 4).toList) ((getC ps 5).toList) ((getC ps 6).toList) ((getC ps 7).toList))
      (enc := fun i (s : List Ev × Wd) => [.int .i64 i, .bool s.2.dk.up, .int .i64 s.2.dk.lg.f, .list (s.1.map Ev.e), .list (s.2.dk.lg.rs.map Rec.e), .list (s.2.dk.td.map Word.e), .list (s.2.hs.map House.e), .list (s.2.ns.map Word.e)])
      (res := fun xs _ s => .jump [.bool (wplays s.2 xs).dk.up, .int .i64 (wplays s.2 xs).dk.lg.f, .list (bs.map eB), .int .i64 (p + 1 + 1 + 1 + 1), .list ((s.1 ++ xs).map Ev.e), .list ((wplays s.2 xs).dk.lg.rs.map Rec.e), .list ((wplays s.2 xs).dk.td.map Word.e), .list ((wplays s.2 xs).hs.map House.e), .list ((wplays s.2 xs).ns.map Word.e)])
      (fun i s => WOk s.2 /\ s.1.length = i) (s := ([], w0)) ⟨ok0, rfl⟩ ?_ ?_
    · have key : iterD (fun ps => L_cg_2 (bs.map eB) (p + 1 + 1 + 1 + 1) [[C.int .i64 1, C.int .i64 0, C.int .i64 0, C.list [[C.int .i64 1], [C.int .i64 1], [C.int .i64 1]]], [C.int .i64 7, C.int .i64 0, C.int .i64 0, C.list []]] (((0 + 1 + 1 : Nat) : Int)) ((getC ps 0).toInt) ((getC ps 1).toBool) ((getC ps 2).toInt) ((getC ps 3).toList) ((getC ps 4).toList) ((getC ps 5).toList) ((getC ps 6).toList) ((getC ps 7).toList))
        [C.int .i64 0, C.bool w0.dk.up, C.int .i64 w0.dk.lg.f, C.list [], C.list (w0.dk.lg.rs.map Rec.e), C.list (w0.dk.td.map Word.e), C.list (w0.hs.map House.e), C.list (w0.ns.map Word.e)] = _ := key
      rw [key]
      exact fin _ _ ⟨rfl, by simp, fun e he => by
        simp at he; rcases he with rfl | rfl <;> assumption⟩
    · rintro i x xs ⟨es, w⟩ hx ⟨ow, hl⟩
      have hi := (List.getElem?_eq_some_iff.1 hx).1
      have hi' : (i : Int) < 2 := by simp at hi; omega
      have hx3 : EvS x := by
        have := List.mem_of_getElem? hx
        simp at this; rcases this with rfl | rfl <;> assumption
      simp only at hl
      simp only [getC, C.toInt_int, C.toBool_bool, C.toList_list]
      unfold L_cg_2
      simp only [iteD_dec, hi', if_true, row_E hx, Ev.e, getC, C.toInt_int, C.toList_list, m_l21Do' ow hx3]
      rw [whenD_b (by simp; omega), whenD_b (by simp [LMAX_eq]; omega)]
      simp only [Wd.e, cd_blilll, getC, C.toInt_int, C.toList_list, C.toBool_bool]
      rw [wrap_nat (by omega)]
      refine .inl ⟨(es ++ [x], wdo w x), ?_, ⟨ow.do_ x, by simp [hl]⟩, ?_⟩
      · simp [Ev.e]
      · simp [wplays]
    · rintro ⟨es, w⟩ ⟨ow, hl⟩
      simp only [getC, C.toInt_int, C.toBool_bool, C.toList_list]
      unfold L_cg_2
      simp [iteD_dec, wplays]
  · simp only [hz, if_false]
    exact fin w0 [] ⟨rfl, by simp, by simp⟩

end Dx


/- The program's records, logs, trips. -/
namespace Dx
open Go

def fidx {α : Type} (p : α -> Bool) : Nat -> List α -> Int
  | _, [] => -1
  | i, x :: xs => if p x then (i : Int) else fidx p (i + 1) xs
theorem fidx_any {α : Type} (p : α -> Bool) : ∀ (xs : List α) (i : Nat), (fidx p i xs >= 0) ↔ xs.any p = true
  | [], i => by simp [fidx]
  | x :: xs, i => by
    simp only [fidx, List.any_cons, Bool.or_eq_true]
    by_cases h : p x = true
    · rw [if_pos h]; simp [h]
    · rw [if_neg h, fidx_any p xs (i + 1)]; simp [h]
theorem idxLoop {α : Type} {F : List C -> Option Out} {l : List α} (p : α -> Bool)
    (hs : ∀ (i : Nat) (x : α), l[i]? = some x -> F [.int .i64 i] = if p x then some (.up (.ret [.int .i64 i])) else some (.jump [.int .i64 ((i + 1 : Nat) : Int)]))
    (hf : F [.int .i64 (l.length : Nat)] = some (.up (.ret [.int .i64 (-1)]))) : iterD F [.int .i64 0] = some (.ret [.int .i64 (fidx p 0 l)]) := by
  have := iter_list0 (l := l) (F := F) (enc := fun i (_ : Unit) => [.int .i64 i]) (res := fun xs i _ => .ret [.int .i64 (fidx p i xs)]) (fun _ _ => True) (s := ()) trivial
    (fun i x xs s hx _ => by
      rw [hs i x hx]
      cases h : p x with
      | true => exact .inr ⟨_, rfl, by simp [fidx, h]⟩
      | false => exact .inl ⟨(), rfl, trivial, by simp [fidx, h]⟩)
    (fun s _ => hf)
  exact this

theorem i_in (n lo hi : Int) : φ_ec [.int .i64 n, .int .i64 lo, .int .i64 hi] = some [.bool (in_ n lo hi)] := by
  rw [q_ec]
  simp only [F_ec, ge_iff_le, in_]
  cases decide (lo <= n) <;> rfl
theorem i_isTrip (n : Int) : φ_cy [.int .i64 n] = some [.bool (in_ n 1 6)] := by
  rw [q_cy]; simp (disch := first | assumption | omega | (simp only [zL]; omega)) only [F_cy, i_in, Int.reduceEq, reduceIte, zU, zT, getC]
theorem i_isHouse (n : Int) : φ_ci [.int .i64 n] = some [.bool (in_ n 1 3)] := by
  rw [q_ci]; simp (disch := first | assumption | omega | (simp only [zL]; omega)) only [F_ci, i_in, Int.reduceEq, reduceIte, zU, zT, getC]

theorem i_w1 (n : Int) : φ_aq [.int .i64 n] = some [.bool (!in_ n 0 3)] := by
  rw [q_aq]; simp (disch := first | assumption | omega | (simp only [zL]; omega)) only [F_aq, i_in, Int.reduceEq, reduceIte, zU, zT, getC]
theorem i_w2 (n : Int) : φ_ar [.int .i64 n] = some [.bool (n != 0)] := by
  rw [q_ar]; simp (disch := first | assumption | omega | (simp only [zL]; omega)) only [F_ar, Int.reduceEq, reduceIte, zU, zT, getC]
theorem i_ix1 {m : List Int} (hL : m.length <= 1099511627776) : φ_ag [.list (m.map eI)] = some [.int .i64 (fidx (fun n => !in_ n 0 3) 0 m)] := by
  rw [q_ag]; unfold F_ag
  simp only [List.length_map]
  rw [idxLoop (l := m) (fun n => !in_ n 0 3)]
  · rfl
  · intro i x hx
    have hi := (List.getElem?_eq_some_iff.1 hx).1
    have hi' : (i : Int) < (m.length : Nat) := by omega
    simp (disch := first | assumption | omega | (simp only [zL]; omega)) only [L_ag_0, row_I hx, eI, wrap_nat, hi', if_true, i_w1, Int.reduceEq, reduceIte, zU, zT, getC]
    cases in_ x 0 3 <;> rfl
  · have h : ¬ ((m.length : Int) < (m.length : Nat)) := by omega
    simp (disch := first | assumption | omega | (simp only [zL]; omega)) only [L_ag_0, h, if_false, Int.reduceEq, reduceIte, zU, zT, getC]
theorem i_ix2 {m : List Int} (hL : m.length <= 1099511627776) : φ_ah [.list (m.map eI)] = some [.int .i64 (fidx (fun n => n != 0) 0 m)] := by
  rw [q_ah]; unfold F_ah
  simp only [List.length_map]
  rw [idxLoop (l := m) (fun n => n != 0)]
  · rfl
  · intro i x hx
    have hi := (List.getElem?_eq_some_iff.1 hx).1
    have hi' : (i : Int) < (m.length : Nat) := by omega
    simp (disch := first | assumption | omega | (simp only [zL]; omega)) only [L_ah_0, row_I hx, eI, wrap_nat, hi', if_true, i_w2, Int.reduceEq, reduceIte, zU, zT, getC]
    by_cases h : x = 0 <;> simp [h]
  · have h : ¬ ((m.length : Int) < (m.length : Nat)) := by omega
    simp (disch := first | assumption | omega | (simp only [zL]; omega)) only [L_ah_0, h, if_false, Int.reduceEq, reduceIte, zU, zT, getC]
theorem i_cf1 {m : List Int} (hL : m.length <= 1099511627776) : φ_ae [.list (m.map eI)] = some [.bool (m.any fun n => !in_ n 0 3)] := by
  rw [q_ae]; simp (disch := first | assumption | omega | (simp only [zL]; omega)) only [F_ae, i_ix1, fidx_any, Bool.decide_eq_true, Int.reduceEq, reduceIte, zU, zT, getC]
theorem i_cf2 {m : List Int} (hL : m.length <= 1099511627776) : φ_ad [.list (m.map eI)] = some [.bool (m.any fun n => n != 0)] := by
  rw [q_ad]; simp (disch := first | assumption | omega | (simp only [zL]; omega)) only [F_ad, i_ix2, fidx_any, Bool.decide_eq_true, Int.reduceEq, reduceIte, zU, zT, getC]

theorem i_wantedOk {m : List Int} (hL : m.length <= 1099511627776) : φ_br [.list (m.map eI)] = some [.bool (manyOk m)] := by
  rw [q_br]
  simp (disch := first | assumption | omega | (simp only [zL]; omega)) only [F_br, i_cf1, i_cf2, Int.reduceEq, reduceIte, zU, zT, getC]
  by_cases h : m.length = 3
  · have h' : ((m.length : Nat) : Int) = 3 := by omega
    simp only [h', if_true]
    match m, h with
    | [a, b, c], _ =>
      have e1 : ∀ x : Int, in_ x 0 3 = true -> 0 <= x := fun x hx => (in_iff.1 hx).1
      cases ha : in_ a 0 3 <;> cases hb : in_ b 0 3 <;> cases hc : in_ c 0 3 <;> simp [manyOk, ha, hb, hc]
      have := e1 a ha; have := e1 b hb; have := e1 c hc
      rw [Bool.eq_iff_iff]; simp; omega
  · have h' : ¬ ((m.length : Nat) : Int) = 3 := by omega
    simp [h, h', manyOk]

theorem i_RecOk {k t : Int} {m : List Int} (hL : m.length <= 1099511627776) : φ_dy [.int .i64 k, .int .i64 t, .list (m.map eI)] = some [.bool (recOk ⟨k, t, m⟩)] := by
  rw [q_dy]
  simp (disch := first | assumption | omega | (simp only [zL]; omega)) only [F_dy, i_in, i_isTrip, i_wantedOk, recOk, Int.reduceEq, reduceIte, zU, zT, getC]
  by_cases h1 : k = 1
  · subst h1
    have e1 : in_ 1 1 7 = true := rfl
    simp only [if_true, e1]
    match m with
    | [] => cases in_ t 1 6 <;> rfl
    | [n] => simp (disch := first | assumption | omega | (simp only [zL]; omega)) only [List.length_cons, List.length_nil, row0, eI, i_in, Int.reduceEq, reduceIte, zU, zT, getC]
             cases in_ t 1 6 <;> simp
    | a :: b :: l =>
      have : ¬ ((((a :: b :: l).length : Nat) : Int) = 1) := by simp; omega
      simp only [this, if_false]
      cases in_ t 1 6 <;> simp
  · by_cases h4 : k = 4
    · subst h4
      have e1 : in_ 4 1 7 = true := rfl
      simp only [e1]
      cases in_ t 1 6 <;> simp
    · simp only [h1, h4, if_false]
      have e1 : in_ k 1 7 = in_ k 2 7 := by rw [Bool.eq_iff_iff, in_iff, in_iff]; omega
      rw [e1]
      have e2 : (((m.length : Nat) : Int) == 0) = m.isEmpty := by cases m <;> simp; omega
      rw [e2]
      cases in_ t 1 6 <;> cases in_ k 2 7 <;> simp

theorem i_LogOk1 {k t : Int} {m : List Int} (hL : m.length <= 1099511627776) : φ_cd [.int .i64 k, .int .i64 t, .list (m.map eI)] = some [.bool (!recOk ⟨k, t, m⟩)] := by
  rw [q_cd]; simp (disch := first | assumption | omega | (simp only [zL]; omega)) only [F_cd, i_RecOk, Int.reduceEq, reduceIte, zU, zT, getC]
theorem i_ixR {rs : List Rec} (hL : rs.length <= 1099511627776) (hm : ∀ r ∈ rs, r.m.length <= 1099511627776) : φ_af [.list (rs.map Rec.e)] = some [.int .i64 (fidx (fun r => !recOk r) 0 rs)] := by
  rw [q_af]; unfold F_af
  simp only [List.length_map]
  rw [idxLoop (l := rs) (fun r => !recOk r)]
  · rfl
  · intro i x hx
    have hi := (List.getElem?_eq_some_iff.1 hx).1
    have hi' : (i : Int) < (rs.length : Nat) := by omega
    have hxm := hm x (List.mem_of_getElem? hx)
    simp (disch := first | assumption | omega | (simp only [zL]; omega)) only [L_af_0, row_R hx, Rec.e, wrap_nat, hi', if_true, i_LogOk1, Int.reduceEq, reduceIte, zU, zT, getC]
    cases recOk x <;> rfl
  · have h : ¬ ((rs.length : Int) < (rs.length : Nat)) := by omega
    simp (disch := first | assumption | omega | (simp only [zL]; omega)) only [L_af_0, h, if_false, Int.reduceEq, reduceIte, zU, zT, getC]
theorem i_cfR {rs : List Rec} (hL : rs.length <= 1099511627776) (hm : ∀ r ∈ rs, r.m.length <= 1099511627776) : φ_ac [.list (rs.map Rec.e)] = some [.bool (rs.any fun r => !recOk r)] := by
  rw [q_ac]; simp (disch := first | assumption | omega | (simp only [zL]; omega)) only [F_ac, i_ixR, fidx_any, Bool.decide_eq_true, Int.reduceEq, reduceIte, zU, zT, getC]
theorem i_LogOk {rs : List Rec} {f : Int} (hl : LgS ⟨rs, f⟩) : φ_dp [.list (rs.map Rec.e), .int .i64 f] = some [.bool (logOk ⟨rs, f⟩)] := by
  rw [q_dp]
  have h1 : rs.length <= 1099511627776 := by have := hl.1; simp only at this; omega
  have h2 : ∀ r ∈ rs, r.m.length <= 1099511627776 := hl.2
  simp (disch := first | assumption | omega | (simp only [zL]; omega)) only [F_dp, i_in, i_cfR h1 h2, logOk, Int.reduceEq, reduceIte, zU, zT, getC]
  have e : rs.any (fun r => !recOk r) = !rs.all recOk := by simp [List.any_eq_not_all_not]
  rw [e, Bool.not_not]
  by_cases h40 : rs.length <= 40
  · have h40' : ((rs.length : Nat) : Int) <= 40 := by omega
    simp only [h40, h40', if_true, decide_true, Bool.true_and]
    cases in_ f 0 (rs.length : Nat) <;> simp
  · have h40' : ¬ ((rs.length : Nat) : Int) <= 40 := by omega
    simp only [h40, h40', if_false, decide_false, Bool.false_and, Bool.and_false]

def TrS (l : List Trip) : Prop := l.length <= 1000000 /\ ∀ t ∈ l, t.m.length <= 1099511627776
theorem TrOk.S {l : List Trip} (h : TrOk l) : TrS l := ⟨by have := h.len; omega, fun t ht => by have := manyOk_len (tripOk_iff.1 (h.ok t ht)).1; omega⟩
theorem i_TripsOk1 {m : List Int} {s : Int} (hL : m.length <= 1099511627776) : φ_bh [.list (m.map eI), .int .i64 s] = some [.bool (!tripOk ⟨m, s⟩)] := by
  rw [q_bh]; simp (disch := first | assumption | omega | (simp only [zL]; omega)) only [F_bh, i_wantedOk, i_in, tripOk, Int.reduceEq, reduceIte, zU, zT, getC]
  cases manyOk m <;> simp
theorem i_ixT {l : List Trip} (hl : TrS l) : φ_ab [.list (l.map Trip.e)] = some [.int .i64 (fidx (fun t => !tripOk t) 0 l)] := by
  rw [q_ab]; unfold F_ab
  have h1 := hl.1
  simp only [List.length_map]
  rw [idxLoop (l := l) (fun t => !tripOk t)]
  · rfl
  · intro i x hx
    have hi := (List.getElem?_eq_some_iff.1 hx).1
    have hi' : (i : Int) < (l.length : Nat) := by omega
    have hxm := hl.2 x (List.mem_of_getElem? hx)
    simp (disch := first | assumption | omega | (simp only [zL]; omega)) only [L_ab_0, row_T hx, Trip.e, wrap_nat, hi', if_true, i_TripsOk1, Int.reduceEq, reduceIte, zU, zT, getC]
    cases tripOk x <;> rfl
  · have h : ¬ ((l.length : Int) < (l.length : Nat)) := by omega
    simp (disch := first | assumption | omega | (simp only [zL]; omega)) only [L_ab_0, h, if_false, Int.reduceEq, reduceIte, zU, zT, getC]
theorem i_TripsOk {l : List Trip} (hl : TrS l) : φ_ck [.list (l.map Trip.e)] = some [.bool (tripsOk l)] := by
  rw [q_ck]
  have hc : φ_aa [.list (l.map Trip.e)] = some [.bool (l.any fun t => !tripOk t)] := by
    rw [q_aa]; simp (disch := first | assumption | omega | (simp only [zL]; omega)) only [F_aa, i_ixT, fidx_any, Bool.decide_eq_true, Int.reduceEq, reduceIte, zU, zT, getC]
  simp (disch := first | assumption | omega | (simp only [zL]; omega)) only [F_ck, hc, tripsOk, Int.reduceEq, reduceIte, zU, zT, getC]
  have e : l.any (fun t => !tripOk t) = !l.all tripOk := by simp [List.any_eq_not_all_not]
  rw [e, Bool.not_not]
  by_cases h : l.length <= 6
  · have h' : ((l.length : Nat) : Int) <= 6 := by omega
    simp [h, h']
  · have h' : ¬ ((l.length : Nat) : Int) <= 6 := by omega
    simp [h, h']

theorem i_stateOf {l : List Trip} (hl : l.length <= 1099511627776) {t : Int} : φ_cr [.list (l.map Trip.e), .int .i64 t] = some [.int .i64 (if in_ t 1 l.length then (tAt l t).s else 0)] := by
  rw [q_cr]
  simp (disch := first | assumption | omega | (simp only [zL]; omega)) only [F_cr, i_in, Int.reduceEq, reduceIte, zU, zT, getC]
  rcases Bool.eq_false_or_eq_true (in_ t 1 (l.length : Nat)) with h | h
  · have h' := in_iff.1 h
    simp (disch := first | assumption | omega | (simp only [zL]; omega)) only [h, Bool.not_true, if_true, wrap64, rowT, Trip.e, Int.reduceEq, reduceIte, zU, zT, getC]
  · simp [h]

theorem i_TripsMay {l : List Trip} (hl : TrS l) {k t : Int} {m : List Int} (hL : m.length <= 1099511627776) :
    φ_bt [.list (l.map Trip.e), .int .i64 k, .int .i64 t, .list (m.map eI)] = some [.bool (tripsOk l && (recOk ⟨k, t, m⟩ && tmay l ⟨k, t, m⟩))] := by
  rw [q_bt]
  have h1 := hl.1
  simp (disch := first | assumption | omega | (simp only [zL]; omega)) only [F_bt, i_TripsOk, i_RecOk, i_stateOf, wrap64, Int.reduceEq, reduceIte, zU, zT, getC]
  cases tripsOk l with
  | false => rfl
  | true =>
    cases hr : recOk ⟨k, t, m⟩ with
    | false => rfl
    | true =>
      have ht := recOk_t hr
      simp only at ht
      simp only [iteD_tt, Bool.not_true, iteD_ff, Bool.true_and, tmay]
      by_cases h4 : k = 4
      · simp [h4]
      · simp only [h4, if_false]
        by_cases hlt : t > (l.length : Nat)
        · have hf : in_ t 1 (l.length : Nat) = false := in_false.2 (by omega)
          simp only [hlt, if_true, hf, Bool.false_eq_true, if_false]
          by_cases h5 : k = 5
          · simp [h5]
          · by_cases h6 : k = 6
            · simp [h6]
            · by_cases h7 : k = 7 <;> simp [h5, h6, h7]
        · have hf : in_ t 1 (l.length : Nat) = true := in_iff.2 (by omega)
          simp only [hlt, hf, if_true, if_false]
          by_cases h5 : k = 5
          · simp [h5]
          · by_cases h6 : k = 6
            · simp [h6]
            · by_cases h7 : k = 7
              · by_cases hs : (tAt l t).s = 2 <;> simp [h7, hs]
              · simp [h5, h6, h7]

theorem i_CloneI {m : List Int} (hL : m.length <= 1099511627776) : φ_ap [.list (m.map eI)] = some [.list (m.map eI)] := by
  rw [q_ap]
  cases m with
  | nil => simp [F_ap, bothD_self, whenD_b, LMAX_eq]
  | cons a l =>
    have : ((a :: l).map eI).isEmpty = false := rfl
    simp only [F_ap, this, iteD_ff, List.nil_append, kinds_I, whenD_tt]
    rw [whenD_b (by simp [LMAX_eq] at *; omega)]
    rfl

theorem i_TripsDo {l : List Trip} (hl : TrS l) {k t : Int} {m : List Int} (hL : m.length <= 1099511627776) :
    φ_cc [.list (l.map Trip.e), .int .i64 k, .int .i64 t, .list (m.map eI)] =
      some (if tripsOk l && (recOk ⟨k, t, m⟩ && tmay l ⟨k, t, m⟩) then [.list ((tact l ⟨k, t, m⟩).map Trip.e), .bool true] else [.list [], .bool false]) := by
  rw [q_cc]
  simp (disch := first | assumption | omega | (simp only [zL]; omega)) only [F_cc, i_TripsMay, Int.reduceEq, reduceIte, zU, zT, getC]
  rcases Bool.eq_false_or_eq_true (tripsOk l && (recOk ⟨k, t, m⟩ && tmay l ⟨k, t, m⟩)) with h | h
  case inr => simp [h]
  simp only [h, Bool.not_true, iteD_tt, iteD_ff, if_true]
  simp only [Bool.and_eq_true] at h
  obtain ⟨ho, hr, hm⟩ := h
  have ht := recOk_t hr
  have hml := recOk_mlen hr
  have hT := tripsOk_iff.1 ho
  have hl6 := hT.len
  simp only at ht hml
  have key := iter_list0 (l := l) (F := fun ps => L_cc_0 (l.map Trip.e) k t (m.map eI) ((l.length : Nat) : Int) ((getC ps 0).toInt) ((getC ps 1).toList)) (enc := fun i (s : List Trip) => [.int .i64 i, .list (s.map Trip.e)])
    (res := fun xs _ s => .ret [.list ((tact (s ++ xs) ⟨k, t, m⟩).map Trip.e), .bool true]) (fun i s => s = l.take i) (s := []) (by simp) ?_ ?_
  · have key : iterD _ [C.int .i64 0, C.list []] = _ := key
    rw [key]; rfl
  · intro i x xs s hx hs
    have hi := (List.getElem?_eq_some_iff.1 hx).1
    have hi' : (i : Int) < (l.length : Nat) := by omega
    have hxm := hl.2 x (List.mem_of_getElem? hx)
    have hsl : s.length = i := by rw [hs]; simp; omega
    simp (disch := first | assumption | omega | (simp only [zL]; omega)) only [L_cc_0, row_T hx, Trip.e, wrap_nat, hi', if_true, i_CloneI, Int.reduceEq, reduceIte, zU, zT, getC]
    refine .inl ⟨s ++ [x], ?_, ?_, by simp⟩
    · simp [Trip.e]
    · rw [hs, List.take_succ, hx]; rfl
  · intro s hs
    have hs : s = l := by rw [hs, List.take_length]
    subst hs
    have h : ¬ ((s.length : Int) < (s.length : Nat)) := by omega
    simp only [L_cc_0, getC, C.toInt_int, C.toList_list, iteD_dec, h, if_false, List.append_nil]
    rcases tmay_was hr hm with ⟨h4, h⟩ | ⟨h1, h2, h⟩
    · simp only at h4; subst h4
      have hml' : m.length <= 1099511627776 := by omega
      simp only [iteD_eq, if_true, i_CloneI hml', cd_l, getC, C.toList_list]
      rw [whenD_b (by simp [LMAX_eq]; omega)]
      simp [upD_ret, tact, Trip.e]
    · simp only at h1 h2 h
      have hx := tAt_get h1 h2
      have hw : IntKind.wrap .i64 (t - 1) = t - 1 := wrap64 (by omega) (by omega)
      have hb : (decide ((0 : Int) <= t - 1) && decide (t - 1 < ((s.map Trip.e).length : Nat))) = true := lt_B (by omega) (by simp; omega)
      have st : ∀ z : Int, setRow 1 (s.map Trip.e) (t - 1).toNat [C.int .i64 z] = (s.set (t - 1).toNat ⟨(tAt s t).m, z⟩).map Trip.e := fun z => setRow_map hx rfl
      simp only [hw, tact, iteD_eq, whenD_b hb, rowT h1 h2, Trip.e, getC, C.toInt_int, st]
      rcases h with ⟨h | h, _⟩ | ⟨h, hs⟩
      · subst h; rfl
      · subst h; rfl
      · subst h
        rcases hs with hs | hs <;> simp [hs, upD]

theorem i_TripsOf {rs : List Rec} (hL : rs.length <= 1000000) (hm : ∀ r ∈ rs, r.m.length <= 1099511627776) :
    φ_ca [.list (rs.map Rec.e)] = some [.list (((tripsOf rs).getD []).map Trip.e), .bool (tripsOf rs).isSome] := by
  rw [q_ca]; unfold F_ca
  have key := iter_list0 (l := rs) (F := fun ps => L_ca_0 (rs.map Rec.e) ((getC ps 0).toList) ((getC ps 1).toBool) ((getC ps 2).toInt)) (enc := fun i (s : Option (List Trip)) => [.list ((s.getD []).map Trip.e), .bool s.isSome, .int .i64 i])
    (res := fun xs _ s => match s with
      | some l => .ret [.list (((tfold xs l).getD []).map Trip.e), .bool (tfold xs l).isSome]
      | none => .ret [.list [], .bool false]) (fun _ s => ∀ l, s = some l -> TrOk l) (s := some []) (fun l e => by simp only [Option.some.injEq] at e; rw [<- e]; exact TrOk.nil) ?_ ?_
  · have key : iterD _ [C.list [], C.bool true, C.int .i64 0] = _ := key
    rw [key]; rfl
  · intro i x xs s hx hs
    have hi := (List.getElem?_eq_some_iff.1 hx).1
    have hi' : (i : Int) < (rs.length : Nat) := by omega
    have hxm := hm x (List.mem_of_getElem? hx)
    cases s with
    | none => exact .inr ⟨_, rfl, rfl⟩
    | some l =>
      have hT := hs l rfl
      have hS := hT.S
      simp (disch := first | assumption | omega | (simp only [zL]; omega)) only [L_ca_0, Option.isSome_some, Option.getD_some, row_R hx, Rec.e, hi', if_true, i_TripsDo, Int.reduceEq, reduceIte, zU, zT, getC]
      have e1 : tripsOk l = true := tripsOk_iff.2 hT
      simp only [e1, Bool.true_and]
      rcases Bool.eq_false_or_eq_true (recOk x && tmay l x) with h | h
      · simp only [h, if_true]
        refine .inl ⟨some (tact l x), ?_, fun l' e => ?_, by simp [tfold, h]⟩
        · simp (disch := first | assumption | omega | (simp only [zL]; omega)) only [wrap_nat, Option.isSome_some, Option.getD_some, Int.reduceEq, reduceIte, zU, zT, getC]
        · simp only [Option.some.injEq] at e; rw [<- e]
          simp only [Bool.and_eq_true] at h
          exact tact_ok hT h.1 h.2
      · simp only [h, Bool.false_eq_true, if_false]
        refine .inl ⟨none, ?_, ?_, ?_⟩
        · simp (disch := first | assumption | omega | (simp only [zL]; omega)) only [wrap_nat, Option.isSome_none, Option.getD_none, Int.reduceEq, reduceIte, zU, zT, getC]
          try simp
        · intro l' e; cases e
        · simp [tfold, h]
  · intro s hs
    have h : ¬ ((rs.length : Int) < (rs.length : Nat)) := by omega
    cases s with
    | none => simp [L_ca_0, getC]
    | some l => simp [L_ca_0, getC, iteD_dec, tfold]
end Dx


/- The program's logs and desk. -/
namespace Dx
open Go

theorem i_WordOk {k h t m : Int} : φ_db [.int .i64 k, .int .i64 h, .int .i64 t, .int .i64 m] = some [.bool (wordOk ⟨k, h, t, m⟩)] := by
  rw [q_db]
  simp (disch := first | assumption | omega | (simp only [zL]; omega)) only [F_db, i_in, i_isHouse, i_isTrip, wordOk, Int.reduceEq, reduceIte, zU, zT, getC]
  by_cases h1 : k = 1
  · simp only [h1, if_true]
    cases in_ h 1 3 <;> cases in_ t 1 6 <;> cases in_ 1 1 7 <;> simp
  · simp only [h1, if_false]
    cases in_ h 1 3 <;> cases in_ t 1 6 <;> cases in_ k 1 7 <;> simp
theorem i_answer {k h t m : Int} : φ_ao [.int .i64 k, .int .i64 h, .int .i64 t, .int .i64 m] = some [.bool (decide (k >= 4))] := by
  rw [q_ao]; simp (disch := first | assumption | omega | (simp only [zL]; omega)) only [F_ao, Int.reduceEq, reduceIte, zU, zT, getC]

theorem i_Contains {td : List Word} (hL : td.length <= 1099511627776) {k h t m : Int} : φ_ai [.list (td.map Word.e), .int .i64 k, .int .i64 h, .int .i64 t, .int .i64 m] = some [.bool (td.contains ⟨k, h, t, m⟩)] := by
  rw [q_ai]
  have hi : φ_ak [.list (td.map Word.e), .int .i64 k, .int .i64 h, .int .i64 t, .int .i64 m] = some [.int .i64 (fidx (fun x => decide ((⟨k, h, t, m⟩ : Word) = x)) 0 td)] := by
    rw [q_ak]; unfold F_ak
    simp only [List.length_map]
    rw [idxLoop (l := td) (fun x => decide ((⟨k, h, t, m⟩ : Word) = x))]
    · rfl
    · intro i x hx
      have hi := (List.getElem?_eq_some_iff.1 hx).1
      have hi' : (i : Int) < (td.length : Nat) := by omega
      have hw := word_beq ⟨k, h, t, m⟩ x
      simp only at hw
      simp (disch := first | assumption | omega | (simp only [zL]; omega)) only [L_ak_0, row_W hx, Word.e, wrap_nat, hi', if_true, hw, decide_eq_true_eq, Int.reduceEq, reduceIte, zU, zT, getC]
    · have h : ¬ ((td.length : Int) < (td.length : Nat)) := by omega
      simp (disch := first | assumption | omega | (simp only [zL]; omega)) only [L_ak_0, h, if_false, Int.reduceEq, reduceIte, zU, zT, getC]
  simp (disch := first | assumption | omega | (simp only [zL]; omega)) only [F_ai, hi, fidx_any, Bool.decide_eq_true, Int.reduceEq, reduceIte, zU, zT, getC]
  rw [List.contains_eq_any_beq]
  congr

theorem i_RecCopied {k t : Int} {m : List Int} (hL : m.length <= 1099511627776) : φ_at [.int .i64 k, .int .i64 t, .list (m.map eI)] = some [.int .i64 k, .int .i64 t, .list (m.map eI)] := by
  rw [q_at]; simp (disch := first | assumption | omega | (simp only [zL]; omega)) only [F_at, i_CloneI, Int.reduceEq, reduceIte, zU, zT, getC]

theorem i_first {rs : List Rec} {f many forced : Int} (hl : LgS ⟨rs, f⟩) (h1 : 0 <= many) (h2 : many <= rs.length) :
    φ_bc [.list (rs.map Rec.e), .int .i64 f, .int .i64 many, .int .i64 forced] = some [.list ((rs.take many.toNat).map Rec.e), .int .i64 forced] := by
  rw [q_bc]
  have e1 : ∀ n : Nat, (rs.map Rec.e).take n = (rs.take n).map Rec.e := fun n => by simp
  unfold F_bc
  simp only [e1, List.length_map]
  rw [whenD_dec2 h1 h2]
  have hm : ∀ r ∈ rs.take many.toNat, r.m.length <= 1099511627776 := fun r hr => hl.2 r (List.mem_of_mem_take hr)
  have hlen : (rs.take many.toNat).length <= 1000000 := by simp; have := hl.1; simp only at this; omega
  generalize rs.take many.toNat = l at hm hlen
  have key := iter_list0 (l := l) (F := fun ps => L_bc_0 forced (l.map Rec.e) ((l.length : Nat) : Int) ((getC ps 0).toInt) ((getC ps 1).toList)) (enc := fun i (s : List Rec) => [.int .i64 i, .list (s.map Rec.e)])
    (res := fun xs _ s => .ret [.list ((s ++ xs).map Rec.e), .int .i64 forced]) (fun i s => s.length = i) (s := []) rfl ?_ ?_
  · have key : iterD _ [C.int .i64 0, C.list []] = _ := key
    rw [key]; rfl
  · intro i x xs s hx hs
    have hi := (List.getElem?_eq_some_iff.1 hx).1
    have hi' : (i : Int) < (l.length : Nat) := by omega
    have hxm := hm x (List.mem_of_getElem? hx)
    simp (disch := first | assumption | omega | (simp only [zL]; omega)) only [L_bc_0, row_R hx, Rec.e, wrap_nat, hi', if_true, i_RecCopied, Int.reduceEq, reduceIte, zU, zT, getC]
    refine .inl ⟨s ++ [x], ?_, by simp [hs], by simp⟩
    simp [Rec.e]
  · intro s hs
    have h : ¬ ((l.length : Int) < (l.length : Nat)) := by omega
    simp (disch := first | assumption | omega | (simp only [zL]; omega)) only [L_bc_0, h, if_false, Int.reduceEq, reduceIte, zU, zT, getC]
    simp
theorem i_LogCopied {rs : List Rec} {f : Int} (hl : LgS ⟨rs, f⟩) : φ_av [.list (rs.map Rec.e), .int .i64 f] = some [.list (rs.map Rec.e), .int .i64 f] := by
  rw [q_av]
  have h := i_first hl (many := ((rs.length : Nat) : Int)) (forced := f) (by omega) (by omega)
  simp only [Int.toNat_natCast, List.take_length] at h
  simp (disch := first | assumption | omega | (simp only [zL]; omega)) only [F_av, h, Int.reduceEq, reduceIte, zU, zT, getC]
theorem i_CloneW {m : List Word} (hL : m.length <= 1099511627776) : φ_aj [.list (m.map Word.e)] = some [.list (m.map Word.e)] := by
  rw [q_aj]
  cases m with
  | nil => simp [F_aj, bothD_self, whenD_b, LMAX_eq]
  | cons a l =>
    have : ((a :: l).map Word.e).isEmpty = false := rfl
    simp only [F_aj, this, iteD_ff, List.nil_append, kinds_W, whenD_tt]
    rw [whenD_b (by simp [LMAX_eq] at *; omega)]
    rfl

structure DkS (d : Desk) : Prop where
  lg : LgS d.lg
  td : d.td.length <= 1000000
theorem DkOk.S {d : Desk} (h : DkOk d) : DkS d := ⟨h.lg.S, by have := h.tdlen; omega⟩
theorem LgS.m {rs : List Rec} {f : Int} (h : LgS ⟨rs, f⟩) : ∀ r ∈ rs, r.m.length <= 1099511627776 := h.2
theorem LgS.l {rs : List Rec} {f : Int} (h : LgS ⟨rs, f⟩) : rs.length <= 1000000 := h.1

section
variable {up b : Bool} {rs : List Rec} {f : Int} {td : List Word} {k h t m keep : Int} {ms : List Int}

theorem i_DeskCopied (hs : DkS ⟨up, ⟨rs, f⟩, td⟩) : φ_am [.bool up, .list (rs.map Rec.e), .int .i64 f, .list (td.map Word.e)] = some (Desk.e ⟨up, ⟨rs, f⟩, td⟩) := by
  rw [q_am]
  have h1 : LgS ⟨rs, f⟩ := hs.lg
  have h2 : td.length <= 1099511627776 := by have := hs.td; simp only at this; omega
  simp (disch := first | assumption | omega | (simp only [zL]; omega)) only [F_am, i_LogCopied, i_CloneW, Int.reduceEq, reduceIte, zU, zT, getC]
  rfl

theorem i_known (hl : b = true -> 0 <= f /\ f <= rs.length) : φ_bb [.list (rs.map Rec.e), .int .i64 f, .bool b] = some [.list ((lknown ⟨rs, f⟩ b).map Rec.e)] := by
  rw [q_bb]
  cases b with
  | false => simp [F_bb, lknown]
  | true =>
    obtain ⟨h1, h2⟩ := hl rfl
    simp only [F_bb, iteD_tt, List.length_map]
    rw [whenD_dec2 h1 h2]
    simp [lknown]
theorem i_trips (hs : LgS ⟨rs, f⟩) (hl : b = true -> 0 <= f /\ f <= rs.length) {tl : List (List C)} : φ_as [.bool up, .list (rs.map Rec.e), .int .i64 f, .list tl, .bool b] = some [.list ((ltrips ⟨rs, f⟩ b).map Trip.e)] := by
  rw [q_as]
  have h1 : (lknown ⟨rs, f⟩ b).length <= 1000000 := by have := hs.l; unfold lknown; split <;> simp <;> omega
  have h2 : ∀ r ∈ lknown ⟨rs, f⟩ b, r.m.length <= 1099511627776 := fun r hr => hs.2 r (by unfold lknown at hr; split at hr; exact List.mem_of_mem_take hr; exact hr)
  simp (disch := first | assumption | omega | (simp only [zL]; omega)) only [F_as, i_known hl, i_TripsOf h1 h2, ltrips, Int.reduceEq, reduceIte, zU, zT, getC]
theorem i_tripsA (hs : LgS ⟨rs, f⟩) {tl : List (List C)} : φ_as [.bool up, .list (rs.map Rec.e), .int .i64 f, .list tl, .bool false] = some [.list ((ltrips ⟨rs, f⟩ false).map Trip.e)] := i_trips hs (fun h => by cases h)
theorem i_tripsF (hs : LgOk ⟨rs, f⟩) {tl : List (List C)} : φ_as [.bool up, .list (rs.map Rec.e), .int .i64 f, .list tl, .bool true] = some [.list ((ltrips ⟨rs, f⟩ true).map Trip.e)] := i_trips hs.S (fun _ => ⟨hs.lo, hs.hi⟩)

theorem i_DeskOk (hs : DkS ⟨up, ⟨rs, f⟩, td⟩) : φ_cz [.bool up, .list (rs.map Rec.e), .int .i64 f, .list (td.map Word.e)] = some [.bool (deskOk ⟨up, ⟨rs, f⟩, td⟩)] := by
  rw [q_cz]
  have h1 : LgS ⟨rs, f⟩ := hs.lg
  have h2 : td.length <= 1000000 := hs.td
  have hj : retOf (J_cz_1 (rs.map Rec.e) (td.map Word.e)) = some [.bool (toldOk ((tripsOf rs).getD []).length [] td && (tripsOf rs).isSome)] := by
    unfold J_cz_1
    have ht := i_TripsOf h1.l h1.m
    simp only [ht, cd_lb, getC, C.toBool_bool, C.toList_list, List.length_map]
    have key := iter_list0 (l := td) (F := fun ps => L_cz_0 (td.map Word.e) (((tripsOf rs).getD []).map Trip.e) (tripsOf rs).isSome ((td.length : Nat) : Int) ((getC ps 0).toInt)) (enc := fun i (_ : Unit) => [.int .i64 i])
      (res := fun xs i _ => .ret [.bool (toldOk ((tripsOf rs).getD []).length (td.take i) xs && (tripsOf rs).isSome)]) (fun _ _ => True) (s := ()) trivial ?_ ?_
    · have key : iterD _ [C.int .i64 0] = _ := key
      rw [key]; rfl
    · intro i x xs s hx _
      have hi := (List.getElem?_eq_some_iff.1 hx).1
      have hi' : (i : Int) < (td.length : Nat) := by omega
      have e1 : (td.map Word.e).take i = (td.take i).map Word.e := by simp
      have c1 : (0 : Int) <= (i : Int) := by omega
      have c2 : (i : Int) <= (td.length : Nat) := by omega
      have c3 : (td.take i).length <= 1099511627776 := by simp; omega
      have e2 : td.take (i + 1) = td.take i ++ [x] := by rw [List.take_succ, hx]; rfl
      have e3 : ∀ n : Nat, decide (x.t > (n : Int)) = !decide (x.t <= (n : Int)) := fun n => by rw [Bool.eq_iff_iff]; simp
      simp (disch := first | assumption | omega | (simp only [zL]; omega)) only [L_cz_0, row_W hx, Word.e, wrap_nat, hi', if_true, i_WordOk, i_answer, e1, Int.toNat_natCast, i_Contains, whenD_dec2 c1 c2, Int.reduceEq, reduceIte, zU, zT, getC]
      simp only [toldOk, e2]
      cases wordOk x with
      | false => exact .inr ⟨_, rfl, by simp⟩
      | true =>
        by_cases h4 : x.k >= 4
        · by_cases h5 : x.t > ((((tripsOf rs).getD []).length : Nat) : Int)
          · have h5' : ¬ x.t <= ((((tripsOf rs).getD []).length : Nat) : Int) := by omega
            exact .inr ⟨_, by simp only [h4, h5, if_true, iteD_tt, Bool.not_true, iteD_ff]; rfl, by simp [h5']⟩
          · have h5' : x.t <= ((((tripsOf rs).getD []).length : Nat) : Int) := by omega
            cases hc : (td.take i).contains x with
            | true =>
              refine .inr ⟨.ret [.bool false], ?_, by simp⟩
              simp only [h4, h5, if_true, if_false, iteD_tt, Bool.not_true, iteD_ff]
              try rw [whenD_b (by simp; omega)]
            | false =>
              refine .inl ⟨(), ?_, trivial, by simp [h4, h5']⟩
              simp only [h4, h5, if_true, if_false, iteD_tt, Bool.not_true, iteD_ff]
              try rw [whenD_b (by simp; omega)]
        · exact .inr ⟨_, by simp only [h4, if_false, iteD_tt, Bool.not_true, iteD_ff]; rfl, by simp [h4]⟩
    · intro s _
      have h : ¬ ((td.length : Int) < (td.length : Nat)) := by omega
      simp (disch := first | assumption | omega | (simp only [zL]; omega)) only [L_cz_0, h, if_false, Int.reduceEq, reduceIte, zU, zT, getC]
      rfl
  simp (disch := first | assumption | omega | (simp only [zL]; omega)) only [F_cz, i_LogOk, joinD_up, hj, Int.reduceEq, reduceIte, zU, zT, getC]
  unfold deskOk
  cases logOk ⟨rs, f⟩ with
  | false => simp
  | true =>
    simp only [Bool.not_true, iteD_ff, Bool.true_and]
    cases up with
    | true =>
      simp only [iteD_tt, joinD_jump]
      rw [hj]
      cases tripsOf rs <;> simp
    | false =>
      simp only [iteD_ff]
      by_cases hz : ((td.length : Nat) : Int) > 0
      · have : td.isEmpty = false := by
          cases td with
          | nil => simp at hz
          | cons a l => rfl
        simp only [hz, if_true, joinD_up, iteD_tt, iteD_ff, retOf_ret]
        cases tripsOf rs <;> simp [this]
      · have : td = [] := by
          cases td with
          | nil => rfl
          | cons a l => simp at hz
        simp only [hz, if_false, iteD_tt, iteD_ff, joinD_jump]
        rw [hj, this]
        cases tripsOf rs <;> simp
end
end Dx


/- The program's desk: what it writes, hears, decides. -/
namespace Dx
open Go

def dz : Desk := ⟨false, ⟨[], 0⟩, []⟩

section
variable {up b : Bool} {rs : List Rec} {f : Int} {td : List Word} {k h t m keep : Int} {ms : List Int}

theorem i_LogAdd (hl : LgS ⟨rs, f⟩) (hm : ms.length <= 1099511627776) :
    φ_dg [.list (rs.map Rec.e), .int .i64 f, .int .i64 k, .int .i64 t, .list (ms.map eI)] =
      some (if logOk ⟨rs, f⟩ && recOk ⟨k, t, ms⟩ then [.list ((ladd ⟨rs, f⟩ ⟨k, t, ms⟩).rs.map Rec.e), .int .i64 f, .bool (laddB ⟨rs, f⟩)] else [.list [], .int .i64 0, .bool false]) := by
  rw [q_dg]
  simp (disch := first | assumption | omega | (simp only [zL]; omega)) only [F_dg, i_LogOk, i_RecOk, i_LogCopied, i_RecCopied, Int.reduceEq, reduceIte, zU, zT, getC]
  cases hlo : logOk ⟨rs, f⟩ with
  | false => simp
  | true =>
    cases recOk ⟨k, t, ms⟩ with
    | false => simp
    | true =>
      have hl40 : rs.length <= 40 := (logOk_iff.1 hlo).len
      simp only [iteD_tt, Bool.and_self, if_true]
      by_cases h40 : ((rs.length : Nat) : Int) = 40
      · have h' : rs.length >= 40 := by omega
        simp [h40, ladd, laddB, h']
      · have h' : ¬ rs.length >= 40 := by omega
        have hc : rs.length + 1 <= 1099511627776 := by omega
        simp [h40, ladd, laddB, h', hc, Rec.e]

theorem i_write (hd : DkOk ⟨up, ⟨rs, f⟩, td⟩) (hr : recOk ⟨k, t, ms⟩ = true) :
    φ_aw [.bool up, .list (rs.map Rec.e), .int .i64 f, .list (td.map Word.e), .int .i64 k, .int .i64 t, .list (ms.map eI)] =
      some (.bool (dwriteB ⟨up, ⟨rs, f⟩, td⟩ ⟨k, t, ms⟩) :: (dwrite ⟨up, ⟨rs, f⟩, td⟩ ⟨k, t, ms⟩).e) := by
  rw [q_aw]
  have hlg : LgOk ⟨rs, f⟩ := hd.lg
  have hS := hlg.S
  have hT : TrOk (ltrips ⟨rs, f⟩ false) := hd.trOk false
  have hTS := hT.S
  have hml := recOk_mlen hr
  have hml' : ms.length <= 1099511627776 := by simp only at hml; omega
  have hto : tripsOk (ltrips ⟨rs, f⟩ false) = true := tripsOk_iff.2 hT
  have hlo : logOk ⟨rs, f⟩ = true := logOk_iff.2 hlg
  simp (disch := first | assumption | omega | (simp only [zL]; omega)) only [F_aw, i_tripsA, i_TripsMay, i_LogAdd, hto, hr, hlo, Bool.true_and, Bool.and_self, if_true, dwrite, dwriteB, dtrips, Int.reduceEq, reduceIte, zU, zT, getC]
  cases up with
  | false => simp [Desk.e]
  | true =>
    simp only [iteD_tt, Bool.true_and]
    cases tmay (ltrips ⟨rs, f⟩ false) ⟨k, t, ms⟩ with
    | false => simp [Desk.e]
    | true => simp [Desk.e, ladd_f]

theorem i_told (hL : td.length <= 1099511627776) {r : List (List C)} : φ_bg [.bool up, .list r, .int .i64 f, .list (td.map Word.e), .int .i64 k, .int .i64 h, .int .i64 t] = some [.bool (td.contains ⟨k, h, t, 0⟩)] := by
  rw [q_bg]; simp (disch := first | assumption | omega | (simp only [zL]; omega)) only [F_bg, i_Contains, Int.reduceEq, reduceIte, zU, zT, getC]

theorem i_tally (hL : td.length <= 1099511627776) (hm : ms.length <= 1000) (hn : ∀ n ∈ ms, 0 <= n) {r : List (List C)} :
    φ_au [.bool up, .list r, .int .i64 f, .list (td.map Word.e), .int .i64 k, .int .i64 t, .list (ms.map eI)] = some [.bool (toldAny td t k 1 ms), .bool (toldAll td t k 1 ms)] := by
  rw [q_au]; unfold F_au
  simp only [List.length_map]
  have key := iter_list0 (l := ms) (F := fun ps => L_au_0 up r f (td.map Word.e) k t (ms.map eI) ((ms.length : Nat) : Int) ((getC ps 0).toBool) ((getC ps 1).toBool) ((getC ps 2).toInt)) (enc := fun i (s : Bool × Bool) => [.bool s.1, .bool s.2, .int .i64 i])
    (res := fun xs i s => .ret [.bool (s.1 || toldAny td t k ((i + 1 : Nat) : Int) xs), .bool (s.2 && toldAll td t k ((i + 1 : Nat) : Int) xs)]) (fun _ _ => True) (s := (false, true)) trivial ?_ ?_
  · have key : iterD _ [C.bool false, C.bool true, C.int .i64 0] = _ := key
    rw [key]; simp
  · rintro i x xs ⟨a, b⟩ hx _
    have hi := (List.getElem?_eq_some_iff.1 hx).1
    have hi' : (i : Int) < (ms.length : Nat) := by omega
    have hx0 := hn x (List.mem_of_getElem? hx)
    have e1 : ((i + 1 : Nat) : Int) + 1 = ((i + 1 + 1 : Nat) : Int) := by omega
    simp (disch := first | assumption | omega | (simp only [zL]; omega)) only [L_au_0, row_I hx, eI, wrap_nat, hi', if_true, i_told, Int.reduceEq, reduceIte, zU, zT, getC]
    by_cases h0 : x = 0
    · have h0' : ¬ x > 0 := by omega
      simp only [h0, if_true]
      refine .inl ⟨(a, b), ?_, trivial, ?_⟩
      · rfl
      · simp only [toldAny, toldAll, e1]; simp
    · have h0' : x > 0 := by omega
      simp only [h0, if_false]
      generalize hc : td.contains ⟨k, ((i + 1 : Nat) : Int), t, 0⟩ = c
      refine .inl ⟨(a || c, b && c), ?_, trivial, ?_⟩
      · cases a <;> cases b <;> simp
      · simp only [toldAny, toldAll, e1, hc, h0', decide_true, Bool.true_and, Bool.not_true, Bool.false_or]
        cases a <;> cases b <;> cases c <;> simp
  · rintro ⟨a, b⟩ _
    have h : ¬ ((ms.length : Int) < (ms.length : Nat)) := by omega
    simp (disch := first | assumption | omega | (simp only [zL]; omega)) only [L_au_0, h, if_false, Int.reduceEq, reduceIte, zU, zT, getC]
    simp [toldAny, toldAll]


def dres (d : Desk) (t K : Int) : Desk := if K > 0 then dwrite d ⟨K, t, []⟩ else d
theorem ddecide_eq (d : Desk) (t : Int) : ddecide d t = dres d t (kindOf (tAt (dtrips d false) t).s (dsure d t) d.td t (tAt (dtrips d false) t).m) := rfl

theorem den_call (Φ : Phi) (f : Nat) (args : List Cell) (ks : List CK) (t : Tree) (env : List C) : den Φ (.call f args ks t) env = callD (Φ f (dens env args)) ks fun r => den Φ t (env ++ r) := by rw [den]

theorem i_decide (hd : DkOk ⟨up, ⟨rs, f⟩, td⟩) (h1 : 1 <= t) (h2 : t <= (ltrips ⟨rs, f⟩ false).length) :
    φ_an [.bool up, .list (rs.map Rec.e), .int .i64 f, .list (td.map Word.e), .int .i64 t] = some (ddecide ⟨up, ⟨rs, f⟩, td⟩ t).e := by
  have hlg : LgOk ⟨rs, f⟩ := hd.lg
  have hS := hlg.S
  have tA : TrOk (ltrips ⟨rs, f⟩ false) := hd.trOk false
  have tF : TrOk (ltrips ⟨rs, f⟩ true) := hd.trOk true
  have lA := tA.len
  have lF := tF.len
  have hx := tripOk_iff.1 (tA.ok _ (tAt_mem (t := t) (by omega)))
  have hml := manyOk_len hx.1
  have hml' : (tAt (ltrips ⟨rs, f⟩ false) t).m.length <= 1000 := by omega
  have hn : ∀ n ∈ (tAt (ltrips ⟨rs, f⟩ false) t).m, 0 <= n := fun n hn => (manyOk_mem hx.1 hn).1
  have htd : td.length <= 1099511627776 := by have := hd.tdlen; simp only at this; omega
  have w5 := i_write hd (k := 5) (t := t) (ms := []) (by simp [recOk, in_iff]; omega)
  have w6 := i_write hd (k := 6) (t := t) (ms := []) (by simp [recOk, in_iff]; omega)
  have w7 := i_write hd (k := 7) (t := t) (ms := []) (by simp [recOk, in_iff]; omega)
  simp only [List.map_nil, Desk.e] at w5 w6 w7
  unfold φ_an t_an
  simp (disch := first | assumption | omega | (simp only [zL]; omega)) only [den, Φ_an, dens, Cell.den, At.den, i_tripsA, i_tripsF, i_tally, i_stateOf, rowT, wrap64, Trip.e, Prim.den, List.cons_append, Int.reduceEq, reduceIte, zT, getC]
  rw [ddecide_eq]
  have hsure : ((if in_ t 1 ((ltrips ⟨rs, f⟩ true).length : Nat) = true then (tAt (ltrips ⟨rs, f⟩ true) t).s else 0) == (tAt (ltrips ⟨rs, f⟩ false) t).s) = dsure ⟨up, ⟨rs, f⟩, td⟩ t := by
    have hs1 := hx.2.1
    unfold dsure dtrips
    by_cases h : t <= ((ltrips ⟨rs, f⟩ true).length : Nat)
    · have hi : in_ t 1 ((ltrips ⟨rs, f⟩ true).length : Nat) = true := in_iff.2 ⟨h1, h⟩
      simp [hi, h]
    · have hi : in_ t 1 ((ltrips ⟨rs, f⟩ true).length : Nat) = false := in_false.2 (by omega)
      simp [hi, h]; omega
  simp only [hsure]
  dsimp only [dtrips]
  have hs := hx.2
  generalize dsure ⟨up, ⟨rs, f⟩, td⟩ t = b
  generalize (tAt (ltrips ⟨rs, f⟩ false) t).s = s at hs ⊢
  generalize (tAt (ltrips ⟨rs, f⟩ false) t).m = m
  unfold kindOf
  generalize toldAny td t 5 1 m = a5
  generalize toldAll td t 4 1 m = a4
  generalize toldAll td t 6 1 m = a6
  generalize toldAll td t 7 1 m = a7
  rcases (by omega : s = 1 \/ s = 2 \/ s = 3 \/ s = 4 \/ s = 5) with e | e | e | e | e <;> subst e
  · cases a5 <;> cases a4 <;> simp [padC, CK.of, getC, w5, w6, w7, iteD_eq, cd_bblil, dres, Desk.e]
  · cases b <;> cases a6 <;> simp [padC, CK.of, getC, w5, w6, w7, iteD_eq, cd_bblil, dres, Desk.e]
  · cases b <;> cases a7 <;> simp [padC, CK.of, getC, w5, w6, w7, iteD_eq, cd_bblil, dres, Desk.e]
  · simp [padC, CK.of, getC, iteD_eq, dres, Desk.e]
  · simp [padC, CK.of, getC, iteD_eq, dres, Desk.e]
end
end Dx


/- The program's desk, houses. -/
namespace Dx
open Go

section
variable {up b : Bool} {rs : List Rec} {f : Int} {td : List Word} {k h t m keep : Int} {ms : List Int} {id room : Int}

theorem i_hear (hd : DkOk ⟨up, ⟨rs, f⟩, td⟩) :
    φ_ba [.bool up, .list (rs.map Rec.e), .int .i64 f, .list (td.map Word.e), .int .i64 k, .int .i64 h, .int .i64 t, .int .i64 m] = some (dhear ⟨up, ⟨rs, f⟩, td⟩ ⟨k, h, t, m⟩).e := by
  rw [q_ba]
  have hlg : LgOk ⟨rs, f⟩ := hd.lg
  have hS := hlg.S
  have htd : td.length <= 72 := hd.tdlen
  unfold dhear
  simp (disch := first | assumption | omega | (simp only [zL]; omega)) only [F_ba, i_WordOk, i_answer, i_tripsA, i_Contains, Int.reduceEq, reduceIte, zU, zT, getC]
  have nh : dheard ⟨up, ⟨rs, f⟩, td⟩ ⟨k, h, t, m⟩ = false -> (if dheard ⟨up, ⟨rs, f⟩, td⟩ ⟨k, h, t, m⟩ = true then ddecide (dtell ⟨up, ⟨rs, f⟩, td⟩ ⟨k, h, t, m⟩) t else ⟨up, ⟨rs, f⟩, td⟩) = ⟨up, ⟨rs, f⟩, td⟩ := fun e => by rw [e]; rfl
  cases up with
  | false => rw [nh rfl]; rfl
  | true =>
    cases hw : wordOk ⟨k, h, t, m⟩ with
    | false => rw [nh (by simp [dheard, hw])]; rfl
    | true =>
      have wt := (wordOk_iff.1 hw).t
      simp only at wt
      simp only [iteD_tt, retOf_ite]
      by_cases h4 : k >= 4
      · by_cases ht : t > ((ltrips ⟨rs, f⟩ false).length : Nat)
        · rw [nh (by rw [dheard_eq, hw]; simp only [Bool.true_and]; rw [Bool.and_eq_false_iff]; right; exact decide_eq_false (by omega))]
          simp only [h4, ht, if_true, if_false]; rfl
        · have c1 : dheard ⟨true, ⟨rs, f⟩, td⟩ ⟨k, h, t, m⟩ = true := by rw [dheard_eq, hw]; simp only [Bool.true_and]; rw [Bool.and_eq_true]; exact ⟨decide_eq_true (by omega), decide_eq_true (by omega)⟩
          rw [if_pos c1]
          simp only [h4, ht, if_false, if_true, dtell]
          cases hc : td.contains ⟨k, h, t, m⟩ with
          | true =>
            simp (disch := first | assumption | omega | (simp only [zL]; omega)) only [i_decide, Desk.e, iteD_tt, iteD_ff, retOf_ret, cd_blil, getC, C.toInt_int, C.toBool_bool, C.toList_list, if_true]
          | false =>
            have hd2 : DkOk ⟨true, ⟨rs, f⟩, td ++ [⟨k, h, t, m⟩]⟩ := by
              have := hd.tell (w := ⟨k, h, t, m⟩) c1
              unfold dtell at this
              rw [if_neg (by rw [hc]; simp)] at this
              exact this
            have e1 : (td.map Word.e) ++ [[C.int .i64 k, C.int .i64 h, C.int .i64 t, C.int .i64 m]] = (td ++ [(⟨k, h, t, m⟩ : Word)]).map Word.e := by simp [Word.e]
            have hd3 := i_decide hd2 wt.1 (show t <= ((ltrips ⟨rs, f⟩ false).length : Nat) by omega)
            simp only [iteD_ff, iteD_tt, e1, hd3]
            simp (disch := first | assumption | omega | (simp only [zL]; omega)) only [Desk.e, Bool.false_eq_true, if_false, Int.reduceEq, reduceIte, zU, zT, getC]
      · rw [nh (by rw [dheard_eq, hw]; simp [h4])]
        simp only [h4, if_false]; rfl

theorem i_DeskHear (hs : DkS ⟨up, ⟨rs, f⟩, td⟩) :
    φ_bs [.bool up, .list (rs.map Rec.e), .int .i64 f, .list (td.map Word.e), .int .i64 k, .int .i64 h, .int .i64 t, .int .i64 m] = some (if deskOk ⟨up, ⟨rs, f⟩, td⟩ then dhear ⟨up, ⟨rs, f⟩, td⟩ ⟨k, h, t, m⟩ else dz).e := by
  rw [q_bs]
  cases ho : deskOk ⟨up, ⟨rs, f⟩, td⟩ with
  | false => simp (disch := first | assumption | omega | (simp only [zL]; omega)) only [F_bs, i_DeskOk, ho, Int.reduceEq, reduceIte, zU, zT, getC]; rfl
  | true =>
    have hd := deskOk_iff.1 ho
    simp (disch := first | assumption | omega | (simp only [zL]; omega)) only [F_bs, i_DeskOk, ho, i_DeskCopied, i_hear, Desk.e, Int.reduceEq, reduceIte, zU, zT, getC]

theorem i_DeskTrips (hs : DkS ⟨up, ⟨rs, f⟩, td⟩) : φ_bf [.bool up, .list (rs.map Rec.e), .int .i64 f, .list (td.map Word.e), .bool b] = some [.list ((if deskOk ⟨up, ⟨rs, f⟩, td⟩ then ltrips ⟨rs, f⟩ b else []).map Trip.e)] := by
  rw [q_bf]
  cases ho : deskOk ⟨up, ⟨rs, f⟩, td⟩ with
  | false => simp (disch := first | assumption | omega | (simp only [zL]; omega)) only [F_bf, i_DeskOk, ho, Int.reduceEq, reduceIte, zU, zT, getC]; rfl
  | true =>
    have hd := deskOk_iff.1 ho
    have hlg : LgOk ⟨rs, f⟩ := hd.lg
    simp (disch := first | assumption | omega | (simp only [zL]; omega)) only [F_bf, i_DeskOk, ho, i_trips hlg.S (fun _ => ⟨hlg.lo, hlg.hi⟩), if_true, Int.reduceEq, reduceIte, zU, zT, getC]

end
end Dx


/- The program's houses, and what happens to them. -/
namespace Dx
open Go

def hz : House := ⟨0, false, 0, ⟨[], 0⟩⟩

section
variable {up b : Bool} {rs : List Rec} {f : Int} {td : List Word} {k h t m keep : Int} {ms : List Int} {id room : Int} {hs : List House} {ns : List Word}

end
end Dx


/- The program's worlds: parts. -/
namespace Dx
open Go

section
variable {up b : Bool} {rs : List Rec} {f : Int} {td : List Word} {k h t m keep : Int} {ms : List Int} {id room : Int} {hs : List House} {ns : List Word}

end
end Dx


/- What the program's desk says; its worlds, and how they go. -/
namespace Dx
open Go

section
variable {up b : Bool} {rs : List Rec} {f : Int} {td : List Word} {k h t m keep : Int} {ms : List Int} {id room : Int} {hs : List House} {ns : List Word}

end
end Dx


/- The program's worlds: how they go. -/
namespace Dx
open Go

section
variable {up b : Bool} {rs : List Rec} {f : Int} {td : List Word} {k h t m keep : Int} {ms : List Int} {id room : Int} {hs : List House} {ns : List Word}

theorem row_Wi {l : List Word} {i : Int} {x : Word} (h0 : 0 <= i) (h : l[i.toNat]? = some x) {kk : IntKind} {f : List C -> Option Out} : rowD (.list (l.map Word.e)) (.int kk i) [.int .i64, .int .i64, .int .i64, .int .i64] f = f x.e := rowD_mapI h0 h rfl

end
end Dx


/- Whether two of the program's data are the same. -/
namespace Dx
open Go

theorem eqLoop {α : Type} [DecidableEq α] {F : List C -> Option Out} {a b : List α} (hl : a.length = b.length)
    (hs : ∀ (i : Nat) (x y : α), a[i]? = some x -> b[i]? = some y -> F [.int .i64 (i : Nat)] = if x = y then some (.jump [.int .i64 ((i + 1 : Nat) : Int)]) else some (.up (.ret [.bool false])))
    (hf : F [.int .i64 ((a.length : Nat) : Int)] = some (.up (.ret [.bool true]))) : iterD F [.int .i64 0] = some (.ret [.bool (decide (a = b))]) := by
  have key := iter_list0 (l := a) (F := F) (enc := fun i (_ : Unit) => [.int .i64 i]) (res := fun xs i _ => .ret [.bool (decide (xs = b.drop i))]) (fun _ _ => True) (s := ()) trivial ?_ ?_
  · have key : iterD _ [C.int .i64 0] = _ := key
    rw [key]; rfl
  · intro i x xs _ hx _
    have hi := (List.getElem?_eq_some_iff.1 hx).1
    have hb : i < b.length := by omega
    have hy : b[i]? = some b[i] := by simp [hb]
    have := hs i x b[i] hx hy
    have hdr := List.drop_eq_getElem_cons hb
    by_cases e : x = b[i]
    · rw [if_pos e] at this
      exact .inl ⟨(), this, trivial, by simp only [hdr, List.cons.injEq, e, true_and, false_and, decide_false]⟩
    · rw [if_neg e] at this
      exact .inr ⟨_, this, by simp only [hdr, List.cons.injEq, e, true_and, false_and, decide_false]⟩
  · intro _ _
    rw [hf, List.drop_of_length_le (by omega)]
    simp

section
variable {a b : List Int} {up up' : Bool} {rs rs' : List Rec} {f f' : Int} {td td' : List Word} {k k' t t' id id' room room' h m : Int} {hs hs' : List House} {ns ns' : List Word}

theorem n_Ints (ha : a.length <= 1099511627776) : φ_dk [.list (a.map eI), .list (b.map eI)] = some [.bool (decide (a = b))] := by
  rw [q_dk]; unfold F_dk
  simp only [List.length_map]
  by_cases hl : a.length = b.length
  · have e : (((a.length : Nat) : Int) != ((b.length : Nat) : Int)) = false := by simp [hl]
    simp only [e, iteD_ff]
    rw [eqLoop hl]
    · rfl
    · intro i x y hx hy
      have hi := (List.getElem?_eq_some_iff.1 hx).1
      have hi' : (i : Int) < (a.length : Nat) := by omega
      simp (disch := first | assumption | omega | (simp only [zL]; omega)) only [L_dk_0, row_I hx, row_I hy, eI, wrap_nat, hi', if_true, Int.reduceEq, reduceIte, zU, zT, getC]
      try (by_cases e : x = y <;> simp [e])
    · have h : ¬ ((a.length : Int) < (a.length : Nat)) := by omega
      simp (disch := first | assumption | omega | (simp only [zL]; omega)) only [L_dk_0, h, if_false, Int.reduceEq, reduceIte, zU, zT, getC]
  · have e : (((a.length : Nat) : Int) != ((b.length : Nat) : Int)) = true := by simp; omega
    have : a ≠ b := fun h => hl (by rw [h])
    simp [e, this]
theorem n_Rec {r r' : Rec} (hr : r.m.length <= 1099511627776) : φ_dq [.int .i64 r.k, .int .i64 r.t, .list (r.m.map eI), .int .i64 r'.k, .int .i64 r'.t, .list (r'.m.map eI)] = some [.bool (decide (r = r'))] := by
  rw [q_dq]
  obtain ⟨k, t, m⟩ := r
  obtain ⟨k', t', m'⟩ := r'
  simp (disch := first | assumption | omega | (simp only [zL]; omega)) only [F_dq, n_Ints, Int.reduceEq, reduceIte, zU, zT, getC]
  by_cases e1 : k = k' <;> by_cases e2 : t = t' <;> simp [e1, e2]
theorem n_Recs (hr : rs.length <= 1099511627776) (hm : ∀ r ∈ rs, r.m.length <= 1099511627776) : φ_dn [.list (rs.map Rec.e), .list (rs'.map Rec.e)] = some [.bool (decide (rs = rs'))] := by
  rw [q_dn]; unfold F_dn
  simp only [List.length_map]
  by_cases hl : rs.length = rs'.length
  · have e : (((rs.length : Nat) : Int) != ((rs'.length : Nat) : Int)) = false := by simp [hl]
    simp only [e, iteD_ff]
    rw [eqLoop hl]
    · rfl
    · intro i x y hx hy
      have hi := (List.getElem?_eq_some_iff.1 hx).1
      have hi' : (i : Int) < (rs.length : Nat) := by omega
      have hxm := hm x (List.mem_of_getElem? hx)
      simp (disch := first | assumption | omega | (simp only [zL]; omega)) only [L_dn_0, row_R hx, row_R hy, Rec.e, wrap_nat, hi', if_true, n_Rec, Int.reduceEq, reduceIte, zU, zT, getC]
      try (by_cases e : x = y <;> simp [e])
    · have h : ¬ ((rs.length : Int) < (rs.length : Nat)) := by omega
      simp (disch := first | assumption | omega | (simp only [zL]; omega)) only [L_dn_0, h, if_false, Int.reduceEq, reduceIte, zU, zT, getC]
  · have e : (((rs.length : Nat) : Int) != ((rs'.length : Nat) : Int)) = true := by simp; omega
    have : rs ≠ rs' := fun h => hl (by rw [h])
    simp [e, this]
theorem n_Log (hl : LgS ⟨rs, f⟩) : φ_dz [.list (rs.map Rec.e), .int .i64 f, .list (rs'.map Rec.e), .int .i64 f'] = some [.bool (decide ((⟨rs, f⟩ : Log) = ⟨rs', f'⟩))] := by
  rw [q_dz]
  have h1 : rs.length <= 1099511627776 := by have := hl.1; simp only at this; omega
  have h2 : ∀ r ∈ rs, r.m.length <= 1099511627776 := hl.2
  simp (disch := first | assumption | omega | (simp only [zL]; omega)) only [F_dz, n_Recs h1 h2, Int.reduceEq, reduceIte, zU, zT, getC]
  by_cases e1 : f = f' <;> by_cases e2 : rs = rs' <;> simp [e1, e2]
theorem n_Words (hl : td.length <= 1099511627776) : φ_ch [.list (td.map Word.e), .list (td'.map Word.e)] = some [.bool (decide (td = td'))] := by
  rw [q_ch]; unfold F_ch
  simp only [List.length_map]
  by_cases hl' : td.length = td'.length
  · have e : (((td.length : Nat) : Int) != ((td'.length : Nat) : Int)) = false := by simp [hl']
    simp only [e, iteD_ff]
    rw [eqLoop hl']
    · rfl
    · intro i x y hx hy
      have hi := (List.getElem?_eq_some_iff.1 hx).1
      have hi' : (i : Int) < (td.length : Nat) := by omega
      have hb := word_beq x y
      simp (disch := first | assumption | omega | (simp only [zL]; omega)) only [L_ch_0, row_W hx, row_W hy, Word.e, wrap_nat, hi', if_true, hb, Int.reduceEq, reduceIte, zU, zT, getC]
      try (by_cases e : x = y <;> simp [e])
    · have h : ¬ ((td.length : Int) < (td.length : Nat)) := by omega
      simp (disch := first | assumption | omega | (simp only [zL]; omega)) only [L_ch_0, h, if_false, Int.reduceEq, reduceIte, zU, zT, getC]
  · have e : (((td.length : Nat) : Int) != ((td'.length : Nat) : Int)) = true := by simp; omega
    have : td ≠ td' := fun h => hl' (by rw [h])
    simp [e, this]
theorem n_Desk (hs : DkS ⟨up, ⟨rs, f⟩, td⟩) : φ_cx [.bool up, .list (rs.map Rec.e), .int .i64 f, .list (td.map Word.e), .bool up', .list (rs'.map Rec.e), .int .i64 f', .list (td'.map Word.e)] = some [.bool (decide ((⟨up, ⟨rs, f⟩, td⟩ : Desk) = ⟨up', ⟨rs', f'⟩, td'⟩))] := by
  rw [q_cx]
  have h1 : LgS ⟨rs, f⟩ := hs.lg
  have h2 : td.length <= 1099511627776 := by have := hs.td; simp only at this; omega
  have key : decide ((⟨up, ⟨rs, f⟩, td⟩ : Desk) = ⟨up', ⟨rs', f'⟩, td'⟩) = ((up == up') && (decide ((⟨rs, f⟩ : Log) = ⟨rs', f'⟩) && decide (td = td'))) := by
    rw [Bool.eq_iff_iff]; simp
  simp (disch := first | assumption | omega | (simp only [zL]; omega)) only [F_cx, n_Log h1, n_Words h2, key, Int.reduceEq, reduceIte, zT, getC]
  generalize (up == up') = p1
  generalize decide ((⟨rs, f⟩ : Log) = ⟨rs', f'⟩) = p2
  generalize decide (td = td') = p3
  cases p1 <;> cases p2 <;> rfl
end
end Dx


/- Laws on worlds: how they begin. -/
namespace Dx
open Go

def Bytes (code : List Int) : Prop := ∀ b ∈ code, 0 <= b /\ b <= 255

theorem den_letp (Φ : Phi) (p : Prim) (args : List Cell) (t : Tree) (env : List C) : den Φ (.letp p args t) env = den Φ t (env ++ [p.den (dens env args)]) := by rw [den]
theorem den_ite (Φ : Phi) (a : At) (t e : Tree) (env : List C) : den Φ (.ite a t e) env = iteD (a.den env).toBool (den Φ t env) (den Φ e env) := by rw [den]
theorem den_ret (Φ : Phi) (xs : List Cell) (env : List C) : den Φ (.ret xs) env = some (.ret (dens env xs)) := by rw [den]

end Dx


/- Laws on worlds, as they are drawn. -/
namespace Dx
open Go

theorem den_iter (Φ : Phi) (init : List Cell) (body : Tree) (env : List C) : den Φ (.iter init body) env = iterD (fun ps => den Φ body (env ++ padC ps 0 (cellKs init))) (dens env init) := by rw [den]
theorem den_row (Φ : Phi) (l i : At) (ks : List CK) (t : Tree) (env : List C) : den Φ (.row l i ks t) env = rowD (l.den env) (i.den env) ks fun r => den Φ t (env ++ r) := by rw [den]
theorem den_up (Φ : Phi) (t : Tree) (env : List C) : den Φ (.up t) env = upD (den Φ t env) := by rw [den]
theorem den_jump (Φ : Phi) (xs : List Cell) (env : List C) : den Φ (.jump xs) env = some (.jump (dens env xs)) := by rw [den]
theorem den_join (Φ : Phi) (ks : List CK) (body k : Tree) (env : List C) : den Φ (.join ks body k) env = joinD (den Φ body env) fun ps => den Φ k (env ++ padC ps 0 ks) := by rw [den]

section
variable {code : List Int}
end
end Dx


/- More laws on worlds, as they are drawn. -/
namespace Dx
open Go

section
variable {code : List Int}
end
end Dx


/- More laws on worlds, as they are drawn: what is not said does nothing. -/
namespace Dx
open Go

section
variable {code : List Int}
end
end Dx


/- The program's worlds: what they are asked. -/
namespace Dx
open Go

section
variable {room : Int} {hs : List Hold} {k h t m : Int} {ns : List Word} {w : Wd}

theorem WOk.cells (ho : WOk w) {i : Nat} {x : House} (hx : w.hs[i]? = some x) : LgOk ⟨x.lg.rs, x.lg.f⟩ /\ houseOk ⟨x.id, x.up, x.room, ⟨x.lg.rs, x.lg.f⟩⟩ = true /\ x.id = ((i + 1 : Nat) : Int) :=
  ⟨(ho.hs i x hx).1.lg, houseOk_iff.2 (ho.hs i x hx).1, by have := (ho.hs i x hx).2; omega⟩
end
end Dx


/- Laws on worlds, as they are drawn: no house gives more than it has; what is not forced is not said. -/
namespace Dx
open Go

section
variable {code : List Int}
end
end Dx


/- Laws on worlds, as they are drawn: things happen one behind the other; what a fall keeps counts as forced. -/
namespace Dx
open Go

section
variable {code more : List Int}
end
end Dx


/- A law on worlds, as they are drawn: what was asked is held at most by its trip. -/
namespace Dx
open Go

section
variable {code : List Int}
end
end Dx


/- A law on worlds, as they are drawn: what is decided stays decided. -/
namespace Dx
open Go

section
variable {code more : List Int}
end
end Dx


/- A world fits: all of a trip is closed, or nothing. -/
namespace Dx
open Go

section
variable {w : Wd}
end
end Dx


/- The program's calms. -/
namespace Dx
open Go

section
variable {w : Wd}
end
end Dx


/- Laws of calms: what they share. -/
namespace Dx
open Go
end Dx


/- The rules' checks, copies, and calms. -/
namespace Dx
open Go

structure WS (w : Wd) : Prop where
  dk : DkS w.dk
  hs : ∀ x ∈ w.hs, LgS x.lg
  hl : w.hs.length <= 1000
  nl : w.ns.length <= 1000
theorem WOk.ws {w : Wd} (h : WOk w) : WS w := ⟨h.dk.S, fun x hx => by
  obtain ⟨i, hi⟩ := List.getElem?_of_mem hx
  exact (h.hs i x hi).1.lg.S, by have := h.len; omega, by have := h.nlen; omega⟩

section
variable {up b : Bool} {rs : List Rec} {f : Int} {td : List Word} {k h t m : Int} {id room : Int} {hs : List House} {ns : List Word} {w : Wd}

theorem m_LogOk (hl : LgS ⟨rs, f⟩) : φ_dt [.list (rs.map Rec.e), .int .i64 f] = some [.bool (logOk ⟨rs, f⟩)] := by
  rw [q_dt]
  have h1 := hl.1
  simp only at h1
  unfold F_dt
  refine Eq.trans (congrArg retOf (iter_list0 (l := rs) (enc := fun i (_ : Unit) => [.int .i64 i]) (res := fun xs _ _ => .ret [.bool (xs.all recOk && (decide (rs.length <= 40) && in_ f 0 rs.length))]) (fun _ _ => True) (s := ()) trivial ?_ ?_)) rfl
  · intro i x xs _ hx _
    have hi := (List.getElem?_eq_some_iff.1 hx).1
    have hi' : (i : Int) < (rs.length : Nat) := by omega
    have hm : x.m.length <= 1099511627776 := hl.2 x (List.mem_of_getElem? hx)
    simp only [getC, C.toInt_int]
    unfold L_dt_0
    simp (disch := first | assumption | omega | (simp only [zL]; omega)) only [row_R hx, Rec.e, hi', if_true, m_RecOk hm, wrap_nat, Int.reduceEq, reduceIte, zU, zT, getC]
    cases hr : recOk x with
    | true => exact .inl ⟨(), rfl, trivial, by simp [hr]⟩
    | false => exact .inr ⟨_, rfl, by simp [hr]⟩
  · intro _ _
    have h : ¬ ((rs.length : Int) < (rs.length : Nat)) := by omega
    simp only [getC, C.toInt_int]
    unfold L_dt_0
    by_cases h40 : ((rs.length : Nat) : Int) <= 40
    · have h40' : rs.length <= 40 := by omega
      simp (disch := first | assumption | omega | (simp only [zL]; omega)) only [h, if_false, h40, h40', if_true, m_l6In, decide_true, Bool.true_and, List.all_nil, Int.reduceEq, reduceIte, zU, zT, getC]
    · have h40' : ¬ (rs.length <= 40) := by omega
      simp (disch := first | assumption | omega | (simp only [zL]; omega)) only [h, if_false, h40, h40', decide_false, Bool.false_and, Bool.and_false, Int.reduceEq, reduceIte, zU, zT, getC]

theorem m_DeskOk (hs : DkS ⟨up, ⟨rs, f⟩, td⟩) : φ_ct [.bool up, .list (rs.map Rec.e), .int .i64 f, .list (td.map Word.e)] = some [.bool (deskOk ⟨up, ⟨rs, f⟩, td⟩)] := by
  rw [q_ct]
  have hS : LgS ⟨rs, f⟩ := hs.lg
  have htd : td.length <= 1000000 := by have := hs.td; simp only at this; omega
  have h12 := m_l12Of (rs := rs) hS.1 hS.2
  unfold deskOk
  simp only
  simp (disch := first | assumption | omega | (simp only [zL]; omega)) only [F_ct, h12, m_LogOk hS, Int.reduceEq, reduceIte, zU, zT, getC]
  cases hlo : logOk ⟨rs, f⟩ with
  | false => simp only [iteD_ff, Bool.false_and, retOf_ret]
  | true =>
    simp only [iteD_tt, Bool.true_and]
    cases htr : tripsOf rs with
    | none => simp only [Option.isSome_none, iteD_ff, retOf_ret]
    | some l =>
      simp only [Option.isSome_some, iteD_tt, Option.getD_some]
      have hl6 : l.length <= 6 := (tripsOf_ok htr).len
      refine Eq.trans (congrArg retOf (iter_list0 (l := td) (enc := fun i (_ : Unit) => [.int .i64 i]) (res := fun xs i _ => .ret [.bool (toldOk l.length (td.take i) xs && (up || td.isEmpty))]) (fun _ _ => True) (s := ()) trivial ?_ ?_)) rfl
      · intro i x xs _ hx _
        have hi := (List.getElem?_eq_some_iff.1 hx).1
        have hi' : (i : Int) < (td.length : Nat) := by omega
        have hil : (i : Int) <= (td.length : Nat) := by omega
        have hi0 : (0 : Int) <= (i : Int) := by omega
        have htk : (td.map Word.e).take ((i : Int).toNat) = (td.take i).map Word.e := by rw [Int.toNat_natCast, List.map_take]
        have htn : td.take (i + 1) = td.take i ++ [x] := by rw [List.take_add_one, hx]; rfl
        have hl1 : (td.take i).length <= 1099511627775 := by rw [List.length_take]; omega
        simp only [getC, C.toInt_int]
        unfold L_ct_0
        simp (disch := first | assumption | omega | (simp only [zL]; omega)) only [row_W hx, Word.e, hi', if_true, m_WordOk, hi0, hil, decide_true, Bool.and_self, htk, m_l13Told hl1, wrap_nat, Int.reduceEq, reduceIte, zU, zT, getC]
        cases hw : wordOk x with
        | false =>
          refine .inr ⟨_, rfl, ?_⟩
          simp [toldOk, hw]
        | true =>
          simp only [iteD_tt]
          by_cases h4 : x.k < 4
          · refine .inr ⟨_, by simp only [h4, if_true]; rfl, ?_⟩
            have : ¬ (4 <= x.k) := by omega
            simp [toldOk, this]
          · simp only [h4, if_false]
            by_cases htt : x.t > (l.length : Nat)
            · refine .inr ⟨_, by simp only [htt, if_true]; rfl, ?_⟩
              have : ¬ (x.t <= (l.length : Nat)) := by omega
              simp [toldOk, this]
            · simp only [htt, if_false]
              cases hc : (td.take i).contains x with
              | true =>
                refine .inr ⟨_, rfl, ?_⟩
                simp only [toldOk, hc, Bool.not_true, Bool.and_false, Bool.false_and]
              | false =>
                refine .inl ⟨(), rfl, trivial, ?_⟩
                have g4 : x.k >= 4 := by omega
                have gt : x.t <= (l.length : Nat) := by omega
                simp only [toldOk, hw, hc, g4, gt, decide_true, Bool.and_true, Bool.not_false, Bool.true_and, htn]
      · intro _ _
        have h : ¬ ((td.length : Int) < (td.length : Nat)) := by omega
        simp only [getC, C.toInt_int]
        unfold L_ct_0
        have he : (((td.length : Nat) : Int) == 0) = td.isEmpty := by cases td <;> simp; omega
        simp (disch := first | assumption | omega | (simp only [zL]; omega)) only [h, if_false, he, toldOk, Bool.true_and, Int.reduceEq, reduceIte, zU, zT, getC]
        cases up <;> rfl

end
end Dx


/- Worlds that may not be ok: what is done with them. -/
namespace Dx
open Go

section
variable {up b : Bool} {rs : List Rec} {f : Int} {td : List Word} {k h t m : Int} {id room : Int} {hs : List House} {ns : List Word} {w : Wd}

theorem m_l1RecCopy {ms : List Int} (hm : ms.length <= 1099511627776) : φ_be [.int .i64 k, .int .i64 t, .list (ms.map eI)] = some [.int .i64 k, .int .i64 t, .list (ms.map eI)] := by
  rw [q_be]
  simp (disch := first | assumption | omega | (simp only [zL]; omega)) only [F_be, Int.reduceEq, reduceIte, zU, zT, getC]
theorem m_l1Copy (hl : LgS ⟨rs, f⟩) : φ_dh [.list (rs.map Rec.e), .int .i64 f] = some [.list (rs.map Rec.e), .int .i64 f] := by
  rw [q_dh]
  have h1 := hl.1
  simp only at h1
  unfold F_dh
  refine Eq.trans (congrArg retOf (iter_list0 (l := rs) (enc := fun i (s : List Rec) => [.int .i64 i, .list (s.map Rec.e)]) (res := fun xs _ s => .ret [.list ((s ++ xs).map Rec.e), .int .i64 f]) (fun i s => s.length = i) (s := []) rfl ?_ ?_)) rfl
  · intro i x xs s hx hs
    have hi := (List.getElem?_eq_some_iff.1 hx).1
    have hi' : (i : Int) < (rs.length : Nat) := by omega
    have hm : x.m.length <= 1099511627776 := hl.2 x (List.mem_of_getElem? hx)
    have hc : s.length + 1 <= 1099511627776 := by omega
    simp only [getC, C.toInt_int, C.toList_list]
    unfold L_dh_0
    simp (disch := first | assumption | omega | (simp only [zL]; omega)) only [row_R hx, Rec.e, hi', if_true, m_l1RecCopy hm, hc, wrap_nat, Int.reduceEq, reduceIte, zU, zT, getC]
    refine .inl ⟨s ++ [x], ?_, by simp [hs], by simp⟩
    simp [Rec.e]
  · intro s _
    have h : ¬ ((rs.length : Int) < (rs.length : Nat)) := by omega
    simp only [getC, C.toInt_int, C.toList_list]
    unfold L_dh_0
    simp (disch := first | assumption | omega | (simp only [zL]; omega)) only [h, if_false, Int.reduceEq, reduceIte, zU, zT, getC]
    simp
theorem m_l13Copy (hd : DkS ⟨up, ⟨rs, f⟩, td⟩) : φ_cm [.bool up, .list (rs.map Rec.e), .int .i64 f, .list (td.map Word.e)] = some [.bool up, .list (rs.map Rec.e), .int .i64 f, .list (td.map Word.e)] := by
  rw [q_cm]
  have htd : td.length <= 1099511627776 := by have := hd.td; simp only at this; omega
  have hl : LgS ⟨rs, f⟩ := hd.lg
  simp (disch := first | assumption | omega | (simp only [zL]; omega)) only [F_cm, m_l1Copy hl, htd, Int.reduceEq, reduceIte, zU, zT, getC]
end
end Dx


/- The rules' calms; worlds that are drawn. -/
namespace Dx
open Go

section
variable {w : Wd}
end
end Dx


/- Worlds, words, and numbers that are drawn. -/
namespace Dx
open Go

section
variable {bs : List Int}

def WOut (bs : List Int) (p : Int) (r : Option (List C)) : Prop := ∃ (x : Word) (p' : Int), r = some (x.e ++ [.list (bs.map eB), .int .i64 p']) /\ p <= p' /\ p' <= p + 10
theorem WOut.ite {p : Int} {c : Prop} [Decidable c] {a b : Option (List C)} (ha : WOut bs p a) (hb : WOut bs p b) : WOut bs p (if c then a else b) := by split <;> assumption
theorem wOut {p p' k h t m : Int} (h1 : p <= p') (h2 : p' <= p + 10) : WOut bs p (some [.int .i64 k, .int .i64 h, .int .i64 t, .int .i64 m, .list (bs.map eB), .int .i64 p']) := ⟨⟨k, h, t, m⟩, p', rfl, h1, h2⟩

theorem m_l71Word (hb : Rd bs) {p : Int} (h0 : 0 <= p) (h1 : p <= 800000000) : WOut bs p (φ_bz [.list (bs.map eB), .int .i64 p]) := by
  rw [q_bz]
  obtain ⟨pk, hpk⟩ := picks hb
  have q := fun p n h0 h1 h2 => (hpk p n h0 h1 h2).1
  have j : ∀ (k h t m p' : Int), p <= p' -> p' <= p + 5 -> WOut bs p (retOf (J_bz_0 k h t m (bs.map eB) p')) := by
    intro k h t m p' g1 g2
    unfold J_bz_0
    simp (disch := first | assumption | omega | (simp only [zL]; omega)) only [q, Int.reduceEq, reduceIte, zU, zT, getC]
    exact WOut.ite (wOut (by omega) (by omega)) (WOut.ite (wOut (by omega) (by omega)) (WOut.ite (wOut (by omega) (by omega)) (WOut.ite (wOut (by omega) (by omega)) (wOut (by omega) (by omega)))))
  simp (disch := first | assumption | omega | (simp only [zL]; omega)) only [F_bz, q, Int.reduceEq, reduceIte, zU, zT, getC]
  split
  · exact j _ _ _ _ _ (by omega) (by omega)
  · exact j _ _ _ _ _ (by omega) (by omega)

def MOut (bs : List Int) (p : Int) (r : Option (List C)) : Prop := ∃ (m : List Int) (p' : Int), r = some [.list (m.map eI), .list (bs.map eB), .int .i64 p'] /\ p <= p' /\ p' <= p + 10 /\ m.length <= 3
theorem MOut.ite {p : Int} {c : Prop} [Decidable c] {a b : Option (List C)} (ha : MOut bs p a) (hb : MOut bs p b) : MOut bs p (if c then a else b) := by split <;> assumption
theorem row3 {a b c i : Int} (h0 : 0 <= i) (h3 : i < 3) {kk : IntKind} : ∃ x, (∀ f : List C -> Option Out, rowD (.list [[.int .i64 a], [.int .i64 b], [.int .i64 c]]) (.int kk i) [.int .i64] f = f [.int .i64 x]) := by
  obtain ⟨n, rfl⟩ := Int.eq_ofNat_of_zero_le h0
  rcases (show n = 0 \/ n = 1 \/ n = 2 by omega) with e | e | e <;> subst e
  · exact ⟨a, fun _ => rfl⟩
  · exact ⟨b, fun _ => rfl⟩
  · exact ⟨c, fun _ => rfl⟩
theorem set3 {a b c i x : Int} (h0 : 0 <= i) (h3 : i < 3) : ∃ m : List Int, setRow 0 [[C.int .i64 a], [.int .i64 b], [.int .i64 c]] (Int.toNat i) [.int .i64 x] = m.map eI /\ m.length = 3 := by
  obtain ⟨n, rfl⟩ := Int.eq_ofNat_of_zero_le h0
  rcases (show n = 0 \/ n = 1 \/ n = 2 by omega) with e | e | e <;> subst e
  · exact ⟨[x, b, c], rfl, rfl⟩
  · exact ⟨[a, x, c], rfl, rfl⟩
  · exact ⟨[a, b, x], rfl, rfl⟩
theorem setN {m : List Int} {i x : Int} (h0 : 0 <= i) (h3 : i < m.length) : ∃ m' : List Int, setRow 0 (m.map eI) (Int.toNat i) [.int .i64 x] = m'.map eI /\ m'.length = m.length := by
  have hx : m[i.toNat]? = some (m[i.toNat]'(by omega)) := List.getElem?_eq_getElem (by omega)
  exact ⟨m.set i.toNat x, setRow_map hx rfl, by simp⟩

theorem m_l71ManyJ (hb : Rd bs) {p p' : Int} {m : List Int} (h0 : 0 <= p) (h1 : p <= 800000000) (g1 : p <= p') (g2 : p' <= p + 5) (hm : m.length = 3) : MOut bs p (retOf (J_cs_0 (m.map eI) (bs.map eB) p')) := by
  obtain ⟨pk, hpk⟩ := picks hb
  have q := fun p n h0 h1 h2 => (hpk p n h0 h1 h2).1
  unfold J_cs_0
  simp (disch := first | assumption | omega | (simp only [zL]; omega)) only [q, List.length_map, hm, Int.reduceEq, reduceIte, zU, zT, getC]
  have k1 := hpk (p' + 1) 3 (by omega) (by omega) (by omega)
  have k2 := hpk (p' + 1 + 1) 3 (by omega) (by omega) (by omega)
  have u1 := k1.2.2.1 (by omega)
  have u2 := k2.2.2.1 (by omega)
  refine MOut.ite ?_ (MOut.ite ?_ (MOut.ite ?_ ?_))
  · obtain ⟨x, e1⟩ := row3 (a := -1) (b := 3) (c := 4) (kk := .i64) k2.2.1 u2
    obtain ⟨m', s1, s2⟩ := setN (m := m) (x := x) k1.2.1 (by omega)
    rw [whenD_b (by simp only [Bool.and_eq_true, decide_eq_true_eq]; omega), e1, whenD_b (by simp only [Bool.and_eq_true, decide_eq_true_eq]; omega)]
    simp only [getC, C.toInt_int, s1]
    exact ⟨m', p' + 1 + 1 + 1, rfl, by omega, by omega, by omega⟩
  · exact ⟨m.drop 1, p' + 1, by simp, by omega, by omega, by simp; omega⟩
  · exact ⟨[0, 0, 0], p' + 1, rfl, by omega, by omega, by simp⟩
  · exact ⟨m, p' + 1, rfl, by omega, by omega, by omega⟩
theorem row3a {a b c : Int} {f : List C -> Option Out} : rowD (.list [[.int .i64 a], [.int .i64 b], [.int .i64 c]]) (.int .i64 0) [.int .i64] f = f [.int .i64 a] := rfl
theorem row3b {a b c : Int} {f : List C -> Option Out} : rowD (.list [[.int .i64 a], [.int .i64 b], [.int .i64 c]]) (.int .i64 1) [.int .i64] f = f [.int .i64 b] := rfl
theorem row3c {a b c : Int} {f : List C -> Option Out} : rowD (.list [[.int .i64 a], [.int .i64 b], [.int .i64 c]]) (.int .i64 2) [.int .i64] f = f [.int .i64 c] := rfl
theorem m_l71Many (hb : Rd bs) {p : Int} (h0 : 0 <= p) (h1 : p <= 800000000) : MOut bs p (φ_cs [.list (bs.map eB), .int .i64 p]) := by
  rw [q_cs]
  obtain ⟨pk, hpk⟩ := picks hb
  have q := fun p n h0 h1 h2 => (hpk p n h0 h1 h2).1
  have a1 := hpk p 3 (by omega) (by omega) (by omega)
  have a2 := hpk (p + 1) 3 (by omega) (by omega) (by omega)
  have a3 := hpk (p + 1 + 1) 3 (by omega) (by omega) (by omega)
  have a4 := hpk (p + 1 + 1 + 1) 3 (by omega) (by omega) (by omega)
  have u1 := a1.2.2.1 (by omega)
  have u2 := a2.2.2.1 (by omega)
  have u3 := a3.2.2.1 (by omega)
  have u4 := a4.2.2.1 (by omega)
  have v1 := a1.2.1
  have v2 := a2.2.1
  have v3 := a3.2.1
  have v4 := a4.2.1
  simp (disch := first | assumption | omega | (simp only [zL]; omega)) only [F_cs, q, row3a, row3b, row3c, wrap64, Int.reduceEq, reduceIte, zU, zT, getC]
  simp only [bothD_self, joinD_ite, joinD_jump, getC, C.toInt_int, C.toList_list, retOf_ite]
  have e3 : ∀ a b c : Int, [[C.int .i64 a], [C.int .i64 b], [C.int .i64 c]] = [a, b, c].map eI := fun _ _ _ => rfl
  refine MOut.ite ?_ ?_
  · obtain ⟨m', s1, s2⟩ := set3 (a := pk p 3) (b := pk (p + 1) 3) (c := pk (p + 1 + 1) 3) (x := 1) v4 u4
    rw [s1]
    exact m_l71ManyJ hb (p := p) h0 h1 (by omega) (by omega) s2
  · rw [e3]
    exact m_l71ManyJ hb (p := p) h0 h1 (by omega) (by omega) rfl

theorem cd_iiiili (a b c d : Int) (l : List (List C)) (e : Int) (f : List C -> Option Out) : callD (some [.int .i64 a, .int .i64 b, .int .i64 c, .int .i64 d, .list l, .int .i64 e]) [.int .i64, .int .i64, .int .i64, .int .i64, .list, .int .i64] f = f [.int .i64 a, .int .i64 b, .int .i64 c, .int .i64 d, .list l, .int .i64 e] := callD_ok rfl
structure WdS (w : Wd) : Prop extends WS w where
  bare : DkOk ⟨w.dk.up, ⟨w.dk.lg.rs, w.dk.lg.f⟩, []⟩
  tl : w.dk.td.length <= 1000
def WdOut (bs : List Int) (r : Option (List C)) : Prop := ∃ (w : Wd) (p' : Int), r = some (w.e ++ [.list (bs.map eB), .int .i64 p']) /\ 0 <= p' /\ p' <= 5000 /\ WdS w
theorem WdOut.ite {c : Prop} [Decidable c] {a b : Option (List C)} (ha : WdOut bs a) (hb : WdOut bs b) : WdOut bs (if c then a else b) := by split <;> assumption

end
end Dx


/- Laws on drawn worlds: what they share. -/
namespace Dx
open Go
section
variable {Φ : Phi} {f : Nat} {xs : List Cell} {ks : List CK} {t e b : Tree} {env r cs : List C} {F : List C -> Option (List C)} {X : Option (List C)} {a : At} {p : Prim} {v : C}
theorem sc (hΦ : Φ f = F) (h : F cs = some r) (ha : dens env xs = cs) (hk : kindsB ks r = true) (g : retOf (den Φ t (env ++ r)) = X) : retOf (den Φ (.call f xs ks t) env) = X := by
  rw [den_call, hΦ, ha, h, callD_ok hk]; exact g
theorem st (h : (a.den env).toBool = true) (g : retOf (den Φ t env) = X) : retOf (den Φ (.ite a t e) env) = X := by rw [den_ite, h]; exact g
theorem sf (h : (a.den env).toBool = false) (g : retOf (den Φ e env) = X) : retOf (den Φ (.ite a t e) env) = X := by rw [den_ite, h]; exact g
theorem sl (h : p.den (dens env xs) = v) (g : retOf (den Φ t (env ++ [v])) = X) : retOf (den Φ (.letp p xs t) env) = X := by rw [den_letp, h]; exact g
theorem dc {Y : Option Out} (hΦ : Φ f = F) (h : F cs = some r) (ha : dens env xs = cs) (hk : kindsB ks r = true) (g : den Φ t (env ++ r) = Y) : den Φ (.call f xs ks t) env = Y := by
  rw [den_call, hΦ, ha, h, callD_ok hk]; exact g
theorem dl {Y : Option Out} (h : p.den (dens env xs) = v) (g : den Φ t (env ++ [v]) = Y) : den Φ (.letp p xs t) env = Y := by rw [den_letp, h]; exact g
theorem dj (h : dens env xs = cs) : den Φ (.jump xs) env = some (.jump cs) := by rw [den_jump, h]
theorem sret (h : dens env xs = cs) : retOf (den Φ (.ret xs) env) = some cs := by rw [den_ret, h]; rfl
end

section
variable {Φ : Phi} {t : Tree} {code more : List Int}
end
end Dx


/- Desks that are drawn; the rules' desk. -/
namespace Dx
open Go

section
variable {bs : List Int}

def ROut (bs : List Int) (p : Int) (r : Option (List C)) : Prop := ∃ (x : Rec) (p' : Int), r = some (x.e ++ [.list (bs.map eB), .int .i64 p']) /\ p <= p' /\ p' <= p + 30 /\ x.m.length <= 1000
theorem ROut.ite {p : Int} {c : Prop} [Decidable c] {a b : Option (List C)} (ha : ROut bs p a) (hb : ROut bs p b) : ROut bs p (if c then a else b) := by split <;> assumption
theorem rOut {p p' k t : Int} {m : List Int} (h1 : p <= p') (h2 : p' <= p + 30) (h3 : m.length <= 1000) : ROut bs p (some [.int .i64 k, .int .i64 t, .list (m.map eI), .list (bs.map eB), .int .i64 p']) := ⟨⟨k, t, m⟩, p', rfl, h1, h2, h3⟩

theorem m_l71RecJ (hb : Rd bs) {p p' k t : Int} {b : Bool} {m : List Int} (h0 : 0 <= p) (h1 : p <= 800000000) (g1 : p <= p') (g2 : p' <= p + 15) (hm : m.length <= 3) :
    ROut bs p (retOf (J_da_0 k t b (bs.map eB) p' (m.map eI))) := by
  obtain ⟨pk, hpk⟩ := picks hb
  have q := fun p n h0 h1 h2 => (hpk p n h0 h1 h2).1
  have k2 := hpk (p' + 1) 3 (by omega) (by omega) (by omega)
  have u2 := k2.2.2.1 (by omega)
  obtain ⟨x, e1⟩ := row3 (a := 0) (b := 6) (c := 7) (kk := .i64) k2.2.1 u2
  have u3 : pk (p' + 1) 3 < ((0 + 1 + 1 + 1 : Nat) : Int) := by omega
  have u0 := k2.2.1
  have hc : m.length + 1 <= 1099511627776 := by omega
  unfold J_da_0
  simp (disch := first | assumption | omega | (simp only [zL]; omega)) only [q, e1, u0, u3, hc, decide_true, Bool.and_self, Int.reduceEq, reduceIte, zU, zT, getC]
  refine ROut.ite (rOut (by omega) (by omega) (by omega)) (ROut.ite (rOut (by omega) (by omega) (by omega)) (ROut.ite ?_ (rOut (by omega) (by omega) (by omega))))
  have := rOut (bs := bs) (p := p) (p' := p' + 1 + 1) (k := k) (t := t) (m := m ++ [pk (p' + 1) 5]) (by omega) (by omega) (by simp; omega)
  simpa [eI] using this

theorem m_l71Rec (hb : Rd bs) {p : Int} (h0 : 0 <= p) (h1 : p <= 700000000) : ROut bs p (φ_da [.list (bs.map eB), .int .i64 p]) := by
  rw [q_da]
  obtain ⟨pk, hpk⟩ := picks hb
  have q := fun p n h0 h1 h2 => (hpk p n h0 h1 h2).1
  have a1 := hpk p 7 (by omega) (by omega) (by omega)
  have a2 := hpk (p + 1) 4 (by omega) (by omega) (by omega)
  have a3 := hpk (p + 1 + 1) 3 (by omega) (by omega) (by omega)
  have u1 := a1.2.2.1 (by omega)
  have u2 := a2.2.2.1 (by omega)
  have u3 := a3.2.2.1 (by omega)
  have v1 := a1.2.1
  have v2 := a2.2.1
  have v3 := a3.2.1
  obtain ⟨m, p3, hm, hm1, hm2, hm3⟩ := m_l71Many hb (p := p + 1 + 1) (by omega) (by omega)
  simp (disch := first | assumption | omega | (simp only [zL]; omega)) only [F_da, q, hm, wrap64, Int.reduceEq, reduceIte, zU, zT, getC]
  refine ROut.ite ?_ (ROut.ite ?_ ?_)
  · have := m_l71RecJ hb (p := p) (p' := p + 1 + 1 + 1) (k := 1 + pk p 7) (t := 1 + pk (p + 1) 4) (b := true) (m := [1 + pk (p + 1 + 1) 3]) h0 (by omega) (by omega) (by omega) (by simp)
    exact this
  · exact m_l71RecJ hb (p := p) h0 (by omega) (by omega) (by omega) hm3
  · have := m_l71RecJ hb (p := p) (p' := p + 1 + 1) (k := 1 + pk p 7) (t := 1 + pk (p + 1) 4) (b := false) (m := []) h0 (by omega) (by omega) (by omega) (by simp)
    exact this

theorem cd_iilli (a b : Int) (l m : List (List C)) (e : Int) (f : List C -> Option Out) : callD (some [.int .i64 a, .int .i64 b, .list l, .list m, .int .i64 e]) [.int .i64, .int .i64, .list, .list, .int .i64] f = f [.int .i64 a, .int .i64 b, .list l, .list m, .int .i64 e] := callD_ok rfl
theorem cd_l72 (a : Bool) (l : List (List C)) (b : Int) (m : List (List C)) (a' : Bool) (b' : Int) (n o q : List (List C)) (e : Int) (f : List C -> Option Out) :
    callD (some [.bool a, .list l, .int .i64 b, .list m, .bool a', .hole, .int .i64 b', .hole, .list n, .list o, .list q, .int .i64 e]) [.bool, .list, .int .i64, .list, .bool, .hole, .int .i64, .hole, .list, .list, .list, .int .i64] f =
      f [.bool a, .list l, .int .i64 b, .list m, .bool a', .hole, .int .i64 b', .hole, .list n, .list o, .list q, .int .i64 e] := callD_ok rfl

def DOut (bs : List Int) (r : Option (List C)) : Prop := ∃ (d : Desk) (u : Bool) (f : Int) (hs : List (List C)) (ns : List Word) (p' : Int), r = some (d.e ++ [.bool u, .hole, .int .i64 f, .hole, .list hs, .list (ns.map Word.e), .list (bs.map eB), .int .i64 p']) /\ 0 <= p' /\ p' <= 5000 /\ DkS d /\ ns.length <= 1000
theorem DOut.ite {c : Prop} [Decidable c] {a b : Option (List C)} (ha : DOut bs a) (hb : DOut bs b) : DOut bs (if c then a else b) := by split <;> assumption
theorem dOut {d : Desk} {u : Bool} {f : Int} {hs : List (List C)} {ns : List Word} {p' : Int} (h0 : 0 <= p') (h1 : p' <= 5000) (hd : DkS d) (hn : ns.length <= 1000) :
    DOut bs (some [.bool d.up, .list (d.lg.rs.map Rec.e), .int .i64 d.lg.f, .list (d.td.map Word.e), .bool u, .hole, .int .i64 f, .hole, .list hs, .list (ns.map Word.e), .list (bs.map eB), .int .i64 p']) := ⟨d, u, f, hs, ns, p', rfl, h0, h1, hd, hn⟩

theorem m_l72Desk (hb : Rd bs) {p : Int} (h0 : 0 <= p) (h1 : p <= 100) : DOut bs (φ_cp [.list (bs.map eB), .int .i64 p]) := by
  rw [q_cp]
  obtain ⟨pk, hpk⟩ := picks hb
  have q := fun p n h0 h1 h2 => (hpk p n h0 h1 h2).1
  obtain ⟨a, b, c, w0, es, w, p', hp, _, _, _, _, _, _, hw0, hd, hp0, hp1⟩ := m_l72Play hb (p := p) (by omega) (by omega)
  simp only [Wd.e, List.cons_append, List.nil_append] at hp
  have ow : WOk w := by rw [hd.play]; exact (worldNew_ok hw0).plays es
  have hnl := ow.nlen
  have htd := ow.dk.tdlen
  have hS := ow.dk.S
  have hrl := hS.lg.1
  have hrm := hS.lg.2
  have hrs : w.dk.lg.rs.length <= 40 := ow.dk.lg.len
  obtain ⟨x, px, hx, hx1, hx2⟩ := m_l71Word hb (p := p' + 1) (by omega) (by omega)
  simp only [Word.e, List.cons_append, List.nil_append] at hx
  obtain ⟨r, pr, hr, hr1, hr2, hr3⟩ := m_l71Rec hb (p := p' + 1) (by omega) (by omega)
  simp only [Rec.e, List.cons_append, List.nil_append] at hr
  have hc1 : w.dk.lg.rs.length + 1 <= 1099511627776 := by omega
  have hc2 : w.dk.td.length + 1 <= 1099511627776 := by omega
  simp (disch := first | assumption | omega | (simp only [zL]; omega)) only [F_cp, hp, q, hx, hr, cd_iiiili, cd_iilli, hc1, hc2, Int.reduceEq, reduceIte, zU, zT, getC]
  refine DOut.ite ?_ (DOut.ite ?_ (DOut.ite ?_ (DOut.ite ?_ ?_)))
  · have := dOut (bs := bs) (d := ⟨w.dk.up, ⟨w.dk.lg.rs ++ [r], w.dk.lg.f⟩, w.dk.td⟩) (u := w.dk.up) (f := w.dk.lg.f) (hs := w.hs.map House.e) (ns := w.ns) (p' := pr) (by omega) (by omega) ⟨⟨by simp; omega, fun y hy => ?_⟩, hS.td⟩ (by omega)
    · simpa [Rec.e] using this
    · rcases List.mem_append.1 hy with hy | hy
      · exact hrm y hy
      · rw [List.mem_singleton.1 hy]; omega
  · have := dOut (bs := bs) (d := ⟨w.dk.up, w.dk.lg, w.dk.td ++ [x]⟩) (u := w.dk.up) (f := w.dk.lg.f) (hs := w.hs.map House.e) (ns := w.ns) (p' := px) (by omega) (by omega) ⟨hS.lg, by simp; omega⟩ (by omega)
    simpa [Word.e] using this
  · exact dOut (d := ⟨!w.dk.up, w.dk.lg, w.dk.td⟩) (ns := w.ns) (by omega) (by omega) ⟨hS.lg, hS.td⟩ (by omega)
  · exact dOut (d := ⟨w.dk.up, ⟨w.dk.lg.rs, IntKind.wrap .i64 (w.dk.lg.f + 1)⟩, w.dk.td⟩) (ns := w.ns) (by omega) (by omega) ⟨⟨hrl, hrm⟩, hS.td⟩ (by omega)
  · exact dOut (d := w.dk) (ns := w.ns) (by omega) (by omega) hS (by omega)

end

section
variable {up b : Bool} {rs : List Rec} {f : Int} {td : List Word} {k h t m : Int} {ms : List Int}
theorem m_DeskWords (hs : DkS ⟨up, ⟨rs, f⟩, td⟩) : φ_bj [.bool up, .list (rs.map Rec.e), .int .i64 f, .list (td.map Word.e)] = some [.list ((if deskOk ⟨up, ⟨rs, f⟩, td⟩ then dwords ⟨up, ⟨rs, f⟩, td⟩ else []).map Word.e)] := by
  rw [q_bj]
  cases ho : deskOk ⟨up, ⟨rs, f⟩, td⟩ with
  | false => simp (disch := first | assumption | omega | (simp only [zL]; omega)) only [F_bj, m_DeskOk, ho, Int.reduceEq, reduceIte, zU, zT, getC]; rfl
  | true =>
    have hd := deskOk_iff.1 ho
    have h1 := m_l13Words hd (by have := hs.td; simp only at this; omega)
    simp (disch := first | assumption | omega | (simp only [zL]; omega)) only [F_bj, m_DeskOk, ho, h1, Int.reduceEq, reduceIte, zU, zT, getC]
theorem m_DeskHear (hs : DkS ⟨up, ⟨rs, f⟩, td⟩) :
    φ_bx [.bool up, .list (rs.map Rec.e), .int .i64 f, .list (td.map Word.e), .int .i64 k, .int .i64 h, .int .i64 t, .int .i64 m] = some (if deskOk ⟨up, ⟨rs, f⟩, td⟩ then dhear ⟨up, ⟨rs, f⟩, td⟩ ⟨k, h, t, m⟩ else dz).e := by
  rw [q_bx]
  cases ho : deskOk ⟨up, ⟨rs, f⟩, td⟩ with
  | false => simp (disch := first | assumption | omega | (simp only [zL]; omega)) only [F_bx, m_DeskOk, ho, Int.reduceEq, reduceIte, zU, zT, getC]; rfl
  | true =>
    have hd := deskOk_iff.1 ho
    have h1 := m_l13Hear hd (by have := hs.td; simp only at this; omega) (k := k) (h := h) (t := t) (m := m)
    simp only [Desk.e] at h1
    simp (disch := first | assumption | omega | (simp only [zL]; omega)) only [F_bx, m_DeskOk, ho, m_l13Copy, h1, Desk.e, Int.reduceEq, reduceIte, zU, zT, getC]
end
end Dx


/- A desk and a word that are drawn; how laws on desks begin. -/
namespace Dx
open Go

section
variable {bs : List Int}
def HOut (r : Option (List C)) (d : Desk) : Prop := ∃ x : Word, r = some (d.e ++ x.e)
theorem HOut.ite {d : Desk} {c : Prop} [Decidable c] {a b : Option (List C)} (ha : HOut a d) (hb : HOut b d) : HOut (if c then a else b) d := by split <;> assumption
theorem hOut {d : Desk} {k h t m : Int} : HOut (some [.bool d.up, .list (d.lg.rs.map Rec.e), .int .i64 d.lg.f, .list (d.td.map Word.e), .int .i64 k, .int .i64 h, .int .i64 t, .int .i64 m]) d := ⟨⟨k, h, t, m⟩, rfl⟩

theorem row4i {a b c d i : Int} (h0 : 0 <= i) (h3 : i < 4) {kk : IntKind} : ∃ x, (∀ f : List C -> Option Out, rowD (.list [[.int .i64 a], [.int .i64 b], [.int .i64 c], [.int .i64 d]]) (.int kk i) [.int .i64] f = f [.int .i64 x]) := by
  obtain ⟨n, rfl⟩ := Int.eq_ofNat_of_zero_le h0
  rcases (show n = 0 \/ n = 1 \/ n = 2 \/ n = 3 by omega) with e | e | e | e <;> subst e
  · exact ⟨a, fun _ => rfl⟩
  · exact ⟨b, fun _ => rfl⟩
  · exact ⟨c, fun _ => rfl⟩
  · exact ⟨d, fun _ => rfl⟩

theorem drawHearJ (hb : Rd bs) {p : Int} {d : Desk} {ws ns : List Word} {x : Word} {b : Bool} (h0 : 0 <= p) (h1 : p <= 800000000) (hw : ∀ y ∈ ws, 0 <= y.k /\ y.k <= 3) (hwl : ws.length <= 1000) (hbw : b = true -> ws ≠ []) (hnl : ns.length <= 1000) :
    HOut (retOf (J_al_0 d.up (d.lg.rs.map Rec.e) d.lg.f (d.td.map Word.e) (ns.map Word.e) x.k x.h x.t x.m (ws.map Word.e) b (bs.map eB) p)) d := by
  obtain ⟨pk, hpk⟩ := picks hb
  have q := fun p n h0 h1 h2 => (hpk p n h0 h1 h2).1
  unfold J_al_0
  have rest : HOut (retOf (iteD (decide (((ns.map Word.e).length : Nat) > (0 : Int))) (
      callD (φ_bi [C.list (bs.map eB), C.int .i64 p, C.int .i64 2]) [(.int .i64), .list, (.int .i64)] fun r27 =>
      iteD ((getC r27 0).toInt == 0) (
        callD (φ_bi [C.list (getC r27 1).toList, C.int .i64 (getC r27 2).toInt, C.int .i64 ((ns.map Word.e).length : Nat)]) [(.int .i64), .list, (.int .i64)] fun r32 =>
        rowD (.list (ns.map Word.e)) (.int .i64 (getC r32 0).toInt) [(.int .i64), (.int .i64), (.int .i64), (.int .i64)] fun r35 =>
        some (.ret [C.bool d.up, C.list (d.lg.rs.map Rec.e), C.int .i64 d.lg.f, C.list (d.td.map Word.e), C.int .i64 (getC r35 0).toInt, C.int .i64 (getC r35 1).toInt, C.int .i64 (getC r35 2).toInt, C.int .i64 (getC r35 3).toInt])) <|
      some (.ret [C.bool d.up, C.list (d.lg.rs.map Rec.e), C.int .i64 d.lg.f, C.list (d.td.map Word.e), C.int .i64 x.k, C.int .i64 x.h, C.int .i64 x.t, C.int .i64 x.m])) <|
      some (.ret [C.bool d.up, C.list (d.lg.rs.map Rec.e), C.int .i64 d.lg.f, C.list (d.td.map Word.e), C.int .i64 x.k, C.int .i64 x.h, C.int .i64 x.t, C.int .i64 x.m]))) d := by
    by_cases hn : 0 < ns.length
    · have hn' : (0 : Int) < ((ns.length : Nat) : Int) := by omega
      have r := hpk (p + 1) ((ns.length : Nat) : Int) (by omega) (by omega) (by omega)
      have r1 := r.2.2.1 (by omega)
      have r0 := r.2.1
      have hy : ns[(pk (p + 1) ((ns.length : Nat) : Int)).toNat]? = some (ns[(pk (p + 1) ((ns.length : Nat) : Int)).toNat]'(by omega)) := List.getElem?_eq_getElem (by omega)
      generalize ns[(pk (p + 1) ((ns.length : Nat) : Int)).toNat]'(by omega) = y at hy
      have hrow : ∀ f : List C -> Option Out, rowD (.list (ns.map Word.e)) (.int .i64 (pk (p + 1) ((ns.length : Nat) : Int))) [.int .i64, .int .i64, .int .i64, .int .i64] f = f y.e := fun f => row_Wi (by omega) hy
      simp (disch := first | assumption | omega | (simp only [zL]; omega)) only [q, hn', if_true, hrow, Word.e, Int.reduceEq, reduceIte, zU, zT, getC]
      exact HOut.ite hOut hOut
    · have hn' : ¬ ((0 : Int) < ((ns.length : Nat) : Int)) := by omega
      simp (disch := first | assumption | omega | (simp only [zL]; omega)) only [q, hn', if_false, Int.reduceEq, reduceIte, zU, zT, getC]
      exact hOut
  cases b with
  | false => exact rest
  | true =>
    have hne := hbw rfl
    have hpos : 0 < ws.length := List.length_pos_iff.2 hne
    have r := hpk p ((ws.length : Nat) : Int) (by omega) (by omega) (by omega)
    have r1 := r.2.2.1 (by omega)
    have r0 := r.2.1
    have hy : ws[(pk p ((ws.length : Nat) : Int)).toNat]? = some (ws[(pk p ((ws.length : Nat) : Int)).toNat]'(by omega)) := List.getElem?_eq_getElem (by omega)
    have hk := hw _ (List.mem_of_getElem? hy)
    generalize ws[(pk p ((ws.length : Nat) : Int)).toNat]'(by omega) = y at hy hk
    have hrow : ∀ f : List C -> Option Out, rowD (.list (ws.map Word.e)) (.int .i64 (pk p ((ws.length : Nat) : Int))) [.int .i64, .int .i64, .int .i64, .int .i64] f = f y.e := fun f => row_Wi (by omega) hy
    obtain ⟨z, ez⟩ := row4i (a := 0) (b := 4) (c := 6) (d := 7) (kk := .i64) hk.1 (by omega)
    have k1 : y.k < ((0 + 1 + 1 + 1 + 1 : Nat) : Int) := by omega
    have k0 := hk.1
    simp (disch := first | assumption | omega | (simp only [zL]; omega)) only [q, hrow, Word.e, ez, k0, k1, decide_true, Bool.and_self, Int.reduceEq, reduceIte, zU, zT, getC]
    exact HOut.ite (HOut.ite hOut hOut) hOut

theorem m_DrawDeskHear {code : List Int} (hl : code.length <= 1099511627776) (hc : ∀ b ∈ code, 0 <= b /\ b <= 255) :
    ∃ (d : Desk) (x : Word), φ_al [.list (code.map eB)] = some (d.e ++ x.e) /\ DkS d := by
  rw [q_al]
  obtain ⟨bs, hb, ho⟩ := m_l6Open hl hc
  obtain ⟨pk, hpk⟩ := picks hb
  have q := fun p n h0 h1 h2 => (hpk p n h0 h1 h2).1
  obtain ⟨d, u, f, hs, ns, p, hp, hp0, hp1, hd, hn⟩ := m_l72Desk hb (p := 0) (by omega) (by omega)
  simp only [Desk.e, List.cons_append, List.nil_append] at hp
  obtain ⟨x, px, hx, hx1, hx2⟩ := m_l71Word hb (p := p) (by omega) (by omega)
  simp only [Word.e, List.cons_append, List.nil_append] at hx
  have hd' : DkS ⟨d.up, ⟨d.lg.rs, d.lg.f⟩, d.td⟩ := hd
  have hw := m_DeskWords hd'
  simp only [eta_L, eta_D] at hw
  obtain ⟨ws, hws⟩ : ∃ ws, ws = (if deskOk d then dwords d else []) := ⟨_, rfl⟩
  rw [<- hws] at hw
  have hwk : (∀ y ∈ ws, 0 <= y.k /\ y.k <= 3) /\ ws.length <= 1000 := by
    rw [hws]; split
    · rename_i ho
      have ok := deskOk_iff.1 ho
      refine ⟨fun y hy => ?_, by have := dwords_len ok; omega⟩
      have := dwords_mem ok hy
      have h1 := this.1.k.1
      exact ⟨by omega, this.2.1⟩
    · exact ⟨by simp, by simp⟩
  simp (disch := first | assumption | omega | (simp only [zL]; omega)) only [F_al, ho, hp, hx, hw, q, cd_l72, cd_iiiili, Int.reduceEq, reduceIte, zU, zT, getC]
  have key : ∀ (b : Bool) (p' : Int), px <= p' -> p' <= px + 10 -> (b = true -> ws ≠ []) -> ∃ (d' : Desk) (x' : Word), retOf (J_al_0 d.up (d.lg.rs.map Rec.e) d.lg.f (d.td.map Word.e) (ns.map Word.e) x.k x.h x.t x.m (ws.map Word.e) b (bs.map eB) p') = some (d'.e ++ x'.e) /\ DkS d' := by
    intro b p' g1 g2 g3
    obtain ⟨y, hy⟩ := drawHearJ hb (p := p') (d := d) (ws := ws) (ns := ns) (x := x) (b := b) (by omega) (by omega) hwk.1 hwk.2 g3 hn
    exact ⟨d, y, hy, hd⟩
  by_cases hpos : (0 : Int) < ((ws.length : Nat) : Int)
  · simp only [hpos, if_true]
    exact key _ _ (by omega) (by omega) (fun _ e => by rw [e] at hpos; simp at hpos)
  · simp only [hpos, if_false]
    exact key _ _ (by omega) (by omega) (fun e => by cases e)
end

def hearHead (t : Tree) : Tree :=
.letp .len [⟨.list, (.v 0)⟩] <|
.letp .gtI [⟨(.int .i64), (.v 1)⟩, ⟨(.int .i64), (.n 1048576)⟩] <|
.ite (.v 2) (
  .ret [⟨.bool, (.b true)⟩]) <|
.call 0 [⟨.list, (.v 0)⟩] [.bool, .list, (.int .i64), .list, (.int .i64), (.int .i64), (.int .i64), (.int .i64)] <|
.call 1 [⟨.bool, (.v 3)⟩, ⟨.list, (.v 4)⟩, ⟨(.int .i64), (.v 5)⟩, ⟨.list, (.v 6)⟩, ⟨(.int .i64), (.v 7)⟩, ⟨(.int .i64), (.v 8)⟩, ⟨(.int .i64), (.v 9)⟩, ⟨(.int .i64), (.v 10)⟩] [.bool, .list, (.int .i64), .list] <|
.call 2 [⟨.bool, (.v 3)⟩, ⟨.list, (.v 4)⟩, ⟨(.int .i64), (.v 5)⟩, ⟨.list, (.v 6)⟩, ⟨(.int .i64), (.v 7)⟩, ⟨(.int .i64), (.v 8)⟩, ⟨(.int .i64), (.v 9)⟩, ⟨(.int .i64), (.v 10)⟩] [.bool, .list, (.int .i64), .list] <|
.call 3 [⟨.bool, (.v 11)⟩, ⟨.list, (.v 12)⟩, ⟨(.int .i64), (.v 13)⟩, ⟨.list, (.v 14)⟩, ⟨.bool, (.v 15)⟩, ⟨.list, (.v 16)⟩, ⟨(.int .i64), (.v 17)⟩, ⟨.list, (.v 18)⟩] [.bool] <|
.letp .not [⟨.bool, (.v 19)⟩] <|
.ite (.v 20) (
  .call 2 [⟨.bool, (.v 3)⟩, ⟨.list, (.v 4)⟩, ⟨(.int .i64), (.v 5)⟩, ⟨.list, (.v 6)⟩, ⟨(.int .i64), (.v 7)⟩, ⟨(.int .i64), (.v 8)⟩, ⟨(.int .i64), (.v 9)⟩, ⟨(.int .i64), (.v 10)⟩] [.bool, .list, (.int .i64), .list] <|
  .call 3 [⟨.bool, (.v 11)⟩, ⟨.list, (.v 12)⟩, ⟨(.int .i64), (.v 13)⟩, ⟨.list, (.v 14)⟩, ⟨.bool, (.v 21)⟩, ⟨.list, (.v 22)⟩, ⟨(.int .i64), (.v 23)⟩, ⟨.list, (.v 24)⟩] [.bool] <|
  .ret [⟨.bool, (.v 25)⟩]) <|
.call 4 [⟨.bool, (.v 3)⟩, ⟨.list, (.v 4)⟩, ⟨(.int .i64), (.v 5)⟩, ⟨.list, (.v 6)⟩] [.bool] <|
.letp .not [⟨.bool, (.v 21)⟩] <|
.ite (.v 22) (
  .call 2 [⟨.bool, (.v 3)⟩, ⟨.list, (.v 4)⟩, ⟨(.int .i64), (.v 5)⟩, ⟨.list, (.v 6)⟩, ⟨(.int .i64), (.v 7)⟩, ⟨(.int .i64), (.v 8)⟩, ⟨(.int .i64), (.v 9)⟩, ⟨(.int .i64), (.v 10)⟩] [.bool, .list, (.int .i64), .list] <|
  .call 3 [⟨.bool, (.v 11)⟩, ⟨.list, (.v 12)⟩, ⟨(.int .i64), (.v 13)⟩, ⟨.list, (.v 14)⟩, ⟨.bool, (.v 23)⟩, ⟨.list, (.v 24)⟩, ⟨(.int .i64), (.v 25)⟩, ⟨.list, (.v 26)⟩] [.bool] <|
  .ret [⟨.bool, (.v 27)⟩]) t

def hearEnv (code : List Int) (d : Desk) (x : Word) (d' : Desk) : List C :=
  [.list (code.map eB), .int .i64 ((code.map eB).length : Nat), .bool false,
   .bool d.up, .list (d.lg.rs.map Rec.e), .int .i64 d.lg.f, .list (d.td.map Word.e), .int .i64 x.k, .int .i64 x.h, .int .i64 x.t, .int .i64 x.m,
   .bool d'.up, .list (d'.lg.rs.map Rec.e), .int .i64 d'.lg.f, .list (d'.td.map Word.e),
   .bool d'.up, .list (d'.lg.rs.map Rec.e), .int .i64 d'.lg.f, .list (d'.td.map Word.e), .bool true, .bool false, .bool true, .bool false]

theorem dselfS {d : Desk} (h : DkS d) : φ_cx [.bool d.up, .list (d.lg.rs.map Rec.e), .int .i64 d.lg.f, .list (d.td.map Word.e), .bool d.up, .list (d.lg.rs.map Rec.e), .int .i64 d.lg.f, .list (d.td.map Word.e)] = some [.bool true] := by
  have hS : DkS ⟨d.up, ⟨d.lg.rs, d.lg.f⟩, d.td⟩ := h
  rw [n_Desk hS]; simp
theorem dz_S : DkS dz := ⟨⟨by simp [dz], by simp [dz]⟩, by simp [dz]⟩

section
variable {Φ : Phi} {t : Tree} {code : List Int}
set_option maxHeartbeats 2000000 in
theorem hearHead_den (h0 : Φ 0 = φ_al) (h1 : Φ 1 = φ_bs) (h2 : Φ 2 = φ_bx) (h3 : Φ 3 = φ_cx) (h4 : Φ 4 = φ_ct)
    (hl : code.length <= 1099511627776) (hc : Bytes code)
    (ht : ∀ (d : Desk) (x : Word), DkOk d -> retOf (den Φ t (hearEnv code d x (dhear d x))) = some [.bool true]) :
    retOf (den Φ (hearHead t) [.list (code.map eB)]) = some [.bool true] := by
  obtain ⟨d, x, hd, hs⟩ := m_DrawDeskHear hl hc
  have hs' : DkS ⟨d.up, ⟨d.lg.rs, d.lg.f⟩, d.td⟩ := hs
  have p1 := i_DeskHear hs' (k := x.k) (h := x.h) (t := x.t) (m := x.m)
  have p2 := m_DeskHear hs' (k := x.k) (h := x.h) (t := x.t) (m := x.m)
  have hok := m_DeskOk hs'
  simp only [eta_L, eta_D, eta_W] at p1 p2 hok
  obtain ⟨y, hy⟩ : ∃ y, y = (if deskOk d then dhear d x else dz) := ⟨_, rfl⟩
  rw [<- hy] at p1 p2
  have hyS : DkS y := by
    rw [hy]; split
    · rename_i h; exact ((deskOk_iff.1 h).hear x).1.S
    · exact dz_S
  have hn := dselfS hyS
  simp only [Desk.e, Word.e, List.cons_append, List.nil_append] at p1 p2 hn hd
  unfold hearHead
  refine sl rfl ?_
  by_cases hbig : (((code.map eB).length : Nat) : Int) > 1048576
  · exact sl (congrArg C.bool (decide_eq_true hbig)) (st rfl (sret rfl))
  refine sl (congrArg C.bool (decide_eq_false hbig)) (sf rfl (sc h0 hd rfl rfl (sc h1 p1 rfl rfl (sc h2 p2 rfl rfl (sc h3 hn rfl rfl (sl rfl (sf rfl ?_)))))))
  cases hwo : deskOk d with
  | false =>
    rw [hwo] at hok
    exact sc h4 hok rfl rfl (sl rfl (st rfl (sc h2 p2 rfl rfl (sc h3 hn rfl rfl (sret rfl)))))
  | true =>
    rw [hwo] at hok
    rw [hwo, if_pos rfl] at hy
    have := ht d x (deskOk_iff.1 hwo)
    rw [<- hy] at this
    exact sc h4 hok rfl rfl (sl rfl (sf rfl this))
end
end Dx


/- What was said, of the laws' own. -/
namespace Dx
open Go
theorem n_Said {td : List Word} (hL : td.length <= 1099511627775) {k h t m : Int} :
    φ_di [.list (td.map Word.e), .int .i64 k, .int .i64 h, .int .i64 t, .int .i64 m] = some [.bool (td.contains ⟨k, h, t, m⟩)] := by
  rw [q_di]; unfold F_di
  have key := iter_list0 (l := td) (F := fun ps => L_di_0 (td.map Word.e) k h t m ((getC ps 0).toInt)) (enc := fun i (_ : Unit) => [.int .i64 i])
    (res := fun xs _ _ => .ret [.bool (xs.contains ⟨k, h, t, m⟩)]) (fun _ _ => True) (s := ()) trivial ?_ ?_
  · have key : iterD _ [C.int .i64 0] = _ := key
    rw [key]; rfl
  · intro i x xs s hx _
    have hi := (List.getElem?_eq_some_iff.1 hx).1
    have hi' : (i : Int) < (td.length : Nat) := by omega
    have hw := word_beq x ⟨k, h, t, m⟩
    simp only at hw
    simp (disch := first | assumption | omega | (simp only [zL]; omega)) only [L_di_0, row_W hx, Word.e, wrap_nat, hi', if_true, hw, Int.reduceEq, reduceIte, zU, zT, getC]
    by_cases e : x = ⟨k, h, t, m⟩
    · exact .inr ⟨_, by rw [if_pos e], by simp [e]⟩
    · exact .inl ⟨(), by rw [if_neg e], trivial, by simp [Ne.symm e]⟩
  · intro s _
    have h : ¬ ((td.length : Int) < (td.length : Nat)) := by omega
    simp only [L_di_0, h, if_false, Int.reduceEq, reduceIte, zU, zT, getC]
    rfl

theorem n_All {td : List Word} (hL : td.length <= 1099511627775) {t k : Int} {m : List Int} (hm : m.length <= 1000) :
    φ_dv [.list (td.map Word.e), .int .i64 t, .list (m.map eI), .int .i64 k] = some [.bool (toldAll td t k 1 m)] := by
  rw [q_dv]; unfold F_dv
  have key := iter_list0 (l := m) (F := fun ps => L_dv_0 (td.map Word.e) t (m.map eI) k ((getC ps 0).toInt)) (enc := fun i (_ : Unit) => [.int .i64 i])
    (res := fun xs i _ => .ret [.bool (toldAll td t k ((i + 1 : Nat) : Int) xs)]) (fun _ _ => True) (s := ()) trivial ?_ ?_
  · have key : iterD _ [C.int .i64 0] = _ := key
    rw [key]; rfl
  · intro i x xs s hx _
    have hi := (List.getElem?_eq_some_iff.1 hx).1
    have hi' : (i : Int) < (m.length : Nat) := by omega
    simp (disch := first | assumption | omega | (simp only [zL]; omega)) only [L_dv_0, row_I hx, eI, wrap_nat, hi', if_true, n_Said, Int.reduceEq, reduceIte, zU, zT, getC]
    have e1 : ((i + 1 : Nat) : Int) + 1 = ((i + 1 + 1 : Nat) : Int) := by omega
    by_cases hx0 : x > 0
    · simp only [hx0, if_true]
      cases hc : td.contains ⟨k, ((i + 1 : Nat) : Int), t, 0⟩ with
      | true => exact .inl ⟨(), rfl, trivial, by simp only [toldAll, hx0, hc, e1, Bool.or_true, Bool.true_and]⟩
      | false => exact .inr ⟨_, rfl, by simp only [toldAll, hx0, hc, decide_true, Bool.not_true, Bool.or_self, Bool.false_and]⟩
    · simp only [hx0, if_false]
      exact .inl ⟨(), by first | rfl | trivial, trivial, by simp only [toldAll, hx0, e1, decide_false, Bool.not_false, Bool.true_or, Bool.true_and]⟩
  · intro s _
    have h : ¬ ((m.length : Int) < (m.length : Nat)) := by omega
    simp only [L_dv_0, h, if_false, Int.reduceEq, reduceIte, zU, zT, getC]
    rfl
section
variable {Φ : Phi} {ks : List CK} {t : Tree} {env r : List C} {X : Option (List C)} {a i : At} {l : List (List C)} {j : Int}
end

section
variable {Φ : Phi} {f : Nat} {xs : List Cell} {ks : List CK} {t e : Tree} {env r cs : List C} {F : List C -> Option (List C)} {Y : Option Out} {a i : At} {p : Prim} {v : C} {l : List (List C)} {j : Int} {o : Out}
theorem yt (h : (a.den env).toBool = true) (g : den Φ t env = Y) : den Φ (.ite a t e) env = Y := by rw [den_ite, h]; exact g
theorem yf (h : (a.den env).toBool = false) (g : den Φ e env = Y) : den Φ (.ite a t e) env = Y := by rw [den_ite, h]; exact g
theorem yr (hl : a.den env = .list l) (hi : i.den env = .int .i64 j) (h : ∀ f : List C -> Option Out, rowD (.list l) (.int .i64 j) ks f = f r) (g : den Φ t (env ++ r) = Y) : den Φ (.row a i ks t) env = Y := by
  rw [den_row, hl, hi, h]; exact g
theorem yu (g : den Φ t env = some o) : den Φ (.up t) env = some (.up o) := by rw [den_up, g]; rfl
theorem yret (h : dens env xs = cs) : den Φ (.ret xs) env = some (.ret cs) := by rw [den_ret, h]
end

theorem iter_ret {F : List C -> Option Out} {I : Nat -> List C -> Prop} {o : Out} {ps : List C} (h : ∀ n ps, I n ps -> (∃ ps' n', n' < n /\ F ps = some (.jump ps') /\ I n' ps') \/ F ps = some (.up o)) (n : Nat) (h0 : I n ps) : iterD F ps = some o := by
  obtain ⟨o', h1, rfl⟩ := iter_ex (F := F) (I := I) (Q := fun o' => o' = o) (fun n ps hI => (h n ps hI).imp id fun e => ⟨o, e, rfl⟩) n ps h0
  exact h1
theorem iter_retR {F : List C -> Option Out} {I : Nat -> List C -> Prop} {o : Out} {ps : List C} {X : Option (List C)} (n : Nat) (h0 : I n ps) (h : ∀ n ps, I n ps -> (∃ ps' n', n' < n /\ F ps = some (.jump ps') /\ I n' ps') \/ F ps = some (.up o)) (hX : retOf (some o) = X) : retOf (iterD F ps) = X := by
  rw [iter_ret h n h0]; exact hX

section
variable {code : List Int}
end
end Dx


/- Steps more; the trips of a desk that heard a word. -/
namespace Dx
open Go
section
variable {Φ : Phi} {ks : List CK} {t b : Tree} {env cs : List C} {Y : Option Out}
theorem yn (h : den Φ b env = some (.jump cs)) (hk : kindsB ks cs = true) (g : den Φ t (env ++ cs) = Y) : den Φ (.join ks b t) env = Y := by
  rw [den_join, h]; simp only [joinD_jump, padC_ok hk]; exact g
end
theorem tAt_of {l : List Trip} {i : Nat} {x : Trip} (h : l[i]? = some x) : tAt l ((i + 1 : Nat) : Int) = x := by
  unfold tAt
  rw [show (((i + 1 : Nat) : Int) - 1).toNat = i by omega, h]; rfl
end Dx

