import Derived.Test.YtcgenclbnnigeaaGreatXd
import Derived.Deep.LoopGhost
import Derived.Deep.RegionLaw
import Derived.Lib.AppendZerosOnto
import Derived.Lib.SliceRun
import Derived.Lib.Walk
import Derived.Shelf.Lays8
import Derived.Shelf.RegionOpenPlain
import Derived.Shelf.SlBodiesN
import Derived.Shelf.SlGeneric
import Derived.Sort.WalkB12
import Derived.WalkKit
set_option linter.all false
set_option linter.unusedVariables false
set_option linter.unusedSimpArgs false
set_option linter.unnecessarySimpa false
/- The same: the machine's part. -/

namespace Dx
open Go Go.Proofs Go.Shelf Go.RowKit Go.Lib Go.Sort

theorem cell_of {w : World} {g : Nat} {cur : Array Value} {ty : TypeId} {fr : Nat × Nat} (h : w.heap[g]? = some (.cells cur ty fr)) (k : Nat) : w.cell? ⟨g, k, none⟩ = cur[k]? := by
  simp [World.cell?, h]

structure DelAt (P : Program) (ρ : Ren) : Prop where
  mixed : P.follows .mixedOrders = true
  f45 : Bears P (ρ.f 45) (SlBodyN.n45 ρ)
  t3 : P.underlying (ρ.t 3) = some (TypeDesc.int IntKind.i64)
  t4 : P.underlying (ρ.t 4) = some (TypeDesc.bool)
  t22 : P.underlying (ρ.t 22) = some (TypeDesc.slice (ρ.t 23))
  i23 : (P.info? (ρ.t 23)).map (fun i => (i.size, i.zero)) = some (4, some (.agg #[.int .i64 0, .int .i64 0, .int .i64 0, .int .i64 0]))

theorem zeros4_len (n : Nat) : (Builtin.zeroCells (Value.agg #[.int .i64 0, .int .i64 0, .int .i64 0, .int .i64 0]).cells n).toList.length = n * 4 := by
  simp [Builtin.zeroCells, Value.cells]

variable {P : Program} {ρ : Ren}
theorem rowsP_nil {w : World} {M : Nat -> Prop} {row : List Sh} (ha : allVal row = true) {n : Nat} : ∀ {es : List (List C)} {vs : List Value} {X : List Nat}, rowsP (shR w M row) n es vs X -> X = []
  | [], _, _, h => h
  | r :: rs, vs, X, h => by
    obtain ⟨X1, X2, rfl, h1, h2⟩ := h
    rw [shR_vals_nil ha h1, rowsP_nil ha h2]; rfl

def row4 : List Sh := [.val, .val, .val, .val]
theorem ro_int {w : World} {M Z : Nat -> Prop} {c : List C} {v : Value} {X : List Nat} (h : parV w M Z (.ro false [.int .i64]) c v X) : X = [] /\ ∃ i, c = [.int .i64 i] /\ v = .int .i64 i := by
  rw [parV] at h
  obtain ⟨h1, h2, us, h3, h4, h5⟩ := h
  refine ⟨h1, ?_⟩
  have h5 : us = [v] := h5
  subst h5
  match c, h2 with
  | [.int k i], h2 =>
    have hk : k = .i64 := by
      simp only [kindsB, kindB] at h2
      split at h2
      · rename_i hh; exact (eqKind_ok hh).symm
      · cases h2
    subst hk
    rw [repRow] at h4
    obtain ⟨v', vs', e1, e2, _⟩ := h4
    simp only [List.cons.injEq] at e1
    rw [repC] at e2
    exact ⟨i, rfl, by rw [e1.1, e2]⟩

end Dx


/- slices.Grow of an empty row: the machine's part. -/
namespace Dx
open Go Go.Proofs Go.Shelf Go.RowKit Go.Lib

structure GrowAt (P : Program) (ρ : Ren) : Prop where
  mixed : P.follows .mixedOrders = true
  f4 : Bears P (ρ.f 4) (Body8.n4 ρ)
  t3 : P.underlying (ρ.t 3) = some (TypeDesc.int IntKind.i64)
  t4 : P.underlying (ρ.t 4) = some (TypeDesc.bool)
  t22 : P.underlying (ρ.t 22) = some (TypeDesc.slice (ρ.t 25))
  i25 : (P.info? (ρ.t 25)).map (fun i => (i.size, i.bytes, i.zero)) = some (4, 32, some (.agg #[.int .i64 0, .int .i64 0, .int .i64 0, .int .i64 0]))

variable {P : Program} {ρ : Ren}

set_option maxHeartbeats 2000000 in
set_option maxRecDepth 100000 in
theorem grow_room (L : GrowAt P ρ) (base : Option Addr) (l c n : Nat) (w : World) (hlc : l <= c) (hc63 : c <= 9223372036854775807) (hn63 : n <= 9223372036854775807) (hroom : l + n <= c) :
    Calls P (ρ.f 4) #[.slice base l c, .int .i64 n] w fun e w' => e = .returned (.slice base l c) /\ w' = w := by
  have mixed := L.mixed
  have t3 := L.t3; have u3 := run_underlying L.t3; have t4 := L.t4; have u4 := run_underlying L.t4; have t22 := L.t22; have u22 := run_underlying L.t22
  obtain ⟨_, _, FG⟩ := L.f4
  have h1 : ¬ ((n : Int) < 0) := by omega
  have h2 : wrap64 ((c : Int) - (l : Int)) = (c : Int) - (l : Int) := by unfold wrap64; omega
  have h3 : wrap64 ((n : Int) - ((c : Int) - (l : Int))) = (n : Int) - ((c : Int) - (l : Int)) := by unfold wrap64; omega
  have h4 : ¬ ((n : Int) - ((c : Int) - (l : Int)) > 0) := by omega
  go_enter FG, Body8.n4_ntmps ρ
  go_wp2
  go_ret
  exact ⟨rfl, rfl⟩

set_option maxHeartbeats 4000000 in
set_option maxRecDepth 100000 in
theorem grow_grow (L : GrowAt P ρ) (i0 : TypeInfo) (z : Value) (hi0 : P.info? (ρ.t 25) = some i0) (hz0 : i0.zero = some z) (hs0 : 0 < i0.size)
    (base : Option Addr) (l c n : Nat) (cs : List Value) (w : World) (hlc : l <= c) (hroom : c < l + n) (hbig : (l + n) * i0.bytes <= 140737488355328) (h63 : l + n <= 4611686018427387904)
    (hcl : cs.length = c * i0.size) (hnil : base = none -> c = 0) (hcs : ∀ a, base = some a -> ∀ j v, cs[j]? = some v -> w.cell? (a.add j) = some v) :
    Calls P (ρ.f 4) #[.slice base l c, .int .i64 n] w fun e w' =>
      e = .returned (.slice (some ⟨w.heap.size, 0, none⟩) l (grownCap w (l + n) c (ρ.t 25))) ∧
      w' = w.drew.alloc (.cells (cs.toArray ++ Builtin.zeroCells z.cells (l + n - c) ++ Builtin.zeroCells z.cells (grownCap w (l + n) c (ρ.t 25) - (l + n))) (ρ.t 25)) := by
  have mixed := L.mixed
  have t3 := L.t3; have u3 := run_underlying L.t3; have t4 := L.t4; have u4 := run_underlying L.t4; have t22 := L.t22; have u22 := run_underlying L.t22
  have tt22 := L.t22; have tt3 := L.t3
  obtain ⟨_, _, FG⟩ := L.f4
  have h1 : ¬ ((n : Int) < 0) := by omega
  have h2 : wrap64 ((c : Int) - (l : Int)) = (c : Int) - (l : Int) := by unfold wrap64; omega
  have h3 : wrap64 ((n : Int) - ((c : Int) - (l : Int))) = (n : Int) - ((c : Int) - (l : Int)) := by unfold wrap64; omega
  have h4 : (n : Int) - ((c : Int) - (l : Int)) > 0 := by omega
  have z25 : ∀ w, (Go.sizeOf (ρ.t 25)).run P w = .ok i0.size w := fun w => by simp [Go.sizeOf, typeInfo, hi0]
  have hck : c + (l + n - c) = l + n := by omega
  have hold : (Builtin.firstCells i0.size c (.slice base c c)).run P w.drew = .ok cs.toArray w.drew := by
    cases base with
    | none =>
      have h0 := hnil rfl
      subst h0
      have hc0 : cs = [] := List.length_eq_zero_iff.1 (by simpa using hcl)
      rw [hc0]
      exact run_firstCells_none w.drew i0.size 0 0 0
    | some a => exact run_firstCells_some w.drew i0.size c a c c cs hcl (fun j v hj => hcs a rfl j v hj)
  have hrz : ∀ ty, (Builtin.append_ #[(ρ.t 22), (ρ.t 3)] ty #[.slice base c c, .int .i64 ((n : Int) - ((c : Int) - (l : Int)))]).run P w =
      .ok (.slice (some ⟨w.heap.size, 0, none⟩) (l + n) (grownCap w (l + n) c (ρ.t 25))) (w.drew.alloc (.cells (cs.toArray ++ Builtin.zeroCells z.cells (l + n - c) ++ Builtin.zeroCells z.cells (grownCap w (l + n) c (ρ.t 25) - (l + n))) (ρ.t 25))) := fun ty => by
    have h := Lib.run_append_grow_zeros w (ρ.t 22) (ρ.t 3) ty (ρ.t 25) i0 z .i64 .i64 tt22 tt3 hi0 hz0 base c c cs hold (l + n - c) (by omega) hs0 (by omega) (by omega)
      (by have : (l + n - c) * i0.bytes <= (l + n) * i0.bytes := Nat.mul_le_mul_right _ (by omega)
          omega)
      (by rw [hck]; exact growslice_fits hroom hbig)
    rw [hck] at h
    rw [show (n : Int) - ((c : Int) - (l : Int)) = ((l + n - c : Nat) : Int) by omega]
    exact h
  have hGn : l + n <= grownCap w (l + n) c (ρ.t 25) := grownCap_ge w _ _ _
  obtain ⟨G, hG⟩ : ∃ G, G = grownCap w (l + n) c (ρ.t 25) := ⟨_, rfl⟩
  rw [<- hG] at hrz hGn ⊢
  have hG63 : G <= 9223372036854775807 := by
    have := grownCap_le_maxLen w (l + n) c (ρ.t 25) (by unfold maxLen; omega)
    rw [<- hG] at this
    unfold maxLen at this
    omega
  clear hold hck hG hcs hcl L tt22 tt3
  go_enter FG, Body8.n4_ntmps ρ
  cases base with
  | none =>
    have h0 := hnil rfl
    subst h0
    obtain rfl : l = 0 := by omega
    go_wp2_with (at_builtin; refine Lib.wpList_append_run _ rfl _ _ _ _ rfl _ _ rfl rfl _ _ (hrz _) ?_)
    all_goals (go_ret; exact ⟨rfl, rfl⟩)
  | some a =>
    obtain ⟨ab, ao, asp⟩ := a
    go_wp2_with (at_builtin; refine Lib.wpList_append_run _ rfl _ _ _ _ rfl _ _ rfl rfl _ _ (hrz _) ?_)
    all_goals (go_ret; exact ⟨rfl, rfl⟩)

def growCon (e : Nat) : Con := ⟨[.own false [.arr e row4] [.list] false, .ro false [.int .i64]], [⟨false, [.arr e row4], [.list], false⟩]⟩
theorem grow_has (L : GrowAt P ρ) : Has P (ρ.f 4) (growCon (ρ.t 25)) φ_at := by
  refine ⟨L.f4.enters rfl, ?_⟩
  intro w M cs vs X hM hp hnd hlt rs hφ
  simp only [growCon, parVs] at hp
  obtain ⟨c1, c2, v, vs', X1, X2, rfl, rfl, rfl, hp1, c3, c4, v2, vs2, X3, X4, rfl, rfl, rfl, hp2, rfl, rfl, rfl⟩ := hp
  obtain ⟨rfl, n, rfl, rfl⟩ := ro_int hp2
  rw [parV] at hp1
  obtain ⟨hk, us, hs, hv⟩ := hp1
  have hv : us = [v] := hv
  subst hv
  rw [shR] at hs
  obtain ⟨c, cs', v', vs', Y1, Y2, rfl, e1, rfl, hc, hn⟩ := hs
  rw [shR] at hn
  obtain ⟨rfl, rfl, rfl⟩ := hn
  simp only [List.cons.injEq, and_true] at e1
  subst e1
  rw [shC] at hc
  obtain ⟨es, vals, X', rfl, rfl, hown, hrows, _, hL⟩ := hc
  have hX' := rowsP_nil rfl hrows
  subst hX'
  simp only [List.append_nil, List.cons_append, List.nil_append] at hφ
  cases es with
  | cons a tl => simp [φ_at] at hφ
  | nil =>
  simp only [φ_at] at hφ
  split at hφ
  case h_2 => cases hφ
  rename_i hc
  simp only [Bool.and_eq_true, decide_eq_true_eq] at hc
  obtain ⟨h0, h1⟩ := hc
  simp only [Option.some.injEq] at hφ
  subst hφ
  obtain ⟨n, rfl⟩ : ∃ n' : Nat, n = n' := ⟨n.toNat, by omega⟩
  obtain ⟨i0, hi0, hz1, hby, hzero⟩ : ∃ i0, P.info? (ρ.t 25) = some i0 /\ i0.size = 4 /\ i0.bytes = 32 /\ i0.zero = some (.agg #[.int .i64 0, .int .i64 0, .int .i64 0, .int .i64 0]) := by
    have h := L.i25
    simp only [Option.map_eq_some_iff, Prod.mk.injEq] at h
    obtain ⟨i0, h1, h2, h3, h4⟩ := h
    exact ⟨i0, h1, h2, h3, h4⟩
  have hv0 : vals = [] := List.length_eq_zero_iff.1 (by have := hown.1; simpa using this)
  subst hv0
  -- what comes back, whatever row it is
  have fin : ∀ (w' : World) (v' : Value) (Xn : List Nat), w'.os = w.os -> w'.tape = w.tape -> w'.output = w.output -> w.heap.size <= w'.heap.size ->
      (∀ b, b < w.heap.size -> w'.heap[b]? = w.heap[b]?) -> w'.ownsRow 0 (ρ.t 25) 4 v' 0 [] -> (blk v').toList = Xn -> Xn.Nodup -> (∀ b ∈ Xn, ¬ M b /\ b < w'.heap.size /\ (w.heap.size <= b \/ b ∈ (blk v).toList)) ->
      ∃ (M' : Nat -> Prop) (rvs : List Value) (r1 r2 : List C) (Xa Xb : List Nat), Ending.returned v' = .returned (retV rvs) /\ [C.list []] = r1 ++ r2 /\ w'.os = w.os /\ w'.tape = w.tape /\ w'.output = w.output /\ w.heap.size <= w'.heap.size ∧
      (∀ b, b < w.heap.size -> b ∉ ((blk v).toList ++ [] ++ [] ++ ([] ++ [])) -> w'.heap[b]? = w.heap[b]?) /\ (∀ b, M b -> M' b) /\ (∀ b, M' b -> b < w'.heap.size /\ (M b \/ w.heap.size <= b \/ b ∈ ((blk v).toList ++ [] ++ [] ++ ([] ++ [])))) ∧
      resVs w' M' (growCon (ρ.t 25)).res r1 rvs Xa /\ backVs w w' M' (growCon (ρ.t 25)).args [v, .int .i64 (n : Int)] r2 Xb /\ (Xa ++ Xb).Nodup /\ (∀ b ∈ Xa ++ Xb, ¬ M' b /\ b < w'.heap.size /\ (w.heap.size <= b \/ b ∈ ((blk v).toList ++ [] ++ [] ++ ([] ++ [])))) := by
    intro w' v' Xn a1 a2 a3 a4 a5 a6 a7 a8 a9
    refine ⟨M, [v'], [.list []], [], Xn, [], rfl, rfl, a1, a2, a3, a4, fun b hb _ => a5 b hb, fun b hb => hb, fun b hb => ⟨Nat.lt_of_lt_of_le (hM b hb).1 a4, .inl hb⟩, ?_, ?_, by simpa using a8, fun b hb => ?_⟩
    · simp only [growCon, resVs]
      refine ⟨[.list []], [], v', [], Xn, [], rfl, rfl, by simp, rfl, ?_, rfl, rfl, rfl⟩
      simp only [retOne]
      refine ⟨[v'], ?_, rfl⟩
      rw [shR]
      refine ⟨_, [], v', [], Xn, [], rfl, rfl, by simp, ?_, by rw [shR]; exact ⟨rfl, rfl, rfl⟩⟩
      rw [shC]
      exact ⟨[], [], [], rfl, by simp [a7], a6, rfl, by decide, by simp⟩
    · simp only [growCon, backVs, backV]
      exact ⟨_, _, [], [], [], [], rfl, rfl, rfl, ⟨rfl, rfl⟩, _, _, [], [], [], [], rfl, rfl, rfl, ⟨rfl, rfl⟩, rfl, rfl, rfl⟩
    · simp only [List.append_nil] at hb
      obtain ⟨b1, b2, b3⟩ := a9 b hb
      exact ⟨b1, b2, b3.imp id (fun h => by simpa using h)⟩
  have zl : ∀ k, (Builtin.zeroCells (Value.agg #[.int .i64 0, .int .i64 0, .int .i64 0, .int .i64 0]).cells k).size = k * 4 := fun k => by
    have := zeros4_len k
    simpa using this
  have made : ∀ (cs : List Value) (c : Nat), cs.length = c * 4 -> c <= n -> 
      (w.drew.alloc (.cells (cs.toArray ++ Builtin.zeroCells (Value.agg #[.int .i64 0, .int .i64 0, .int .i64 0, .int .i64 0]).cells (0 + n - c) ++ Builtin.zeroCells (Value.agg #[.int .i64 0, .int .i64 0, .int .i64 0, .int .i64 0]).cells (grownCap w (0 + n) c (ρ.t 25) - (0 + n))) (ρ.t 25))).ownsRow 0 (ρ.t 25) 4 (.slice (some ⟨w.heap.size, 0, none⟩) 0 (grownCap w (0 + n) c (ρ.t 25))) 0 [] := fun cs c hl hc => by
    have hge := grownCap_ge w (0 + n) c (ρ.t 25)
    refine World.ownsRow_made w.drew _ _ (Nat.zero_le _) (grownCap_le_maxLen w (0 + n) c (ρ.t 25) (by unfold maxLen; omega)) ?_
    simp only [Array.size_append, zl, List.size_toArray, hl]
    omega
  have heapA : ∀ (o : Obj) (b : Nat), b < w.heap.size -> (w.drew.alloc o).heap[b]? = w.heap[b]? := fun o b hb => heap_alloc_old w.drew o hb
  have sizeA : ∀ (o : Obj), (w.drew.alloc o).heap.size = w.heap.size + 1 := fun o => World.size_alloc w.drew o
  rcases hown.2 with ⟨rfl, _⟩ | ⟨g, cap, cur, rfl, _, hg, hcn, hcm, hsz, htake⟩
  · by_cases hn0 : n = 0
    · subst hn0
      refine (grow_room L none 0 0 0 w (by omega) (by omega) (by omega) (by omega)).mono ?_
      rintro en w' ⟨rfl, rfl⟩
      exact fin w' (.slice none 0 0) [] rfl rfl rfl (Nat.le_refl _) (fun _ _ => rfl) (World.ownsRow_nil w' 0 _ 4) rfl (by simp) (by simp)
    · refine (grow_grow L i0 _ hi0 hzero (by omega) none 0 0 n [] w (by omega) (by omega) (by rw [hby]; omega) (by omega) (by simp) (fun _ => rfl) (by simp)).mono ?_
      rintro en w' ⟨rfl, rfl⟩
      refine fin _ _ [w.heap.size] rfl rfl rfl (by rw [sizeA]; omega) (heapA _) (made [] 0 (by simp) (by omega)) rfl (by simp) ?_
      intro b hb
      simp only [List.mem_singleton] at hb
      subst hb
      exact ⟨fun h => absurd (hM _ h).1 (Nat.lt_irrefl _), by rw [sizeA]; omega, .inl (Nat.le_refl _)⟩
  · have hsz : cur.size = cap * 4 := hsz
    have hblk : (blk (.slice (some ⟨g, 0, none⟩) 0 cap)).toList = [g] := rfl
    by_cases hroom : n <= cap
    · refine (grow_room L (some ⟨g, 0, none⟩) 0 cap n w (by omega) (by unfold maxLen at hcm; omega) (by omega) (by omega)).mono ?_
      rintro en w' ⟨rfl, rfl⟩
      refine fin w' (.slice (some ⟨g, 0, none⟩) 0 cap) [g] rfl rfl rfl (Nat.le_refl _) (fun _ _ => rfl) ⟨by simp, .inr ⟨g, cap, cur, rfl, Nat.zero_le _, hg, hcn, hcm, hsz, by simp⟩⟩ rfl (by simp) ?_
      intro b hb
      simp only [List.mem_singleton] at hb
      subst hb
      exact ⟨fun h => (hM _ h).2 (by simp [hblk]), hlt _ (by simp [hblk]), .inr (by simp [hblk])⟩
    · refine (grow_grow L i0 _ hi0 hzero (by omega) (some ⟨g, 0, none⟩) 0 cap n cur.toList w (by omega) (by omega) (by rw [hby]; omega) (by omega) (by simp [hsz, hz1]) (fun h => by cases h) (fun a ha j v hj => ?_)).mono ?_
      · simp only [Option.some.injEq] at ha
        subst ha
        rw [show (⟨g, 0, none⟩ : Addr).add j = ⟨g, j, none⟩ by simp [Addr.add_lit], cell_of hg]
        simpa using hj
      · rintro en w' ⟨rfl, rfl⟩
        refine fin _ _ [w.heap.size] rfl rfl rfl (by rw [sizeA]; omega) (heapA _) (made cur.toList cap (by simp [hsz]) (by omega)) rfl (by simp) ?_
        intro b hb
        simp only [List.mem_singleton] at hb
        subst hb
        exact ⟨fun h => absurd (hM _ h).1 (Nat.lt_irrefl _), by rw [sizeA]; omega, .inl (Nat.le_refl _)⟩
end Dx

