import Derived.Test.YtcgenclbnnigeabGreatXb
set_option linter.all false
set_option linter.unusedVariables false
set_option linter.unusedSimpArgs false
set_option linter.unnecessarySimpa false
/- Contracts of functions; what a call hands over. -/
namespace Dx
open Go

inductive Par where
  | ro (agg : Bool) (ks : List CK)
  | own (agg : Bool) (shs : List Sh) (ks : List CK) (back : Bool)
  | ptr (shs : List Sh) (ks : List CK)
  | rptr (ks : List CK)
  | fn (f : Nat) (kss : List (List CK))

structure Ret where
  agg : Bool
  shs : List Sh
  ks : List CK
  ptr : Bool := false

structure Con where
  args : List Par
  res : List Ret

def isV (agg : Bool) (vs : List Value) (v : Value) : Prop :=
  match agg with
  | true => v = .agg vs.toArray
  | false => vs = [v]

def rptrV (w : World) (Z : Nat -> Prop) (ks : List CK) (cs : List C) (v : Value) : Prop :=
  kindsB ks cs = true /\ ∃ b o arr T fr, v = .pointer (some ⟨b, o, none⟩) /\ Z b /\ w.heap[b]? = some (.cells arr T fr) /\ ks.length <= (arr.toList.drop o).length /\ repRow w Z cs (arr.toList.drop o)

def rptrVs (w : World) (Z : Nat -> Prop) : List (List CK) -> List C -> List Value -> Prop
  | [], cs, vs => cs = [] /\ vs = []
  | ks :: kss, cs, vs => ∃ c1 c2 v vs', cs = c1 ++ c2 /\ vs = v :: vs' /\ rptrV w Z ks c1 v /\ rptrVs w Z kss c2 vs'

def parV (w : World) (M Z : Nat -> Prop) : Par -> List C -> Value -> List Nat -> Prop
  | .ro a ks, cs, v, X => X = [] /\ kindsB ks cs = true /\ ∃ vs, vs.length = ks.length /\ repRow w Z cs vs /\ isV a vs v
  | .own a shs ks _, cs, v, X => kindsB ks cs = true /\ ∃ vs, shR w M shs cs vs X /\ isV a vs v
  | .ptr shs ks, cs, v, X => kindsB ks cs = true /\ ∃ b pre us post arr T X', v = .pointer (some ⟨b, pre.length, none⟩) /\ w.heap[b]? = some (.cells arr T (0, 0)) /\ arr.toList = pre ++ us ++ post /\ shR w M shs cs us X' /\ X = b :: X'
  | .rptr ks, cs, v, X => X = [] /\ rptrV w Z ks cs v
  | .fn f kss, cs, v, X => X = [] /\ ∃ caps, v = .func (.func f) #[] caps /\ rptrVs w Z kss cs caps.toList

def parVs (w : World) (M Z : Nat -> Prop) : List Par -> List C -> List Value -> List Nat -> Prop
  | [], cs, vs, X => cs = [] /\ vs = [] /\ X = []
  | p :: ps, cs, vs, X => ∃ c1 c2 v vs' X1 X2, cs = c1 ++ c2 /\ vs = v :: vs' /\ X = X1 ++ X2 /\ parV w M Z p c1 v X1 /\ parVs w M Z ps c2 vs' X2

def backV (w w' : World) (M : Nat -> Prop) : Par -> Value -> List C -> List Nat -> Prop
  | .own a shs ks true, v, cs, X => kindsB ks cs = true /\ ∃ vs, isV a vs v /\ shR w' M shs cs vs X
  | .ptr shs ks, v, cs, X => kindsB ks cs = true /\ ∃ b pre us us' post arr arr' T X', v = .pointer (some ⟨b, pre.length, none⟩) /\ w.heap[b]? = some (.cells arr T (0, 0)) /\ arr.toList = pre ++ us ++ post /\ us.length = shs.length ∧
      w'.heap[b]? = some (.cells arr' T (0, 0)) /\ arr'.toList = pre ++ us' ++ post /\ shR w' M shs cs us' X' /\ X = b :: X'
  | _, _, cs, X => cs = [] /\ X = []

def backVs (w w' : World) (M : Nat -> Prop) : List Par -> List Value -> List C -> List Nat -> Prop
  | [], vs, cs, X => vs = [] /\ cs = [] /\ X = []
  | p :: ps, vs, cs, X => ∃ v vs' c1 c2 X1 X2, vs = v :: vs' /\ cs = c1 ++ c2 /\ X = X1 ++ X2 /\ backV w w' M p v c1 X1 /\ backVs w w' M ps vs' c2 X2

def retOne (w : World) (M : Nat -> Prop) (r : Ret) (cs : List C) (v : Value) (X : List Nat) : Prop :=
  match r.ptr with
  | false => ∃ us, shR w M r.shs cs us X /\ isV r.agg us v
  | true => ∃ b pre us post arr T X', v = .pointer (some ⟨b, pre.length, none⟩) /\ w.heap[b]? = some (.cells arr T (0, 0)) /\ arr.toList = pre ++ us ++ post /\ shR w M r.shs cs us X' /\ X = b :: X'

def resVs (w : World) (M : Nat -> Prop) : List Ret -> List C -> List Value -> List Nat -> Prop
  | [], cs, vs, X => cs = [] /\ vs = [] /\ X = []
  | r :: rs, cs, vs, X => ∃ c1 c2 v vs' X1 X2, cs = c1 ++ c2 /\ vs = v :: vs' /\ X = X1 ++ X2 /\ kindsB r.ks c1 = true /\ retOne w M r c1 v X1 /\ resVs w M rs c2 vs' X2

def retV : List Value -> Value
  | [v] => v
  | vs => .tuple vs.toArray

def Walk (P : Program) (f : FuncId) (c : Con) (φ : List C -> Option (List C)) : Prop :=
  ∀ (w : World) (M : Nat -> Prop) (cs : List C) (vs : List Value) (X : List Nat), (∀ b, M b -> b < w.heap.size /\ b ∉ X) -> parVs w M (fun b => b < w.heap.size /\ b ∉ X) c.args cs vs X -> X.Nodup -> (∀ b ∈ X, b < w.heap.size) -> ∀ rs, φ cs = some rs ->
    Calls P f vs.toArray w (fun e w' => ∃ (M' : Nat -> Prop) (rvs : List Value) (r1 r2 : List C) (X1 X2 : List Nat), e = .returned (retV rvs) /\ rs = r1 ++ r2 /\ w'.os = w.os /\ w'.tape = w.tape /\ w'.output = w.output /\ w.heap.size <= w'.heap.size ∧
      (∀ b, b < w.heap.size -> b ∉ X -> w'.heap[b]? = w.heap[b]?) /\ (∀ b, M b -> M' b) /\ (∀ b, M' b -> b < w'.heap.size /\ (M b \/ w.heap.size <= b \/ b ∈ X)) ∧
      resVs w' M' c.res r1 rvs X1 /\ backVs w w' M' c.args vs r2 X2 /\ (X1 ++ X2).Nodup /\ (∀ b ∈ X1 ++ X2, ¬ M' b /\ b < w'.heap.size /\ (w.heap.size <= b \/ b ∈ X)))

structure Has (P : Program) (f : FuncId) (c : Con) (φ : List C -> Option (List C)) : Prop where
  enters : ∀ (args : Array Value) (w : World), (callFunc f args).run P w = .ok (.enter f args) w
  walk : Walk P f c φ


def callArgs (s : List SV) (c : Call) : Option (Nat × List SV) :=
  match c.callee with
  | .value x => match opnd s x with
    | .fn f caps => some (f, (c.args.toList.map (opnd s)) ++ caps)
    | _ => none
  | _ => none

def argAt (s : List SV) (c : Call) (i : Nat) : SV :=
  match callArgs s c with
  | some (_, xs) => getS xs i
  | none => .any

def argCells (agg : Bool) (x : SV) : Option (List SV) :=
  match agg with
  | true => match x with
    | .agg vs => some vs
    | _ => none
  | false => some [x]

def cellsB : List CK -> List Cell -> Bool
  | [], [] => true
  | k :: ks, c :: cs => match k, c.k with
    | .int a, .int b => match eqKind a b with
      | true => cellsB ks cs
      | false => false
    | .bool, .bool => cellsB ks cs
    | .str, .str => cellsB ks cs
    | .list, .list => cellsB ks cs
    | .hole, .hole => cellsB ks cs
    | _, _ => false
  | _, _ => false

inductive Bk where
  | no
  | ptr (k : Nat) (vs : List SV) (off : Nat)
  | own (keys : List (Option Nat))

def keysOf : List Sh -> List SV -> List (Option Nat)
  | .arr _ _ :: shs, .sl k :: xs => some k :: keysOf shs xs
  | _ :: shs, _ :: xs => none :: keysOf shs xs
  | _, _ => []

def pass1 (c : Call) (s : St) (i : Nat) : List Par -> Option (St × List (List Cell) × List Bk)
  | [] => some (s, [], [])
  | .own a shs ks back :: ps => match argCells a (argAt s.sl c i) with
    | some vs => match conR s shs vs with
      | some (s1, cs) => match cellsB ks cs, pass1 c s1 (i + 1) ps with
        | true, some (s2, css, bks) => some (s2, cs :: css, (match back with | true => .own (keysOf shs vs) | false => .no) :: bks)
        | _, _ => none
      | none => none
    | none => none
  | .ptr shs ks :: ps => match argAt s.sl c i with
    | .ptr k off => match getO s.hp k with
      | some (.cells vs) => match Nat.ble (off + shs.length) vs.length, conR s shs ((vs.drop off).take shs.length) with
        | true, some (s1, cs) => match getO s1.hp k with
          | some (.cells vs1) => match cellsB ks cs, pass1 c { s1 with hp := remO s1.hp k } (i + 1) ps with
            | true, some (s2, css, bks) => some (s2, cs :: css, .ptr k vs1 off :: bks)
            | _, _ => none
          | _ => none
        | _, _ => none
      | _ => none
    | _ => none
  | _ :: ps => (pass1 c s (i + 1) ps).map fun q => (q.1, [] :: q.2.1, .no :: q.2.2)

def roPtr (s : St) (ks : List CK) : SV -> Option (List Cell)
  | .vptr _ cells => match Nat.beq cells.length ks.length, ros s cells with
    | true, some cs => match cellsB ks cs with
      | true => some cs
      | false => none
    | _, _ => none
  | .ptr k off => match getO s.hp k with
    | some (.cells vs) => match Nat.ble (off + ks.length) vs.length, ros s ((vs.drop off).take ks.length) with
      | true, some cs => match cellsB ks cs with
        | true => some cs
        | false => none
      | _, _ => none
    | _ => none
  | _ => none

def roPtrs (s : St) : List (List CK) -> List SV -> Option (List Cell)
  | [], [] => some []
  | ks :: kss, x :: xs => match roPtr s ks x with
    | some cs => match roPtrs s kss xs with
      | some r => some (cs ++ r)
      | none => none
    | none => none
  | _, _ => none

def pass2 (c : Call) (s : St) (i : Nat) : List Par -> List (List Cell) -> Option (List Cell)
  | [], [] => some []
  | .ro a ks :: ps, _ :: css => match argCells a (argAt s.sl c i) with
    | some vs => match ros s vs with
      | some cs => match cellsB ks cs, pass2 c s (i + 1) ps css with
        | true, some r => some (cs ++ r)
        | _, _ => none
      | none => none
    | none => none
  | .rptr ks :: ps, _ :: css => match roPtr s ks (argAt s.sl c i) with
    | some cs => match pass2 c s (i + 1) ps css with
      | some r => some (cs ++ r)
      | none => none
    | none => none
  | .fn f kss :: ps, _ :: css => match argAt s.sl c i with
    | .fn g caps => match Nat.beq f g, roPtrs s kss caps with
      | true, some cs => match pass2 c s (i + 1) ps css with
        | some r => some (cs ++ r)
        | none => none
      | _, _ => none
    | _ => none
  | .own _ _ _ _ :: ps, cs :: css => match pass2 c s (i + 1) ps css with
    | some r => some (cs ++ r)
    | none => none
  | .ptr _ _ :: ps, cs :: css => match pass2 c s (i + 1) ps css with
    | some r => some (cs ++ r)
    | none => none
  | _, _ => none

section
variable {Φ : Phi} {cx : Ctx} {M : Nat -> Prop} {N : Nm} {env : List C} {s : St} {tm : Array Value} {w : World} {o : Out} {a : Act}

theorem cellsB_den : ∀ {ks : List CK} {cs : List Cell}, cellsB ks cs = true -> kindsB ks (dens env cs) = true
  | [], [], _ => rfl
  | [], _ :: _, h => by simp [cellsB] at h
  | _ :: _, [], h => by simp [cellsB] at h
  | k :: ks, c :: cs, h => by
    obtain ⟨ck, ca⟩ := c
    cases k <;> cases ck <;> simp only [cellsB, Bool.false_eq_true] at h <;> simp only [dens, Cell.den, kindsB, kindB]
    case int.int a b =>
      split at h
      · rename_i e; rw [e]; exact cellsB_den h
      · cases h
    all_goals exact cellsB_den h

theorem cellsB_len : ∀ {ks : List CK} {cs : List Cell}, cellsB ks cs = true -> cs.length = ks.length := by
  intro ks cs h
  have := kindsB_len (cellsB_den (env := []) h)
  rwa [dens_len] at this

def CallVals (a : Act) (c : Call) (f : Nat) (vals : List Value) : Prop :=
  ∃ x caps, c.callee = .value x /\ a.eval x = .func (.func f) #[] caps /\ vals = c.args.toList.map a.eval ++ caps.toList

theorem callArgs_ok (h : Sat cx M N env s a.tmps w) {c : Call} {f : Nat} {xs : List SV} (hc : callArgs s.sl c = some (f, xs)) : ∃ vals, CallVals a c f vals /\ svms w M cx.R N env xs vals := by
  unfold callArgs at hc
  split at hc
  case h_2 => cases hc
  rename_i x hx
  split at hc
  case h_2 => cases hc
  rename_i g caps he
  simp only [Option.some.injEq, Prod.mk.injEq] at hc
  obtain ⟨rfl, rfl⟩ := hc
  have := h.opnd x
  rw [he, svm] at this
  obtain ⟨cs, h1, h2⟩ := this
  exact ⟨_, ⟨x, cs, hx, h1, rfl⟩, svms_append (svmsMk h _) h2⟩

theorem CallVals.inj {c : Call} {f g : Nat} {us vs : List Value} (h1 : CallVals a c f us) (h2 : CallVals a c g vs) : us = vs := by
  obtain ⟨x, cs, e1, e2, rfl⟩ := h1
  obtain ⟨y, ds, e3, e4, rfl⟩ := h2
  rw [e1] at e3; cases e3
  rw [e2] at e4; cases e4
  rfl

theorem argAt_ok (h : Sat cx M N env s a.tmps w) {c : Call} {f : Nat} {vals : List Value} (hv : CallVals a c f vals) {i : Nat} {v : Value} (hi : vals[i]? = some v) : svm w M cx.R N env (argAt s.sl c i) v := by
  unfold argAt
  split
  · rename_i g xs hc
    obtain ⟨vals', h1, h2⟩ := callArgs_ok h hc
    have := CallVals.inj hv h1
    subst this
    have hlen := svms_len h2
    have hlt : i < xs.length := by rw [<- hlen]; exact (List.getElem?_eq_some_iff.1 hi).1
    obtain ⟨u, hu, hm⟩ := svms_get h2 (show xs[i]? = some (getS xs i) by rw [getS_eq, List.getElem?_eq_getElem hlt]; rfl)
    rw [hi] at hu; simp only [Option.some.injEq] at hu; subst hu; exact hm
  · exact svm_any _

theorem argCells_ok {M R : Nat -> Prop} {ag : Bool} {x : SV} {vs : List SV} {v : Value} (h : argCells ag x = some vs) (hx : svm w M R N env x v) : ∃ us, svms w M R N env vs us /\ isV ag us v := by
  cases ag with
  | false =>
    simp only [argCells, Option.some.injEq] at h; subst h
    exact ⟨[v], by simp only [svms]; exact ⟨v, [], rfl, hx, rfl⟩, rfl⟩
  | true =>
    cases x <;> simp only [argCells, Option.some.injEq, reduceCtorEq] at h
    subst h
    rw [svm] at hx; obtain ⟨cs, rfl, h2⟩ := hx
    exact ⟨cs.toList, h2, by simp [isV]⟩

def BkOk (w : World) (M R : Nat -> Prop) (N : Nm) (env : List C) : Par -> Bk -> Value -> Prop
  | .ptr shs _, .ptr k vs off, v => ∃ b arr us, (N k).v = .pointer (some ⟨b, (N k).pre.length, none⟩) /\ (N k).φ = [b] /\ w.heap[b]? = some (.cells arr (N k).ty (0, 0)) /\ arr.toList = (N k).pre ++ us ++ (N k).post /\ svms w M R N env vs us /\ off + shs.length <= vs.length ∧
      v = .pointer (some ⟨b, (N k).pre.length + off, none⟩)
  | .own ag shs _ true, .own keys, v => ∃ us, isV ag us v /\ us.length = shs.length /\ keys.length = shs.length /\ ∀ (i k : Nat), keys[i]? = some (some k) -> ∃ e row u, shs[i]? = some (.arr e row) /\ us[i]? = some u /\ u = (N k).v
  | .ptr _ _, _, _ => False
  | .own _ _ _ true, _, _ => False
  | _, b, _ => b = .no

def BkOks (w : World) (M R : Nat -> Prop) (N : Nm) (env : List C) : List Par -> List Bk -> List Value -> Prop
  | [], bs, vs => bs = [] /\ vs = []
  | p :: ps, bs, vs => ∃ b bs' v vs', bs = b :: bs' /\ vs = v :: vs' /\ BkOk w M R N env p b v /\ BkOks w M R N env ps bs' vs'

theorem BkOk.mono {M M' R : Nat -> Prop} (hM : ∀ b, M b -> M' b) {p : Par} {bk : Bk} {v : Value} (h : BkOk w M R N env p bk v) : BkOk w M' R N env p bk v := by
  cases p with
  | ptr shs ks =>
    cases bk with
    | ptr k vs off =>
      obtain ⟨b, arr, us, h1, h2, h3, h4, h5, h6⟩ := h
      exact ⟨b, arr, us, h1, h2, h3, h4, svms.keep (fun b hb => ⟨hM b hb, rfl⟩) (fun _ _ => rfl) h5, h6⟩
    | _ => exact h
  | own ag shs ks back => cases back <;> cases bk <;> exact h
  | _ => exact h

theorem keysOf_len : ∀ {shs : List Sh} {xs : List SV}, xs.length = shs.length -> (keysOf shs xs).length = shs.length
  | [], xs, h => by cases xs <;> simp_all [keysOf]
  | sh :: shs, [], h => by simp at h
  | .val :: shs, x :: xs, h => by simp [keysOf, keysOf_len (shs := shs) (xs := xs) (by simpa using h)]
  | .arr e row :: shs, x :: xs, h => by
    have := keysOf_len (shs := shs) (xs := xs) (by simpa using h)
    cases x <;> simp [keysOf, this]

theorem keysOf_get : ∀ {shs : List Sh} {xs : List SV} {i k : Nat}, (keysOf shs xs)[i]? = some (some k) -> ∃ e row, shs[i]? = some (.arr e row) /\ xs[i]? = some (.sl k)
  | [], xs, i, k, h => by cases xs <;> simp [keysOf] at h
  | sh :: shs, [], i, k, h => by cases sh <;> simp [keysOf] at h
  | .val :: shs, x :: xs, i, k, h => by
    simp only [keysOf] at h
    cases i with
    | zero => simp at h
    | succ i => simpa using keysOf_get (by simpa using h)
  | .arr e row :: shs, x :: xs, i, k, h => by
    cases i with
    | zero =>
      cases x <;> simp [keysOf] at h
      subst h; exact ⟨e, row, by simp, by simp⟩
    | succ i =>
      have : (keysOf shs xs)[i]? = some (some k) := by cases x <;> simpa [keysOf] using h
      simpa using keysOf_get this
end
end Dx


/- What a call hands over: the callee finds it so. -/
namespace Dx
open Go

section
variable {Φ : Phi} {cx : Ctx} {M M1 M2 : Nat -> Prop} {N : Nm} {env : List C} {s s1 s2 : St} {tm : Array Value} {w : World} {o : Out} {a : Act} {X X1 X2 Y : List Nat}

theorem Handed.trans (g : Handed cx N env tm w M s Y M1 s1 X1) (j : Handed cx N env tm w M1 s1 (X1 ++ Y) M2 s2 X2) : Handed cx N env tm w M s Y M2 s2 (X1 ++ X2) := by
  have perm : (X2 ++ (X1 ++ Y)).Perm ((X1 ++ X2) ++ Y) := by
    rw [<- List.append_assoc]; exact List.Perm.append_right Y List.perm_append_comm
  refine ⟨j.sat, fun b hb => j.sub b (g.sub b hb), fun b hb => ?_, fun k o hk => ?_, fun b hb => j.free b (perm.mem_iff.2 hb), perm.nodup_iff.1 j.nodup, ?_, ?_, ?_⟩
  · rcases j.from' b hb with hm | ⟨k, o, e1, e2⟩
    · exact g.from' b hm
    · obtain ⟨o', e3⟩ := g.less k o e1; exact .inr ⟨k, o', e3, e2⟩
  · obtain ⟨o1, e1⟩ := j.less k o hk; exact g.less k o1 e1
  · intro b hb; exact (List.mem_append.1 hb).elim (g.lt b) (j.lt b)
  · intro b hb
    refine (List.mem_append.1 hb).elim (g.was b) (fun hb => ?_)
    obtain ⟨k, o, e1, e2⟩ := j.was b hb
    obtain ⟨o', e3⟩ := g.less k o e1
    exact ⟨k, o', e3, e2⟩
  · obtain ⟨p1, p2, p3⟩ := g.same
    obtain ⟨q1, q2, q3⟩ := j.same
    exact ⟨q1.trans p1, q2.trans p2, q3.trans p3⟩

theorem Handed.take (g : Handed cx N env tm w M s Y M1 s1 X) {k : Nat} {ob : SObj} (hk : getO s1.hp k = some ob) : Handed cx N env tm w M s Y M1 { s1 with hp := remO s1.hp k } ((N k).φ ++ X) := by
  obtain ⟨ob', hk'⟩ := g.less k ob hk
  refine ⟨g.sat.less fun _ _ hj => (getO_rem_of hj).1, g.sub, g.from', fun j o hj => g.less j o (getO_rem_of hj).1, ?_, ?_, ?_, ?_, g.same⟩
  · intro b hb
    rw [List.append_assoc] at hb
    rcases List.mem_append.1 hb with hb | hb
    · have := g.sat.apart k _ b hk hb
      refine ⟨this.1, this.2, fun j o hj hb' => ?_⟩
      obtain ⟨q1, q2⟩ := getO_rem_of hj
      exact q2 (g.sat.dist j k o _ b q1 hk hb' hb)
    · have := g.free b hb
      exact ⟨this.1, this.2.1, fun j o hj => this.2.2 j o (getO_rem_of hj).1⟩
  · rw [List.append_assoc]
    exact List.nodup_append.2 ⟨g.sat.nodup k _ hk, g.nodup, fun x hx y hy e => (g.free y hy).2.2 k _ hk (e ▸ hx)⟩
  · intro b hb
    exact (List.mem_append.1 hb).elim (g.sat.blt k _ b hk) (g.lt b)
  · intro b hb
    exact (List.mem_append.1 hb).elim (fun hb => ⟨k, ob', hk', hb⟩) (g.was b)

theorem roPtr_ok (h : Sat cx M N env s a.tmps w) {Z : Nat -> Prop} (hM : ∀ b, M b -> Z b) (hR : ∀ b, cx.R b -> Z b) (hO : ∀ k o b, getO s.hp k = some o -> b ∈ (N k).φ -> Z b) {ks : List CK} {x : SV} {cs : List Cell} {v : Value} (hc : roPtr s ks x = some cs) (hx : svm w M cx.R N env x v) : rptrV w Z ks (dens env cs) v := by
  cases x <;> simp only [roPtr, reduceCtorEq] at hc
  case vptr t cells =>
    split at hc
    case h_2 => cases hc
    rename_i cs' c1 c2
    split at hc
    case h_2 => cases hc
    rename_i c3
    simp only [Option.some.injEq] at hc; subst hc
    have hl := beqN c1
    rw [svm] at hx
    obtain ⟨b, o, arr, T, fr, h1, h2, h3, h4⟩ := hx
    obtain ⟨g1, g2⟩ := ros_ok h hM hR hO c2 h4
    have hlen := svms_len h4
    rw [List.length_take] at hlen
    refine ⟨cellsB_den c3, b, o, arr, T, fr, h1, ?_, h3, by omega, repRow_prefix g1 ?_⟩
    · cases t with
      | true => exact hM b h2
      | false => exact h2.elim (hM b) (hR b)
    · rw [dens_len, g2, List.take_take, Nat.min_self]
  case ptr k off =>
    split at hc
    case h_2 => cases hc
    rename_i vs hg
    split at hc
    case h_2 => cases hc
    rename_i cs' c1 c2
    split at hc
    case h_2 => cases hc
    rename_i c3
    simp only [Option.some.injEq] at hc; subst hc
    have hl := bleN c1
    rw [svm] at hx
    obtain ⟨b, hb, hv⟩ := hx
    obtain ⟨b', arr, us, q1, q2, q3, q4, q5⟩ := h.objs k _ hg
    rw [hb] at q1; simp only [Value.pointer.injEq, Option.some.injEq, Addr.mk.injEq, and_true] at q1; subst q1
    obtain ⟨g1, g2⟩ := ros_ok h hM hR hO c2 (svms_sub q5 off ks.length)
    have hlen := svms_len q5
    have hal : arr.size = (N k).pre.length + us.length + (N k).post.length := by rw [<- arr.length_toList, q4]; simp [Nat.add_assoc]
    refine ⟨cellsB_den c3, b, _, arr, _, _, hv, hO k _ b hg (by rw [q2]; simp), q3, by rw [List.length_drop, arr.length_toList]; omega, repRow_prefix g1 ?_⟩
    rw [dens_len, g2, q4, <- List.drop_drop, List.append_assoc, List.drop_left, List.drop_append_of_le_length (by omega)]
    simp only [List.length_take, List.length_drop]
    rw [List.take_append_of_le_length (by rw [List.length_drop]; omega), List.take_take]
    congr 1
    omega

theorem roPtrs_ok (h : Sat cx M N env s a.tmps w) {Z : Nat -> Prop} (hM : ∀ b, M b -> Z b) (hR : ∀ b, cx.R b -> Z b) (hO : ∀ k o b, getO s.hp k = some o -> b ∈ (N k).φ -> Z b) : ∀ {kss : List (List CK)} {xs : List SV} {cs : List Cell} {vs : List Value}, roPtrs s kss xs = some cs -> svms w M cx.R N env xs vs -> rptrVs w Z kss (dens env cs) vs
  | [], [], cs, vs, hc, hx => by
    simp only [roPtrs, Option.some.injEq] at hc; subst hc
    rw [svms] at hx
    exact ⟨rfl, hx⟩
  | [], _ :: _, _, _, hc, _ => by simp [roPtrs] at hc
  | _ :: _, [], _, _, hc, _ => by simp [roPtrs] at hc
  | ks :: kss, x :: xs, cs, vs, hc, hx => by
    simp only [roPtrs] at hc
    split at hc
    case h_2 => cases hc
    rename_i c1 h1
    split at hc
    case h_2 => cases hc
    rename_i c2 h2
    simp only [Option.some.injEq] at hc; subst hc
    rw [svms] at hx; obtain ⟨v, vs', rfl, k1, k2⟩ := hx
    exact ⟨_, _, v, vs', dens_append _ _, rfl, roPtr_ok h hM hR hO h1 k1, roPtrs_ok h hM hR hO h2 k2⟩

theorem pass_ok {c : Call} {f : Nat} {all : List Value} (hv : CallVals a c f all) : ∀ (ps : List Par) {M : Nat -> Prop} {s s' : St} {i : Nat} {css : List (List Cell)} {bks : List Bk} {Y : List Nat}, Sat cx M N env s a.tmps w -> all.length = i + ps.length -> pass1 c s i ps = some (s', css, bks) -> Free cx M N s.hp Y -> Y.Nodup ->
    ∃ M' X, Handed cx N env a.tmps w M s Y M' s' X /\ BkOks w M' cx.R N env ps bks (all.drop i) ∧
      ∀ (M2 Z : Nat -> Prop) (cs : List Cell), (∀ b, M' b -> M2 b) -> Sat cx M2 N env s' a.tmps w -> pass2 c s' i ps css = some cs -> (∀ b, M2 b -> Z b) -> (∀ b, cx.R b -> Z b) -> (∀ k o b, getO s'.hp k = some o -> b ∈ (N k).φ -> Z b) -> parVs w M2 Z ps (dens env cs) (all.drop i) X
  | [], M, s, s', i, css, bks, Y, h, hl, hc, hf, hn => by
    simp only [pass1, Option.some.injEq, Prod.mk.injEq] at hc
    obtain ⟨rfl, rfl, rfl⟩ := hc
    have hd : all.drop i = [] := List.drop_of_length_le (by simp at hl; omega)
    rw [hd]
    refine ⟨M, [], Handed.refl h hf hn, ⟨rfl, rfl⟩, ?_⟩
    intro M2 Z cs _ _ hr _ _ _
    simp only [pass2, Option.some.injEq] at hr; subst hr
    exact ⟨rfl, rfl, rfl⟩
  | p :: ps, M, s, s', i, css, bks, Y, h, hl, hc, hf, hn => by
    have hlt : i < all.length := by simp at hl; omega
    have hdrop : all.drop i = all[i] :: all.drop (i + 1) := List.drop_eq_getElem_cons hlt
    have hai : all[i]? = some all[i] := List.getElem?_eq_getElem hlt
    have hl' : all.length = (i + 1) + ps.length := by simp at hl; omega
    -- a parameter of which nothing is handed over
    have nothing :         (pass1 c s (i + 1) ps).map (fun q => (q.1, [] :: q.2.1, Bk.no :: q.2.2)) = some (s', css, bks) -> (∀ bk, bk = Bk.no -> ∀ M', BkOk w M' cx.R N env p bk all[i]) ->
        (∀ (s : St) (M2 Z : Nat -> Prop) (cs : List Cell) (css : List (List Cell)), Sat cx M2 N env s a.tmps w -> (∀ b, M2 b -> Z b) -> (∀ b, cx.R b -> Z b) -> (∀ k o b, getO s.hp k = some o -> b ∈ (N k).φ -> Z b) -> pass2 c s i (p :: ps) ([] :: css) = some cs ->
          ∃ c1 c2, cs = c1 ++ c2 /\ pass2 c s (i + 1) ps css = some c2 /\ parV w M2 Z p (dens env c1) all[i] []) ->
        ∃ M' X, Handed cx N env a.tmps w M s Y M' s' X /\ BkOks w M' cx.R N env (p :: ps) bks (all.drop i) ∧
          ∀ (M2 Z : Nat -> Prop) (cs : List Cell), (∀ b, M' b -> M2 b) -> Sat cx M2 N env s' a.tmps w -> pass2 c s' i (p :: ps) css = some cs -> (∀ b, M2 b -> Z b) -> (∀ b, cx.R b -> Z b) -> (∀ k o b, getO s'.hp k = some o -> b ∈ (N k).φ -> Z b) -> parVs w M2 Z (p :: ps) (dens env cs) (all.drop i) X := by
      intro hm hbk hps
      cases hq : pass1 c s (i + 1) ps with
      | none => rw [hq] at hm; cases hm
      | some q =>
        obtain ⟨s2, css2, bks2⟩ := q
        rw [hq] at hm
        simp only [Option.map_some, Option.some.injEq, Prod.mk.injEq] at hm
        obtain ⟨rfl, rfl, rfl⟩ := hm
        obtain ⟨M', X, g1, g2, g3⟩ := pass_ok hv ps h hl' hq hf hn
        refine ⟨M', X, g1, ⟨_, _, _, _, rfl, hdrop, hbk _ rfl M', g2⟩, ?_⟩
        intro M2 Z cs h1 h2 h3 h4 h5 h6
        obtain ⟨c1, c2, rfl, e2, e3⟩ := hps s2 M2 Z cs css2 h2 h4 h5 h6 h3
        exact ⟨_, _, _, _, [], X, dens_append _ _, hdrop, rfl, e3, g3 M2 Z c2 h1 h2 e2 h4 h5 h6⟩
    cases p with
    | ro ag ks =>
      simp only [pass1] at hc
      refine nothing hc (fun bk e M' => by subst e; rfl) ?_
      intro s2 M2 Z cs css2 h2 h4 h5 h6 h3
      simp only [pass2] at h3
      split at h3
      case h_2 => cases h3
      rename_i us hus
      split at h3
      case h_2 => cases h3
      rename_i c1 hc1
      split at h3
      case h_2 => cases h3
      rename_i r hb hr
      simp only [Option.some.injEq] at h3; subst h3
      refine ⟨c1, r, rfl, hr, rfl, cellsB_den hb, ?_⟩
      obtain ⟨uv, k1, k2⟩ := argCells_ok hus (argAt_ok h2 hv hai)
      obtain ⟨k3, k4⟩ := ros_ok h2 h4 h5 h6 hc1 k1
      exact ⟨uv, by rw [svms_len k1, <- k4, cellsB_len hb], k3, k2⟩
    | rptr ks =>
      simp only [pass1] at hc
      refine nothing hc (fun bk e M' => by subst e; rfl) ?_
      intro s2 M2 Z cs css2 h2 h4 h5 h6 h3
      simp only [pass2] at h3
      split at h3
      case h_2 => cases h3
      rename_i c1 hc1
      split at h3
      case h_2 => cases h3
      rename_i r hr
      simp only [Option.some.injEq] at h3; subst h3
      exact ⟨c1, r, rfl, hr, rfl, roPtr_ok h2 h4 h5 h6 hc1 (argAt_ok h2 hv hai)⟩
    | fn g kss =>
      simp only [pass1] at hc
      refine nothing hc (fun bk e M' => by subst e; rfl) ?_
      intro s2 M2 Z cs css2 h2 h4 h5 h6 h3
      simp only [pass2] at h3
      split at h3
      case h_2 => cases h3
      rename_i g' caps hg'
      split at h3
      case h_2 => cases h3
      rename_i c1 hb hc1
      split at h3
      case h_2 => cases h3
      rename_i r hr
      simp only [Option.some.injEq] at h3; subst h3
      have := beqN hb; subst this
      have hx := argAt_ok h2 hv hai
      rw [hg', svm] at hx
      obtain ⟨cs', e1, e2⟩ := hx
      exact ⟨c1, r, rfl, hr, rfl, cs', e1, roPtrs_ok h2 h4 h5 h6 hc1 e2⟩
    | own ag shs ks back =>
      simp only [pass1] at hc
      split at hc
      case h_2 => cases hc
      rename_i us hus
      split at hc
      case h_2 => cases hc
      rename_i s1 cs1 hcon
      split at hc
      case h_2 => cases hc
      rename_i s2 css2 bks2 hb hq
      simp only [Option.some.injEq, Prod.mk.injEq] at hc
      obtain ⟨rfl, rfl, rfl⟩ := hc
      obtain ⟨uv, k1, k2⟩ := argCells_ok hus (argAt_ok h hv hai)
      obtain ⟨M1, X1, g1, g2⟩ := conR_ok shs h hcon k1 hf hn
      obtain ⟨M', X2, j1, j2, j3⟩ := pass_ok hv ps g1.sat hl' hq g1.free g1.nodup
      have hul := svms_len k1
      have husl := (conR_len hcon).2
      refine ⟨M', X1 ++ X2, g1.trans j1, ⟨_, _, _, _, rfl, hdrop, ?_, j2⟩, ?_⟩
      · cases back with
        | false => rfl
        | true =>
          refine ⟨uv, k2, by omega, keysOf_len husl, fun i k hk => ?_⟩
          obtain ⟨e, row, e1, e2⟩ := keysOf_get hk
          obtain ⟨u, e3, e4⟩ := svms_get k1 e2
          rw [svm] at e4
          exact ⟨e, row, u, e1, e3, e4⟩
      · intro M2 Z cs h1 h2 h3 h4 h5 h6
        simp only [pass2] at h3
        split at h3
        case h_2 => cases h3
        rename_i r hr
        simp only [Option.some.injEq] at h3; subst h3
        refine ⟨_, _, _, _, X1, X2, dens_append _ _, hdrop, rfl, ⟨cellsB_den hb, uv, ?_, k2⟩, j3 M2 Z r h1 h2 hr h4 h5 h6⟩
        exact shR.mono (fun b hb => ⟨h1 b (j1.sub b hb), rfl⟩) _ _ _ _ (fun _ _ => rfl) g2
    | ptr shs ks =>
      simp only [pass1] at hc
      split at hc
      case h_2 => cases hc
      rename_i k off hx
      split at hc
      case h_2 => cases hc
      rename_i vs hg
      split at hc
      case h_2 => cases hc
      rename_i s1 cs1 hle hcon
      split at hc
      case h_2 => cases hc
      rename_i vs1 hg1
      split at hc
      case h_2 => cases hc
      rename_i s2 css2 bks2 hb hq
      simp only [Option.some.injEq, Prod.mk.injEq] at hc
      obtain ⟨rfl, rfl, rfl⟩ := hc
      have hle := bleN hle
      have hav := argAt_ok h hv hai
      rw [hx, svm] at hav
      obtain ⟨b, hb0, hpv⟩ := hav
      obtain ⟨b', arr, us, q1, q2, q3, q4, q5⟩ := h.objs k _ hg
      rw [hb0] at q1; simp only [Value.pointer.injEq, Option.some.injEq, Addr.mk.injEq, and_true] at q1; subst q1
      obtain ⟨M1, X1, g1, g2⟩ := conR_ok shs h hcon (svms_sub q5 off shs.length) hf hn
      have g3 := g1.take hg1
      obtain ⟨M', X2, j1, j2, j3⟩ := pass_ok hv ps g3.sat hl' hq g3.free g3.nodup
      obtain ⟨b2, arr2, us2, r1, r2, r3, r4, r5⟩ := g1.sat.objs k _ hg1
      have hvl := svms_len q5
      have hvl2 := svms_len r5
      rw [hb0] at r1; simp only [Value.pointer.injEq, Option.some.injEq, Addr.mk.injEq, and_true] at r1; subst r1
      rw [q3] at r3; simp only [Option.some.injEq, Obj.cells.injEq, and_true] at r3
      subst r3
      have hus2 : us2 = us := by
        rw [q4] at r4
        have := List.append_cancel_right r4
        exact (List.append_cancel_left this).symm
      subst hus2
      refine ⟨M', ((N k).φ ++ X1) ++ X2, g3.trans j1, ⟨_, _, _, _, rfl, hdrop, ?_, j2⟩, ?_⟩
      · exact ⟨b, arr, us2, hb0, q2, q3, q4, svms.keep (fun b hb => ⟨j1.sub b hb, rfl⟩) (fun _ _ => rfl) r5, by omega, hpv⟩
      · intro M2 Z cs h1 h2 h3 h4 h5 h6
        simp only [pass2] at h3
        split at h3
        case h_2 => cases h3
        rename_i r hr
        simp only [Option.some.injEq] at h3; subst h3
        refine ⟨_, _, _, _, (N k).φ ++ X1, X2, dens_append _ _, hdrop, rfl, ⟨cellsB_den hb, b, (N k).pre ++ us2.take off, (us2.drop off).take shs.length, us2.drop (off + shs.length) ++ (N k).post, arr, _, X1, ?_, q3, ?_, ?_, by rw [q2]; rfl⟩, j3 M2 Z r h1 h2 hr h4 h5 h6⟩
        · rw [hpv]; congr 3
          rw [List.length_append, List.length_take]; omega
        · rw [q4]
          have : us2 = us2.take off ++ ((us2.drop off).take shs.length ++ us2.drop (off + shs.length)) := by
            rw [<- List.drop_drop, List.take_append_drop, List.take_append_drop]
          calc (N k).pre ++ us2 ++ (N k).post = (N k).pre ++ (us2.take off ++ ((us2.drop off).take shs.length ++ us2.drop (off + shs.length))) ++ (N k).post := by rw [<- this]
            _ = _ := by simp
        · exact shR.mono (fun b hb => ⟨h1 b (j1.sub b hb), rfl⟩) _ _ _ _ (fun _ _ => rfl) g2
end
end Dx


/- A call of a function that has a contract. -/
namespace Dx
open Go

def retS : List SV -> SV
  | [x] => x
  | xs => .tuple xs

def mkRet (nx nv : Nat) (r : Ret) : SV × List (Nat × SObj) × Nat :=
  match r.ptr with
  | false => match mkR true nx nv r.shs r.ks with
    | (svs, o1, nx1) => (asVal r.agg svs, o1, nx1)
  | true => match mkR true (nx + 1) nv r.shs r.ks with
    | (svs, o1, nx1) => (.ptr nx 0, (nx, .cells svs) :: o1, nx1)

def mkRets (nx nv : Nat) : List Ret -> List SV × List (Nat × SObj) × Nat × Nat
  | [] => ([], [], nx, nv)
  | r :: rs => match mkRet nx nv r with
    | (x, o1, nx1) => match mkRets nx1 (nv + r.ks.length) rs with
      | (xs, o2, nx2, nv2) => (x :: xs, o1 ++ o2, nx2, nv2)

def reKeys (nv : Nat) : List (Option Nat) -> List Sh -> List (Nat × SObj)
  | some k :: keys, .arr e row :: shs => (k, .arr e row (.v nv)) :: reKeys (nv + 1) keys shs
  | _ :: keys, _ :: shs => reKeys (nv + 1) keys shs
  | _, _ => []

def mkBacks (nx nv : Nat) : List Par -> List Bk -> List (Nat × SObj) × Nat
  | .ptr shs ks :: ps, .ptr k vs off :: bs => match mkR true nx nv shs ks with
    | (svs, o1, nx1) => match mkBacks nx1 (nv + ks.length) ps bs with
      | (o2, nx2) => ((k, .cells (vs.take off ++ svs ++ vs.drop (off + shs.length))) :: o1 ++ o2, nx2)
  | .own _ shs ks true :: ps, .own keys :: bs => match mkBacks nx (nv + ks.length) ps bs with
    | (o2, nx2) => (reKeys nv keys shs ++ o2, nx2)
  | _ :: ps, _ :: bs => mkBacks nx nv ps bs
  | _, _ => ([], nx)

def ksBack : List Par -> List CK
  | [] => []
  | .ptr _ ks :: ps => ks ++ ksBack ps
  | .own _ _ ks true :: ps => ks ++ ksBack ps
  | _ :: ps => ksBack ps

def ksRes : List Ret -> List CK
  | [] => []
  | r :: rs => r.ks ++ ksRes rs

def someKeys : List (Option Nat) -> List Nat
  | [] => []
  | some k :: r => k :: someKeys r
  | none :: r => someKeys r

def bkKeys : List Bk -> List Nat
  | [] => []
  | .no :: r => bkKeys r
  | .ptr k _ _ :: r => k :: bkKeys r
  | .own keys :: r => someKeys keys ++ bkKeys r

def distinct : List Nat -> Bool
  | [] => true
  | k :: r => match memN k r with
    | true => false
    | false => distinct r

def noObj (hp : List (Nat × SObj)) (k : Nat) : Bool := match getO hp k with
  | none => true
  | some _ => false

def bkOld (s : St) : List Bk -> Bool
  | [] => true
  | .ptr _ vs _ :: r => SV.alls (fun k => Nat.blt k s.nx) (fun i => Nat.blt i s.nv) vs && bkOld s r
  | _ :: r => bkOld s r

def bkB (s : St) (bks : List Bk) : Bool := distinct (bkKeys bks) && ((bkKeys bks).all (fun k => noObj s.hp k && Nat.blt k s.nx) && bkOld s bks)

def goneB (rd : List Nat) (hp' : List (Nat × SObj)) : List (Nat × SObj) -> Bool
  | [] => true
  | (k, _) :: r => (!noObj hp' k || mayW rd k) && goneB rd hp' r

def nargs (s : St) (c : Call) (n : Nat) : Bool := match callArgs s.sl c with
  | some (_, xs) => Nat.beq xs.length n
  | none => false

def call (s : St) (c : Call) (fi : Nat) (con : Con) (rd : List Nat) (d : Option Tmp) (K : St -> Tree) : Tree :=
  match nargs s c con.args.length, pass1 c s 0 con.args with
  | true, some (s1, css, bks) => match pass2 c s1 0 con.args css with
    | some cells => match s1.ok, bkB s1 bks, goneB rd s1.hp s.hp with
      | true, true, true => match mkRets s1.nx s1.nv con.res with
        | (xs, o1, nx1, nv1) => match mkBacks nx1 nv1 con.args bks with
          | (o2, nx2) => .call fi cells (ksRes con.res ++ ksBack con.args) (K (putD { s1 with hp := (o1 ++ o2) ++ s1.hp, nx := nx2, nv := s1.nv + (ksRes con.res ++ ksBack con.args).length } d (retS xs)))
      | _, _, _ => .fail
    | none => .fail
  | _, _ => .fail

section
variable {Φ : Phi} {cx : Ctx} {M : Nat -> Prop} {N : Nm} {env : List C} {s : St} {tm : Array Value} {w : World} {o : Out} {a : Act}

theorem mkR_all {t : Bool} {V : Nat -> Bool} (hV : ∀ i, V i = true) : ∀ {shs : List Sh} {ks : List CK} {nx nv n : Nat}, (mkR t nx nv shs ks).2.2 <= n -> SV.alls (fun k => Nat.blt k n) V (mkR t nx nv shs ks).1 = true
  | [], ks, nx, nv, n, _ => by simp [mkR, SV.alls]
  | .val :: shs, [], nx, nv, n, _ => by simp [mkR, SV.alls]
  | .arr _ _ :: shs, [], nx, nv, n, _ => by simp [mkR, SV.alls]
  | .val :: shs, k :: ks, nx, nv, n, h => by
    simp only [mkR] at h ⊢
    have := mkR_all (t := t) hV (shs := shs) (ks := ks) (nx := nx) (nv := nv + 1) (n := n)
    generalize mkR t nx (nv + 1) shs ks = q at this h ⊢
    simp only [SV.alls, this h, Bool.and_true]
    cases k <;> first | exact hV _ | rfl
  | .arr e row :: shs, k :: ks, nx, nv, n, h => by
    simp only [mkR] at h ⊢
    have := mkR_all (t := t) hV (shs := shs) (ks := ks) (nx := nx + 1) (nv := nv + 1) (n := n)
    have hge := mkR_ge (t := t) (shs := shs) (ks := ks) (nx := nx + 1) (nv := nv + 1)
    generalize mkR t (nx + 1) (nv + 1) shs ks = q at this h hge ⊢
    have h' : q.2.2 <= n := h
    simp only [SV.alls, this h, Bool.and_true]
    exact blt_of (by omega)

theorem mkR_arr {t : Bool} : ∀ {shs : List Sh} {ks : List CK} {nx nv k : Nat} {ob : SObj}, getO (mkR t nx nv shs ks).2.1 k = some ob -> ∃ e row l, ob = .arr e row l
  | [], ks, nx, nv, k, ob, h => by simp [mkR, getO] at h
  | .val :: shs, [], nx, nv, k, ob, h => by simp [mkR, getO] at h
  | .arr _ _ :: shs, [], nx, nv, k, ob, h => by simp [mkR, getO] at h
  | .val :: shs, k' :: ks, nx, nv, k, ob, h => by
    simp only [mkR] at h
    have := mkR_arr (t := t) (shs := shs) (ks := ks) (nx := nx) (nv := nv + 1) (k := k) (ob := ob)
    generalize mkR t nx (nv + 1) shs ks = q at this h
    exact this h
  | .arr e row :: shs, k' :: ks, nx, nv, k, ob, h => by
    simp only [mkR] at h
    have := mkR_arr (t := t) (shs := shs) (ks := ks) (nx := nx + 1) (nv := nv + 1) (k := k) (ob := ob)
    generalize mkR t (nx + 1) (nv + 1) shs ks = q at this h
    rw [getO_cons] at h
    split at h
    · simp only [Option.some.injEq] at h; exact ⟨_, _, _, h.symm⟩
    · exact this h

structure News (w : World) (M R : Nat -> Prop) (N : Nm) (env : List C) (objs : List (Nat × SObj)) (X : List Nat) : Prop where
  obj : ∀ k o, getO objs k = some o -> obm w M R N env k o /\ (N k).φ.Nodup /\ ∀ b ∈ (N k).φ, b ∈ X
  dist : ∀ k k' o o' b, getO objs k = some o -> getO objs k' = some o' -> b ∈ (N k).φ -> b ∈ (N k').φ -> k = k'

theorem News.append {R : Nat -> Prop} {o1 o2 : List (Nat × SObj)} {X1 X2 : List Nat} (h1 : News w M R N env o1 X1) (h2 : News w M R N env o2 X2) (hd : (X1 ++ X2).Nodup) : News w M R N env (o1 ++ o2) (X1 ++ X2) := by
  have hd' := (List.nodup_append.1 hd).2.2
  have cases' : ∀ k o, getO (o1 ++ o2) k = some o -> getO o1 k = some o \/ getO o2 k = some o := fun k o hg => by
    rw [getO_append] at hg
    split at hg
    · rename_i o' e; exact .inl (e.trans hg)
    · exact .inr hg
  refine ⟨fun k o hg => ?_, fun k k' o o' b hg hg' hb hb' => ?_⟩
  · rcases cases' k o hg with g | g
    · obtain ⟨k1, k2, k3⟩ := h1.obj k o g; exact ⟨k1, k2, fun b hb => List.mem_append_left _ (k3 b hb)⟩
    · obtain ⟨k1, k2, k3⟩ := h2.obj k o g; exact ⟨k1, k2, fun b hb => List.mem_append_right _ (k3 b hb)⟩
  · rcases cases' k o hg with g | g <;> rcases cases' k' o' hg' with g' | g'
    · exact h1.dist k k' o o' b g g' hb hb'
    · exact absurd rfl (hd' b ((h1.obj k o g).2.2 b hb) b ((h2.obj k' o' g').2.2 b hb'))
    · exact absurd rfl (hd' b ((h1.obj k' o' g').2.2 b hb') b ((h2.obj k o g).2.2 b hb))
    · exact h2.dist k k' o o' b g g' hb hb'

theorem News.nil {R : Nat -> Prop} {X : List Nat} : News w M R N env [] X := ⟨fun k o hg => by simp [getO] at hg, fun k k' o o' b hg => by simp [getO] at hg⟩

theorem News.lift {R : Nat -> Prop} {N' : Nm} {objs : List (Nat × SObj)} {X : List Nat} (h : News w M R N env objs X) (harr : ∀ k o, getO objs k = some o -> ∃ e row l, o = .arr e row l) (hN : ∀ k o, getO objs k = some o -> N' k = N k) : News w M R N' env objs X := by
  refine ⟨fun k o hg => ?_, fun k k' o o' b hg hg' hb hb' => ?_⟩
  · obtain ⟨k1, k2, k3⟩ := h.obj k o hg
    obtain ⟨e, row, l, rfl⟩ := harr k o hg
    rw [obm] at k1 ⊢
    rw [hN k _ hg]
    exact ⟨k1, k2, k3⟩
  · rw [hN k o hg] at hb; rw [hN k' o' hg'] at hb'
    exact h.dist k k' o o' b hg hg' hb hb'

theorem svm_asVal {R : Nat -> Prop} {ag : Bool} {svs : List SV} {us : List Value} {v : Value} (h : svms w M R N env svs us) (hv : isV ag us v) : svm w M R N env (asVal ag svs) v := by
  cases ag with
  | true =>
    simp only [isV] at hv
    simp only [asVal]; rw [svm]
    exact ⟨us.toArray, hv, by simpa using h⟩
  | false =>
    simp only [isV] at hv
    subst hv
    cases svs with
    | nil => exact svm_any _
    | cons x xs =>
      rw [svms] at h; obtain ⟨u, us', e, h1, _⟩ := h
      simp only [List.cons.injEq] at e
      rw [e.1]; exact h1

theorem all_asVal {K V : Nat -> Bool} {ag : Bool} {svs : List SV} (h : SV.alls K V svs = true) : (asVal ag svs).all K V = true := by
  cases ag with
  | true => exact h
  | false =>
    cases svs with
    | nil => rfl
    | cons x xs =>
      have h' : x.all K V = true /\ SV.alls K V xs = true := by simpa [SV.alls] using h
      exact h'.1

theorem hpAll_append {K V : Nat -> Bool} : ∀ {xs ys : List (Nat × SObj)}, hpAll K V xs = true -> hpAll K V ys = true -> hpAll K V (xs ++ ys) = true
  | [], _, _, h => h
  | (k, o) :: r, ys, h, h' => by
    have : K k = true /\ o.all K V = true /\ hpAll K V r = true := by simpa [hpAll] using h
    simp [hpAll, this.1, this.2.1, hpAll_append this.2.2 h']

theorem hpAll_K {K K' V : Nat -> Bool} (hK : ∀ k, K k = true -> K' k = true) : ∀ {hp : List (Nat × SObj)}, (∀ k o, (k, o) ∈ hp -> (o.all K V = true -> o.all K' V = true)) -> hpAll K V hp = true -> hpAll K' V hp = true
  | [], _, _ => rfl
  | (k, o) :: r, ho, h => by
    have h' : K k = true /\ o.all K V = true /\ hpAll K V r = true := by simpa [hpAll] using h
    simp [hpAll, hK k h'.1, ho k o List.mem_cons_self h'.2.1, hpAll_K hK (fun k o hm => ho k o (List.mem_cons_of_mem _ hm)) h'.2.2]

mutual
theorem SV.all_K {K K' V : Nat -> Bool} (hK : ∀ k, K k = true -> K' k = true) : ∀ x : SV, x.all K V = true -> x.all K' V = true
  | .any, _ | .nil, _ | .nilptr, _ | .blob, _ => rfl
  | .int _ a, h | .bool a, h | .str a, h | .view _ a, h => h
  | .sl k, h | .ptr k _, h => hK k h
  | .eptr k _ i _, h => by
    have h' : K k = true /\ i.all V = true := by simpa [SV.all] using h
    simp [SV.all, hK k h'.1, h'.2]
  | .fn _ vs, h | .agg vs, h | .tuple vs, h | .vptr _ vs, h => SV.alls_K hK vs h
theorem SV.alls_K {K K' V : Nat -> Bool} (hK : ∀ k, K k = true -> K' k = true) : ∀ xs : List SV, SV.alls K V xs = true -> SV.alls K' V xs = true
  | [], _ => rfl
  | x :: xs, h => by
    have h' : x.all K V = true /\ SV.alls K V xs = true := by simpa [SV.alls] using h
    simp [SV.alls, SV.all_K hK x h'.1, SV.alls_K hK xs h'.2]
end

theorem SObj.all_K {K K' V : Nat -> Bool} (hK : ∀ k, K k = true -> K' k = true) (o : SObj) (h : o.all K V = true) : o.all K' V = true := by
  cases o with
  | cells vs => exact SV.alls_K hK vs h
  | arr e row l => exact h
  | foc e row l i vs =>
    have h' : l.all V = true /\ i.all V = true /\ SV.alls K V vs = true := by simpa [SObj.all] using h
    simp [SObj.all, h'.1, h'.2.1, SV.alls_K hK vs h'.2.2]
  | map es => rfl

theorem mkR_hp {t : Bool} : ∀ {shs : List Sh} {ks : List CK} {nx nv n : Nat}, (mkR t nx nv shs ks).2.2 <= n -> hpAll (fun k => Nat.blt k n) (fun _ => true) (mkR t nx nv shs ks).2.1 = true
  | [], ks, nx, nv, n, _ => by simp [mkR, hpAll]
  | .val :: shs, [], nx, nv, n, _ => by simp [mkR, hpAll]
  | .arr _ _ :: shs, [], nx, nv, n, _ => by simp [mkR, hpAll]
  | .val :: shs, k :: ks, nx, nv, n, h => by
    simp only [mkR] at h ⊢
    have := mkR_hp (t := t) (shs := shs) (ks := ks) (nx := nx) (nv := nv + 1) (n := n)
    generalize mkR t nx (nv + 1) shs ks = q at this h ⊢
    exact this h
  | .arr e row :: shs, k :: ks, nx, nv, n, h => by
    simp only [mkR] at h ⊢
    have := mkR_hp (t := t) (shs := shs) (ks := ks) (nx := nx + 1) (nv := nv + 1) (n := n)
    have hge := mkR_ge (t := t) (shs := shs) (ks := ks) (nx := nx + 1) (nv := nv + 1)
    generalize mkR t (nx + 1) (nv + 1) shs ks = q at this h hge ⊢
    obtain ⟨svs, objs, nx'⟩ := q
    dsimp only at this h hge ⊢
    simp [hpAll, this h, blt_of (show nx < n by omega), SObj.all, At.all]

theorem News.lift2 {R : Nat -> Prop} {N' : Nm} {objs : List (Nat × SObj)} {X : List Nat} {n : Nat} (h : News w M R N env objs X) (ha : hpAll (fun k => Nat.blt k n) (fun _ => true) objs = true) (hN : ∀ k, k < n -> N' k = N k) : News w M R N' env objs X := by
  refine ⟨fun k o hg => ?_, fun k k' o o' b hg hg' hb hb' => ?_⟩
  · have hk := hpAll_get ha hg
    have e := hN k (Nat_blt hk.1)
    obtain ⟨k1, k2, k3⟩ := h.obj k o hg
    rw [e]
    exact ⟨obm.mono (K := fun k => Nat.blt k n) (V := fun _ => true) (fun _ hb => ⟨hb, rfl⟩) (fun _ _ => rfl) (fun k hk => KI.same.of (hN k (Nat_blt hk))) (fun _ _ => rfl) e hk.2 (fun _ _ => rfl) k1, k2, k3⟩
  · rw [hN k (Nat_blt (hpAll_get ha hg).1)] at hb
    rw [hN k' (Nat_blt (hpAll_get ha hg').1)] at hb'
    exact h.dist k k' o o' b hg hg' hb hb'


theorem News.lift3 {R : Nat -> Prop} {N' : Nm} {objs : List (Nat × SObj)} {X : List Nat} {n : Nat} (h : News w M R N env objs X) (ha : hpAll (fun k => Nat.blt k n) (fun _ => true) objs = true) (hN : ∀ k, k < n -> KI.same (N' k) (N k)) (hk : ∀ k o, getO objs k = some o -> N' k = N k) : News w M R N' env objs X := by
  refine ⟨fun k o hg => ?_, fun k k' o o' b hg hg' hb hb' => ?_⟩
  · have hq := hpAll_get ha hg
    have e := hk k o hg
    obtain ⟨k1, k2, k3⟩ := h.obj k o hg
    rw [e]
    exact ⟨obm.mono (K := fun k => Nat.blt k n) (V := fun _ => true) (fun _ hb => ⟨hb, rfl⟩) (fun _ _ => rfl) (fun k hk => hN k (Nat_blt hk)) (fun _ _ => rfl) e hq.2 (fun _ _ => rfl) k1, k2, k3⟩
  · rw [hk k o hg] at hb
    rw [hk k' o' hg'] at hb'
    exact h.dist k k' o o' b hg hg' hb hb'

theorem mkRet_ge {r : Ret} {nx nv : Nat} : nx <= (mkRet nx nv r).2.2 := by
  unfold mkRet
  split
  · have h1 := mkR_ge (t := true) (shs := r.shs) (ks := r.ks) (nx := nx) (nv := nv)
    generalize mkR true nx nv r.shs r.ks = q at h1 ⊢
    exact h1
  · have h1 := mkR_ge (t := true) (shs := r.shs) (ks := r.ks) (nx := nx + 1) (nv := nv)
    generalize mkR true (nx + 1) nv r.shs r.ks = q at h1 ⊢
    exact Nat.le_trans (Nat.le_succ _) h1

theorem mkRets_ge : ∀ {rs : List Ret} {nx nv : Nat}, nx <= (mkRets nx nv rs).2.2.1
  | [], nx, nv => by simp [mkRets]
  | r :: rs, nx, nv => by
    simp only [mkRets]
    have h1 := mkRet_ge (r := r) (nx := nx) (nv := nv)
    generalize mkRet nx nv r = q at h1 ⊢
    obtain ⟨x, o1, nx1⟩ := q
    have h2 := mkRets_ge (rs := rs) (nx := nx1) (nv := nv + r.ks.length)
    generalize mkRets nx1 (nv + r.ks.length) rs = q2 at h2 ⊢
    exact Nat.le_trans h1 h2

theorem mkRets_nv : ∀ {rs : List Ret} {nx nv : Nat}, (mkRets nx nv rs).2.2.2 = nv + (ksRes rs).length
  | [], nx, nv => by simp [mkRets, ksRes]
  | r :: rs, nx, nv => by
    simp only [mkRets, ksRes]
    generalize mkRet nx nv r = q
    obtain ⟨x, o1, nx1⟩ := q
    have h2 := mkRets_nv (rs := rs) (nx := nx1) (nv := nv + r.ks.length)
    generalize mkRets nx1 (nv + r.ks.length) rs = q2 at h2 ⊢
    simp only [List.length_append]
    rw [<- Nat.add_assoc]; exact h2

theorem mkRet_ok {R : Nat -> Prop} {r : Ret} {cs : List C} {v : Value} {X : List Nat} {env0 : List C} (rest : List C) {nx : Nat} {N : Nm} (hk : kindsB r.ks cs = true) (h : retOne w M r cs v X) (hn : X.Nodup) :
    ∃ N', (∀ k, k < nx -> N' k = N k) /\ News w M R N' (env0 ++ (cs ++ rest)) (mkRet nx env0.length r).2.1 X /\ svm w M R N' (env0 ++ (cs ++ rest)) (mkRet nx env0.length r).1 v ∧
      (∀ k o, getO (mkRet nx env0.length r).2.1 k = some o -> nx <= k /\ k < (mkRet nx env0.length r).2.2) /\ hpAll (fun k => Nat.blt k (mkRet nx env0.length r).2.2) (fun _ => true) (mkRet nx env0.length r).2.1 = true ∧
      (∀ n, (mkRet nx env0.length r).2.2 <= n -> (mkRet nx env0.length r).1.all (fun k => Nat.blt k n) (fun _ => true) = true) := by
  have hkl := kindsB_len hk
  unfold retOne at h
  unfold mkRet
  split at h
  · rename_i hp
    try rw [hp]
    obtain ⟨us, h1, h2⟩ := h
    obtain ⟨N1, g⟩ := mkR_ok (R := R) (env0 := env0) rest (nx := nx) (N := N) hk h1 hn
    have hge := mkR_ge (t := true) (shs := r.shs) (ks := r.ks) (nx := nx) (nv := env0.length)
    have hall := fun n => mkR_all (t := true) (V := fun _ => true) (fun _ => rfl) (shs := r.shs) (ks := r.ks) (nx := nx) (nv := env0.length) (n := n)
    have hhp := fun n => mkR_hp (t := true) (shs := r.shs) (ks := r.ks) (nx := nx) (nv := env0.length) (n := n)
    generalize mkR true nx env0.length r.shs r.ks = q at g hge hall hhp ⊢
    obtain ⟨svs, o1, nx1⟩ := q
    dsimp only at g hge hall hhp ⊢
    exact ⟨N1, g.old, ⟨g.obj, g.dist⟩, svm_asVal g.svs h2, g.key, hhp nx1 (Nat.le_refl _), fun n hle => all_asVal (hall n hle)⟩
  · rename_i hp
    try rw [hp]
    obtain ⟨b, pre, us, post, arr, T, X', hv, hh, ha, h1, rfl⟩ := h
    have hn' := List.nodup_cons.1 hn
    let N0 : Nm := newN N nx ⟨v, pre, post, T, [b]⟩
    obtain ⟨N1, g⟩ := mkR_ok (R := R) (env0 := env0) rest (nx := nx + 1) (N := N0) hk h1 hn'.2
    have hge := mkR_ge (t := true) (shs := r.shs) (ks := r.ks) (nx := nx + 1) (nv := env0.length)
    have hall := fun n => mkR_all (t := true) (V := fun _ => true) (fun _ => rfl) (shs := r.shs) (ks := r.ks) (nx := nx + 1) (nv := env0.length) (n := n)
    have hhp := fun n => mkR_hp (t := true) (shs := r.shs) (ks := r.ks) (nx := nx + 1) (nv := env0.length) (n := n)
    generalize mkR true (nx + 1) env0.length r.shs r.ks = q at g hge hall hhp ⊢
    obtain ⟨svs, o1, nx1⟩ := q
    dsimp only at g hge hall hhp ⊢
    have hnx : N1 nx = ⟨v, pre, post, T, [b]⟩ := by rw [g.old nx (Nat.lt_succ_self _)]; exact newN_new N nx _
    refine ⟨N1, fun k hk' => (g.old k (by omega)).trans (newN_old N _ hk'), ⟨?_, ?_⟩, ?_, ?_, ?_, fun n hle => blt_of (by omega)⟩
    · intro k o hg
      rw [getO_cons] at hg
      split at hg
      · rename_i e; subst e
        simp only [Option.some.injEq] at hg; subst hg
        rw [hnx]
        refine ⟨?_, by simp, fun b' hb' => by simp at hb'; subst hb'; exact List.mem_cons_self⟩
        rw [obm, hnx]
        exact ⟨b, arr, us, hv, rfl, hh, ha, g.svs⟩
      · obtain ⟨k1, k2, k3⟩ := g.obj k o hg
        exact ⟨k1, k2, fun b' hb' => List.mem_cons_of_mem _ (k3 b' hb')⟩
    · intro k k' o o' b' hg hg' hb hb'
      rw [getO_cons] at hg hg'
      split at hg <;> split at hg'
      · omega
      · rename_i e1 e2; subst e1
        rw [hnx] at hb; simp at hb; subst hb
        exact absurd ((g.obj k' o' hg').2.2 _ hb') hn'.1
      · rename_i e1 e2; subst e2
        rw [hnx] at hb'; simp at hb'; subst hb'
        exact absurd ((g.obj k o hg).2.2 _ hb) hn'.1
      · exact g.dist k k' o o' b' hg hg' hb hb'
    · rw [svm, hnx]
      exact ⟨b, hv, by simpa using hv⟩
    · intro k o hg
      rw [getO_cons] at hg
      split at hg
      · rename_i e; subst e; exact ⟨Nat.le_refl _, by omega⟩
      · have := g.key k o hg; exact ⟨by omega, this.2⟩
    · simp [hpAll, hhp nx1 (Nat.le_refl _), blt_of (show nx < nx1 by omega), SObj.all, hall nx1 (Nat.le_refl _)]

theorem kindsB_append : ∀ {ks : List CK} {cs : List C} {ls : List CK} {ds : List C}, kindsB ks cs = true -> kindsB ls ds = true -> kindsB (ks ++ ls) (cs ++ ds) = true := by
  intro ks
  induction ks with
  | nil => intro cs ls ds h1 h2; have := kindsB_len h1; have : cs = [] := List.eq_nil_of_length_eq_zero this; subst this; exact h2
  | cons k ks ih =>
    intro cs ls ds h1 h2
    cases cs with
    | nil => simp [kindsB] at h1
    | cons c cs =>
      simp only [kindsB, List.cons_append] at h1 ⊢
      split at h1
      · exact ih h1 h2
      · cases h1

theorem mkRets_ok {R : Nat -> Prop} : ∀ {rs : List Ret} {cs : List C} {vs : List Value} {X : List Nat} {env0 : List C} (rest : List C) {nx : Nat} {N : Nm}, resVs w M rs cs vs X -> X.Nodup ->
    ∃ N', (∀ k, k < nx -> N' k = N k) /\ News w M R N' (env0 ++ (cs ++ rest)) (mkRets nx env0.length rs).2.1 X /\ svms w M R N' (env0 ++ (cs ++ rest)) (mkRets nx env0.length rs).1 vs ∧
      (∀ k o, getO (mkRets nx env0.length rs).2.1 k = some o -> nx <= k /\ k < (mkRets nx env0.length rs).2.2.1) /\ SV.alls (fun k => Nat.blt k (mkRets nx env0.length rs).2.2.1) (fun _ => true) (mkRets nx env0.length rs).1 = true /\ kindsB (ksRes rs) cs = true ∧
      hpAll (fun k => Nat.blt k (mkRets nx env0.length rs).2.2.1) (fun _ => true) (mkRets nx env0.length rs).2.1 = true
  | [], cs, vs, X, env0, rest, nx, N, h, hn => by
    obtain ⟨rfl, rfl, rfl⟩ := h
    exact ⟨N, fun _ _ => rfl, News.nil, by simp [mkRets, svms], fun k o hg => by simp [mkRets, getO] at hg, rfl, rfl, rfl⟩
  | r :: rs, cs, vs, X, env0, rest, nx, N, h, hn => by
    obtain ⟨c1, c2, v, vs', X1, X2, rfl, rfl, rfl, hk, hone, hr⟩ := h
    have hn' := List.nodup_append.1 hn
    have hkl := kindsB_len hk
    obtain ⟨N1, g1, g2, g3, g4, g5, g6⟩ := mkRet_ok (R := R) (env0 := env0) (c2 ++ rest) (nx := nx) (N := N) hk hone hn'.1
    have hge := mkRet_ge (r := r) (nx := nx) (nv := env0.length)
    simp only [mkRets]
    generalize mkRet nx env0.length r = q at g2 g3 g4 g5 g6 hge ⊢
    obtain ⟨x, o1, nx1⟩ := q
    dsimp only at g2 g3 g4 g5 g6 hge ⊢
    obtain ⟨N2, j1, j2, j3, j4, j5, j6, j7⟩ := mkRets_ok (R := R) (env0 := env0 ++ c1) rest (nx := nx1) (N := N1) hr hn'.2.1
    have e1 : (env0 ++ c1).length = env0.length + r.ks.length := by simp [hkl]
    have e2 : env0 ++ c1 ++ (c2 ++ rest) = env0 ++ (c1 ++ c2 ++ rest) := by simp
    rw [e1] at j2 j3 j4 j5 j7
    rw [e2] at j2 j3
    have e3 : env0 ++ (c1 ++ (c2 ++ rest)) = env0 ++ (c1 ++ c2 ++ rest) := by simp
    rw [e3] at g2 g3
    have hge2 := mkRets_ge (rs := rs) (nx := nx1) (nv := env0.length + r.ks.length)
    generalize mkRets nx1 (env0.length + r.ks.length) rs = q2 at j2 j3 j4 j5 j7 hge2 ⊢
    obtain ⟨xs, o2, nx2, nv2⟩ := q2
    dsimp only at j2 j3 j4 j5 j7 hge2 ⊢
    have wide : hpAll (fun k => Nat.blt k nx2) (fun _ => true) o1 = true := hpAll_K (fun k hk => blt_of (by have := Nat_blt hk; omega)) (fun k o _ ho => SObj.all_K (fun k hk => blt_of (by have := Nat_blt hk; omega)) o ho) g5
    refine ⟨N2, fun k hk' => (j1 k (by omega)).trans (g1 k hk'), (g2.lift2 g5 fun k hk => j1 k hk).append j2 hn, ?_, fun k o hg => ?_, ?_, kindsB_append hk j6, hpAll_append wide j7⟩
    · rw [svms]
      refine ⟨v, vs', rfl, ?_, j3⟩
      exact svm.mono (K := fun k => Nat.blt k nx1) (V := fun _ => true) (fun _ hb => ⟨hb, rfl⟩) (fun _ _ => rfl) (fun k hk' => KI.same.of (j1 k (Nat_blt hk'))) (fun _ _ => rfl) _ _ (g6 nx1 (Nat.le_refl _)) g3
    · rw [getO_append] at hg
      split at hg
      · rename_i o' e
        have := g4 k o' e
        exact ⟨this.1, by omega⟩
      · have := j4 k o hg
        exact ⟨by omega, this.2⟩
    · simp only [SV.alls, j5, Bool.and_true]
      exact g6 nx2 hge2
end
end Dx


/- A call: what comes back; the step. -/
namespace Dx
open Go

section
variable {Φ : Phi} {cx : Ctx} {M : Nat -> Prop} {N : Nm} {env : List C} {s : St} {tm : Array Value} {w : World} {o : Out} {a : Act}

theorem isV_inj {ag : Bool} {us vs : List Value} {v : Value} (h1 : isV ag us v) (h2 : isV ag vs v) : us = vs := by
  cases ag with
  | true =>
    simp only [isV] at h1 h2
    rw [h1] at h2
    simpa using h2
  | false => simp only [isV] at h1 h2; rw [h1, h2]

theorem distinct_cons {k : Nat} {r : List Nat} (h : distinct (k :: r) = true) : k ∉ r /\ distinct r = true := by
  simp only [distinct] at h
  split at h
  · cases h
  · rename_i e
    exact ⟨fun hm => (by rw [memN_iff.2 hm] at e; cases e), h⟩

theorem distinct_append : ∀ {l r : List Nat}, distinct (l ++ r) = true -> distinct l = true /\ distinct r = true /\ ∀ k ∈ l, k ∉ r
  | [], r, h => ⟨rfl, h, by simp⟩
  | k :: l, r, h => by
    obtain ⟨h1, h2⟩ := distinct_cons h
    obtain ⟨g1, g2, g3⟩ := distinct_append h2
    refine ⟨?_, g2, fun j hj => ?_⟩
    · show distinct (k :: l) = true
      simp only [distinct]
      cases hm : memN k l with
      | true => exact absurd (List.mem_append_left _ (memN_iff.1 hm)) h1
      | false => exact g1
    · rcases List.mem_cons.1 hj with rfl | hj
      · exact fun hr => h1 (List.mem_append_right _ hr)
      · exact g3 j hj

theorem reKeys_ok {R : Nat -> Prop} : ∀ {shs : List Sh} {keys : List (Option Nat)} {cs : List C} {us : List Value} {X : List Nat} {env0 : List C} (rest : List C) {N : Nm}, shR w M shs cs us X -> X.Nodup -> distinct (someKeys keys) = true ->
    (∀ (i k : Nat), keys[i]? = some (some k) -> ∃ e row u, shs[i]? = some (.arr e row) /\ us[i]? = some u /\ u = (N k).v) ->
    ∃ N', (∀ k, KI.same (N' k) (N k)) /\ (∀ k, k ∉ someKeys keys -> N' k = N k) /\ News w M R N' (env0 ++ (cs ++ rest)) (reKeys env0.length keys shs) X ∧
      (∀ k o, getO (reKeys env0.length keys shs) k = some o -> k ∈ someKeys keys /\ ∃ e row l, o = .arr e row l)
  | [], keys, cs, us, X, env0, rest, N, h, hn, hd, hk => by
    have : reKeys env0.length keys [] = [] := by cases keys with | nil => rfl | cons x xs => cases x <;> rfl
    rw [this]
    exact ⟨N, fun _ => KI.same.rfl' _, fun _ _ => rfl, News.nil, fun k o hg => by simp [getO] at hg⟩
  | sh :: shs, [], cs, us, X, env0, rest, N, h, hn, hd, hk => by
    exact ⟨N, fun _ => KI.same.rfl' _, fun _ _ => rfl, by simpa [reKeys] using News.nil, fun k o hg => by simp [reKeys, getO] at hg⟩
  | sh :: shs, none :: keys, cs, us, X, env0, rest, N, h, hn, hd, hk => by
    rw [shR] at h
    obtain ⟨c, cs', v, vs', X1, X2, rfl, rfl, rfl, h1, h2⟩ := h
    obtain ⟨N', g1, g2, g3, g4⟩ := reKeys_ok (R := R) (keys := keys) (env0 := env0 ++ [c]) rest (N := N) h2 (List.nodup_append.1 hn).2.1 hd (fun i k hik => by
      have := hk (i + 1) k (by simpa using hik)
      simpa using this)
    have e1 : (env0 ++ [c]).length = env0.length + 1 := by simp
    rw [e1] at g3 g4
    have e2 : env0 ++ [c] ++ (cs' ++ rest) = env0 ++ (c :: cs' ++ rest) := by simp
    rw [e2] at g3
    have e3 : reKeys env0.length (none :: keys) (sh :: shs) = reKeys (env0.length + 1) keys shs := by cases sh <;> rfl
    rw [e3]
    exact ⟨N', g1, g2, ⟨fun k o hg => by obtain ⟨k1, k2, k3⟩ := g3.obj k o hg; exact ⟨k1, k2, fun b hb => List.mem_append_right _ (k3 b hb)⟩, g3.dist⟩, g4⟩
  | sh :: shs, some k :: keys, cs, us, X, env0, rest, N, h, hn, hd, hk => by
    rw [shR] at h
    obtain ⟨c, cs', v, vs', X1, X2, rfl, rfl, rfl, h1, h2⟩ := h
    have hn' := List.nodup_append.1 hn
    obtain ⟨hd1, hd2⟩ := distinct_cons (show distinct (k :: someKeys keys) = true from hd)
    obtain ⟨e, row, u, f1, f2, f3⟩ := hk 0 k (by simp)
    simp only [List.getElem?_cons_zero, Option.some.injEq] at f1 f2
    subst f1; subst f2
    let N1 : Nm := fun k' => if k' = k then { N k with φ := X1 } else N k'
    have hN1k : N1 k = { N k with φ := X1 } := if_pos rfl
    have hN1 : ∀ k', k' ≠ k -> N1 k' = N k' := fun k' hne => if_neg hne
    have hs1 : ∀ k', KI.same (N1 k') (N k') := fun k' => by
      by_cases e : k' = k
      · subst e; rw [hN1k]; exact ⟨rfl, rfl, rfl, rfl⟩
      · rw [hN1 k' e]; exact KI.same.rfl' _
    obtain ⟨N', g1, g2, g3, g4⟩ := reKeys_ok (R := R) (env0 := env0 ++ [c]) rest (N := N1) h2 hn'.2.1 hd2 (fun i k' hik => by
      obtain ⟨e', row', u', f1, f2, f4⟩ := hk (i + 1) k' (by simpa using hik)
      exact ⟨e', row', u', by simpa using f1, by simpa using f2, f4.trans (hs1 k').1.symm⟩)
    have e1 : (env0 ++ [c]).length = env0.length + 1 := by simp
    rw [e1] at g3 g4
    have e2 : env0 ++ [c] ++ (cs' ++ rest) = env0 ++ (c :: cs' ++ rest) := by simp
    rw [e2] at g3
    have hNk : N' k = { N k with φ := X1 } := (g2 k hd1).trans hN1k
    simp only [reKeys]
    refine ⟨N', fun k' => ⟨(g1 k').1.trans (hs1 k').1, (g1 k').2.1.trans (hs1 k').2.1, (g1 k').2.2.1.trans (hs1 k').2.2.1, (g1 k').2.2.2.trans (hs1 k').2.2.2⟩, fun k' hk' => ?_, ?_, fun k' o hg => ?_⟩
    · have hm : k' ≠ k /\ k' ∉ someKeys keys := by simpa [someKeys] using hk'
      rw [g2 k' hm.2, hN1 k' hm.1]
    · refine News.append (o1 := [(k, .arr e row (.v env0.length))]) ⟨fun k' o hg => ?_, fun k1 k2 o1 o2 b hg hg' _ _ => ?_⟩ g3 hn
      · rw [getO_cons] at hg
        split at hg
        case isFalse => simp [getO] at hg
        rename_i e'; subst e'
        simp only [Option.some.injEq] at hg; subst hg
        rw [obm, hNk]
        refine ⟨?_, hn'.1, fun b hb => hb⟩
        have : (At.v env0.length).den (env0 ++ (c :: cs' ++ rest)) = c := by
          have := getC_right env0 (c :: cs' ++ rest) 0; simpa [At.den, getC] using this
        rw [this]
        show shC w M (.arr e row) (.list c.toList) (N k').v X1
        rw [<- f3]
        rw [shC] at h1 ⊢
        obtain ⟨es, vals, X', h1, h2⟩ := h1
        exact ⟨es, vals, X', by rw [h1]; rfl, h2⟩
      · rw [getO_cons] at hg hg'
        split at hg
        · split at hg'
          · omega
          · simp [getO] at hg'
        · simp [getO] at hg
    · rw [getO_cons] at hg
      split at hg
      · rename_i e'; subst e'; simp only [Option.some.injEq] at hg; subst hg; exact ⟨List.mem_cons_self, _, _, _, rfl⟩
      · obtain ⟨q1, q2⟩ := g4 k' o hg; exact ⟨List.mem_cons_of_mem _ q1, q2⟩

theorem mkBacks_ok {w' : World} {M' R : Nat -> Prop} {envA : List C} {nx0 nv0 : Nat} (hM : ∀ b, M b -> M' b /\ w'.heap[b]? = w.heap[b]?) (hR : ∀ b, R b -> w'.heap[b]? = w.heap[b]?) :
    ∀ {ps : List Par} {bks : List Bk} {vals : List Value} {cs : List C} {X : List Nat} {env0 : List C} (rest : List C) {nx : Nat} {N : Nm}, backVs w w' M' ps vals cs X -> BkOks w M R N envA ps bks vals -> X.Nodup -> distinct (bkKeys bks) = true -> nx0 <= nx -> (∀ k ∈ bkKeys bks, k < nx0) ->
    (∀ k vs off, Bk.ptr k vs off ∈ bks -> SV.alls (fun k => Nat.blt k nx0) (fun i => Nat.blt i nv0) vs = true) -> (∀ i, i < nv0 -> getC (env0 ++ (cs ++ rest)) i = getC envA i) ->
    ∃ N', (∀ k, k < nx -> KI.same (N' k) (N k)) /\ (∀ k, k < nx -> k ∉ bkKeys bks -> N' k = N k) /\ News w' M' R N' (env0 ++ (cs ++ rest)) (mkBacks nx env0.length ps bks).1 X /\ kindsB (ksBack ps) cs = true
  | [], bks, vals, cs, X, env0, rest, nx, N, h, hb, hn, hd, hnx, hks, hvs, he => by
    obtain ⟨rfl, rfl, rfl⟩ := h
    obtain ⟨rfl, _⟩ := hb
    exact ⟨N, fun _ _ => KI.same.rfl' _, fun _ _ _ => rfl, by simpa [mkBacks] using News.nil, rfl⟩
  | p :: ps, bks, vals, cs, X, env0, rest, nx, N, h, hb, hn, hd, hnx, hks, hvs, he => by
    obtain ⟨v, vs', c1, c2, X1, X2, rfl, rfl, rfl, h1, h2⟩ := h
    obtain ⟨bk, bks', v', vs'', rfl, e, hb1, hb2⟩ := hb
    simp only [List.cons.injEq] at e
    obtain ⟨rfl, rfl⟩ := e
    have hn' := List.nodup_append.1 hn
    have key : ∀ {ks : List CK} {cs : List C} {ls : List CK} {ds : List C}, kindsB ks cs = true -> kindsB ls ds = true -> kindsB (ks ++ ls) (cs ++ ds) = true := by
      intro ks
      induction ks with
      | nil => intro cs ls ds h1 h2; have := kindsB_len h1; have : cs = [] := List.eq_nil_of_length_eq_zero this; subst this; exact h2
      | cons k ks ih =>
        intro cs ls ds h1 h2
        cases cs with
        | nil => simp [kindsB] at h1
        | cons c cs =>
          simp only [kindsB, List.cons_append] at h1 ⊢
          split at h1
          · exact ih h1 h2
          · cases h1
    -- nothing comes back
    have nothing : bk = .no -> c1 = [] -> X1 = [] -> ksBack (p :: ps) = ksBack ps -> (mkBacks nx env0.length (p :: ps) (.no :: bks')).1 = (mkBacks nx env0.length ps bks').1 ->
        ∃ N', (∀ k, k < nx -> KI.same (N' k) (N k)) /\ (∀ k, k < nx -> k ∉ bkKeys (bk :: bks') -> N' k = N k) /\ News w' M' R N' (env0 ++ (c1 ++ c2 ++ rest)) (mkBacks nx env0.length (p :: ps) (bk :: bks')).1 (X1 ++ X2) /\ kindsB (ksBack (p :: ps)) (c1 ++ c2) = true := by
      rintro rfl rfl rfl e1 e2
      obtain ⟨N', g1, g2, g3, g4⟩ := mkBacks_ok hM hR (env0 := env0) rest (nx := nx) (N := N) h2 hb2 hn'.2.1 hd hnx hks (fun k vs off hm => hvs k vs off (List.mem_cons_of_mem _ hm)) (by simpa using he)
      refine ⟨N', g1, g2, ?_, by rw [e1]; simpa using g4⟩
      rw [e2]
      simpa using g3
    cases p with
    | ro ag ks => simp only [BkOk] at hb1; obtain ⟨rfl, rfl⟩ := h1; exact nothing hb1 rfl rfl rfl rfl
    | rptr ks => simp only [BkOk] at hb1; obtain ⟨rfl, rfl⟩ := h1; exact nothing hb1 rfl rfl rfl rfl
    | fn f kss => simp only [BkOk] at hb1; obtain ⟨rfl, rfl⟩ := h1; exact nothing hb1 rfl rfl rfl rfl
    | own ag shs ks back =>
      cases back with
      | false => simp only [BkOk] at hb1; obtain ⟨rfl, rfl⟩ := h1; exact nothing hb1 rfl rfl rfl rfl
      | true =>
        cases bk with
        | no => exact hb1.elim
        | ptr _ _ _ => exact hb1.elim
        | own keys =>
          obtain ⟨hk1, us, hv1, hsh⟩ := h1
          obtain ⟨us', hv2, hl1, hl2, hkeys⟩ := hb1
          have := isV_inj hv1 hv2
          subst this
          obtain ⟨d1, d2, d3⟩ := distinct_append (show distinct (someKeys keys ++ bkKeys bks') = true from hd)
          obtain ⟨N1, g1, g2, g3, g4⟩ := reKeys_ok (R := R) (env0 := env0) (c2 ++ rest) (N := N) hsh hn'.1 d1 hkeys
          have hkl := kindsB_len hk1
          have e1 : (env0 ++ c1).length = env0.length + ks.length := by simp [hkl]
          have e2 : env0 ++ c1 ++ (c2 ++ rest) = env0 ++ (c1 ++ c2 ++ rest) := by simp
          have e3 : env0 ++ (c1 ++ (c2 ++ rest)) = env0 ++ (c1 ++ c2 ++ rest) := by simp
          have hb2' : BkOks w M R N1 envA ps bks' vs' := by
            clear h2 nothing hks hvs hd
            have lift : ∀ {ps : List Par} {bs : List Bk} {vs : List Value}, (∀ k ∈ bkKeys bs, k ∉ someKeys keys) -> BkOks w M R N envA ps bs vs -> BkOks w M R N1 envA ps bs vs := by
              intro ps
              induction ps with
              | nil => intro bs vs _ h; exact h
              | cons p ps ih =>
                intro bs vs hns h
                obtain ⟨b, bs', u, us', rfl, rfl, k1, k2⟩ := h
                refine ⟨b, bs', u, us', rfl, rfl, ?_, ih (fun k hk => hns k (by cases b <;> simp [bkKeys, hk])) k2⟩
                cases p with
                | ptr shs ks =>
                  cases b with
                  | ptr k vs off =>
                    obtain ⟨b0, arr, us0, q1, q2, q3, q4, q5, q6⟩ := k1
                    have : N1 k = N k := g2 k (hns k (by simp [bkKeys]))
                    rw [BkOk, this]
                    exact ⟨b0, arr, us0, q1, q2, q3, q4, svms.mono (K := fun _ => true) (V := fun _ => true) (fun _ hb => ⟨hb, rfl⟩) (fun _ _ => rfl) (fun k _ => g1 k) (fun _ _ => rfl) _ _ (SV.alls_true _) q5, q6⟩
                  | _ => exact k1
                | own ag shs ks back =>
                  cases back with
                  | false => cases b <;> exact k1
                  | true =>
                    cases b with
                    | own keys' =>
                      obtain ⟨us0, q1, q2, q3, q4⟩ := k1
                      exact ⟨us0, q1, q2, q3, fun i k hk => by obtain ⟨e, row, u, r1, r2, r3⟩ := q4 i k hk; exact ⟨e, row, u, r1, r2, r3.trans (g1 k).1.symm⟩⟩
                    | _ => exact k1
                | _ => cases b <;> exact k1
            exact lift (fun k hk hm => d3 k hm hk) hb2
          obtain ⟨N2, j1, j2, j3, j4⟩ := mkBacks_ok hM hR (env0 := env0 ++ c1) rest (nx := nx) (N := N1) h2 hb2' hn'.2.1 d2 hnx (fun k hk => hks k (List.mem_append_right _ hk)) (fun k vs off hm => hvs k vs off (List.mem_cons_of_mem _ hm)) (by rw [e2]; exact he)
          rw [e1, e2] at j3
          rw [e3] at g3
          refine ⟨N2, fun k hk => ?_, fun k hk hkn => ?_, ?_, ?_⟩
          · have q1 := j1 k hk
            have q2 := g1 k
            exact ⟨q1.1.trans q2.1, q1.2.1.trans q2.2.1, q1.2.2.1.trans q2.2.2.1, q1.2.2.2.trans q2.2.2.2⟩
          · have hkn' : k ∉ someKeys keys /\ k ∉ bkKeys bks' := by simpa [bkKeys] using hkn
            rw [j2 k hk hkn'.2, g2 k hkn'.1]
          · simp only [mkBacks]
            have n1 : News w' M' R N2 (env0 ++ (c1 ++ c2 ++ rest)) (reKeys env0.length keys shs) X1 := g3.lift (fun k o hg => (g4 k o hg).2) fun k o hg => by
              have hm := (g4 k o hg).1
              exact j2 k (Nat.lt_of_lt_of_le (hks k (List.mem_append_left _ hm)) hnx) (d3 k hm)
            exact n1.append j3 hn
          · exact key hk1 j4
    | ptr shs ks =>
      cases bk with
      | no => exact hb1.elim
      | own _ => exact hb1.elim
      | ptr k vs off =>
        obtain ⟨hk1, b, pre, us, us', post, arr, arr', ty, X', hv1, hh1, ha1, hul, hh2, ha2, hsh, rfl⟩ := h1
        obtain ⟨b2, arr2, us2, q1, q2, q3, q4, q5, q6, q7⟩ := hb1
        have hvv := hv1.symm.trans q7
        simp only [Value.pointer.injEq, Option.some.injEq, Addr.mk.injEq, and_true] at hvv
        obtain ⟨rfl, hpl⟩ := hvv
        rw [hh1] at q3
        simp only [Option.some.injEq, Obj.cells.injEq, and_true] at q3
        obtain ⟨rfl, rfl⟩ := q3
        have hvl := svms_len q5
        have ha1' := ha1.symm.trans q4
        -- the cells around
        have hpre : pre = (N k).pre ++ us2.take off := by
          have := congrArg (List.take pre.length) ha1'
          rw [List.append_assoc, List.take_left, hpl, List.append_assoc, List.take_append, List.take_of_length_le (Nat.le_add_right _ _), Nat.add_sub_cancel_left, List.take_append_of_le_length (by omega)] at this
          exact this
        have hpost : post = us2.drop (off + shs.length) ++ (N k).post := by
          have := congrArg (List.drop (pre.length + us.length)) ha1'
          rw [<- List.length_append, List.drop_left, List.length_append, hpl, hul, List.append_assoc, Nat.add_assoc, <- List.drop_drop, List.drop_left, List.drop_append_of_le_length (by omega)] at this
          exact this
        have hkk := distinct_cons (show distinct (k :: bkKeys bks') = true from hd)
        have hklt : k < nx0 := hks k (by simp [bkKeys])
        have hX' := List.nodup_cons.1 (show (b :: X').Nodup from hn'.1)
        obtain ⟨N1, g⟩ := mkR_ok (R := R) (env0 := env0) (c2 ++ rest) (nx := nx) (N := N) hk1 hsh hX'.2
        have hkl := kindsB_len hk1
        have e1 : (env0 ++ c1).length = env0.length + ks.length := by simp [hkl]
        have e2 : env0 ++ c1 ++ (c2 ++ rest) = env0 ++ (c1 ++ c2 ++ rest) := by simp
        have e3 : env0 ++ (c1 ++ (c2 ++ rest)) = env0 ++ (c1 ++ c2 ++ rest) := by simp
        rw [e3] at g
        have hge := mkR_ge (t := true) (shs := shs) (ks := ks) (nx := nx) (nv := env0.length)
        have hall := fun n => mkR_all (t := true) (V := fun _ => true) (fun _ => rfl) (shs := shs) (ks := ks) (nx := nx) (nv := env0.length) (n := n)
        have harr := fun k ob => mkR_arr (t := true) (shs := shs) (ks := ks) (nx := nx) (nv := env0.length) (k := k) (ob := ob)
        simp only [mkBacks]
        generalize mkR true nx env0.length shs ks = q at g hge hall harr ⊢
        obtain ⟨svs, o1, nx1⟩ := q
        dsimp only at g hge hall harr ⊢
        have hb2' : BkOks w M R N1 envA ps bks' vs' := by
          clear h2 nothing hd
          have hks' : ∀ k ∈ bkKeys bks', k < nx := fun k hk => Nat.lt_of_lt_of_le (hks k (by simp [bkKeys, hk])) hnx
          have hvs' : ∀ k vs off, Bk.ptr k vs off ∈ bks' -> SV.alls (fun k => Nat.blt k nx0) (fun i => Nat.blt i nv0) vs = true := fun k vs off hm => hvs k vs off (List.mem_cons_of_mem _ hm)
          clear hks hvs
          have lift : ∀ {ps : List Par} {bs : List Bk} {vs : List Value}, (∀ k ∈ bkKeys bs, k < nx) -> (∀ k vs off, Bk.ptr k vs off ∈ bs -> SV.alls (fun k => Nat.blt k nx0) (fun i => Nat.blt i nv0) vs = true) -> BkOks w M R N envA ps bs vs -> BkOks w M R N1 envA ps bs vs := by
            intro ps
            induction ps with
            | nil => intro bs vs _ _ h; exact h
            | cons p ps ih =>
              intro bs vs hns hvs h
              obtain ⟨b, bs', u, us', rfl, rfl, k1, k2⟩ := h
              refine ⟨b, bs', u, us', rfl, rfl, ?_, ih (fun k hk => hns k (by cases b <;> simp [bkKeys, hk])) (fun k vs off hm => hvs k vs off (List.mem_cons_of_mem _ hm)) k2⟩
              cases p with
              | ptr shs ks =>
                cases b with
                | ptr k vs off =>
                  obtain ⟨b0, arr, us0, q1, q2, q3, q4, q5, q6⟩ := k1
                  have : N1 k = N k := g.old k (hns k (by simp [bkKeys]))
                  rw [BkOk, this]
                  exact ⟨b0, arr, us0, q1, q2, q3, q4, svms.mono (K := fun k => Nat.blt k nx0) (V := fun i => Nat.blt i nv0) (fun _ hb => ⟨hb, rfl⟩) (fun _ _ => rfl) (fun k hk => KI.same.of (g.old k (Nat.lt_of_lt_of_le (Nat_blt hk) hnx))) (fun _ _ => rfl) _ _ (hvs k vs off List.mem_cons_self) q5, q6⟩
                | _ => exact k1
              | own ag shs ks back =>
                cases back with
                | false => cases b <;> exact k1
                | true =>
                  cases b with
                  | own keys' =>
                    obtain ⟨us0, q1, q2, q3, q4⟩ := k1
                    refine ⟨us0, q1, q2, q3, fun i k hk => ?_⟩
                    obtain ⟨e, row, u, r1, r2, r3⟩ := q4 i k hk
                    have hm : k ∈ someKeys keys' := by
                      clear q1 q2 q3 q4 r1 r2 r3 k2 ih hns hvs
                      induction keys' generalizing i with
                      | nil => simp at hk
                      | cons x xs ihx =>
                        cases i with
                        | zero => simp at hk; subst hk; simp [someKeys]
                        | succ i =>
                          have := ihx i (by simpa using hk)
                          cases x <;> simp [someKeys, this]
                    exact ⟨e, row, u, r1, r2, by rw [g.old k (hns k (by simp [bkKeys, hm]))]; exact r3⟩
                  | _ => exact k1
              | _ => cases b <;> exact k1
          exact lift hks' hvs' hb2
        obtain ⟨N2, j1, j2, j3, j4⟩ := mkBacks_ok hM hR (env0 := env0 ++ c1) rest (nx := nx1) (N := N1) h2 hb2' hn'.2.1 hkk.2 (Nat.le_trans hnx hge) (fun k' hk' => hks k' (by simp [bkKeys, hk'])) (fun k vs off hm => hvs k vs off (List.mem_cons_of_mem _ hm)) (by rw [e2]; exact he)
        rw [e1, e2] at j3
        have hsame : ∀ k', k' < nx -> KI.same (N2 k') (N k') := fun k' hk' => by
          have := j1 k' (by omega)
          rw [g.old k' hk'] at this; exact this
        have hN2k : N2 k = N k := by rw [j2 k (by omega) hkk.1, g.old k (by omega)]
        generalize mkBacks nx1 (env0.length + ks.length) ps bks' = q2' at j3 ⊢
        obtain ⟨o2, nx2⟩ := q2'
        dsimp only at j3 ⊢
        refine ⟨N2, hsame, fun k' hk' hkn => ?_, ?_, key hk1 j4⟩
        · have hkn' : k' ≠ k /\ k' ∉ bkKeys bks' := by simpa [bkKeys] using hkn
          rw [j2 k' (by omega) hkn'.2, g.old k' hk']
        · have n1 : News w' M' R N2 (env0 ++ (c1 ++ c2 ++ rest)) o1 X' := (News.lift ⟨g.obj, g.dist⟩ harr fun k' o hg => j2 k' (g.key k' o hg).2 fun hm => by
            have := hks k' (by simp [bkKeys, hm]); have := (g.key k' o hg).1; omega)
          have hsv : svms w' M' R N2 (env0 ++ (c1 ++ c2 ++ rest)) svs us' := svms.mono (K := fun k => Nat.blt k nx1) (V := fun _ => true) (fun _ hb => ⟨hb, rfl⟩) (fun _ _ => rfl) (fun k hk' => j1 k (Nat_blt hk')) (fun _ _ => rfl) _ _ (hall nx1 (Nat.le_refl _)) g.svs
          have hold : svms w' M' R N2 (env0 ++ (c1 ++ c2 ++ rest)) vs us2 := svms.mono (K := fun k => Nat.blt k nx0) (V := fun i => Nat.blt i nv0) hM hR (fun k hk => hsame k (Nat.lt_of_lt_of_le (Nat_blt hk) hnx)) (fun i hi => he i (Nat_blt hi)) _ _ (hvs k vs off List.mem_cons_self) q5
          have hus' := svms_len hsv
          have hsvl : svs.length = shs.length := by rw [<- hus']; exact (shR_len hsh).2
          have n2 : News w' M' R N2 (env0 ++ (c1 ++ c2 ++ rest)) [(k, .cells (vs.take off ++ svs ++ vs.drop (off + shs.length)))] [b] := by
            refine ⟨fun k' o hg => ?_, fun k1 k2 o1 o2 b hg hg' _ _ => ?_⟩
            · rw [getO_cons] at hg
              split at hg
              case isFalse => simp [getO] at hg
              rename_i e'; subst e'
              simp only [Option.some.injEq] at hg; subst hg
              rw [obm, hN2k]
              refine ⟨⟨b, arr', us2.take off ++ us' ++ us2.drop (off + shs.length), q1, q2, hh2, ?_, svms_append (svms_append (svms_take off hold) hsv) (svms_drop _ hold)⟩, by rw [q2]; simp, by rw [q2]; simp⟩
              rw [ha2, hpre, hpost]; simp
            · rw [getO_cons] at hg hg'
              split at hg
              · split at hg'
                · omega
                · simp [getO] at hg'
              · simp [getO] at hg
          have n3 := (n2.append n1 hn'.1).append j3 hn
          simpa using n3
end
end Dx


/- A call: the step. -/
namespace Dx
open Go

section
variable {Φ : Phi} {cx : Ctx} {M : Nat -> Prop} {N : Nm} {env : List C} {s : St} {tm : Array Value} {w : World} {o : Out} {a : Act} {P : Program} {op : Oper}

theorem enters_of {P : Program} {f : FuncId} {fn : Func} (hf : P.funcs[f]? = some fn) (hn : (fn.name == "runtime.NumGoroutine") = false) (hb : fn.body.isNone = false) (args : Array Value) (w : World) : (callFunc f args).run P w = .ok (.enter f args) w := by
  have h1 : ¬ fn.name = "runtime.NumGoroutine" := by simpa using hn
  have h2 : ¬ fn.body = none := fun h => by simp [h] at hb
  simp [callFunc, hf, h1, h2]

theorem svm_ret {R : Nat -> Prop} {xs : List SV} {vs : List Value} (h : svms w M R N env xs vs) : svm w M R N env (retS xs) (retV vs) := by
  have other : ∀ (xs : List SV) (vs : List Value), svms w M R N env xs vs -> svm w M R N env (.tuple xs) (.tuple vs.toArray) := fun xs vs h => by
    rw [svm]; exact ⟨_, rfl, by simpa using h⟩
  match xs, vs, h with
  | [], vs, h => rw [svms] at h; subst h; exact other [] [] (by simp [svms])
  | [x], vs, h =>
    rw [svms] at h
    obtain ⟨v, vs', rfl, h1, h2⟩ := h
    rw [svms] at h2; subst h2
    exact h1
  | x :: y :: xs, vs, h =>
    have h0 := h
    rw [svms] at h
    obtain ⟨v, vs', rfl, h1, h2⟩ := h
    rw [svms] at h2
    obtain ⟨u, us', rfl, h3, h4⟩ := h2
    exact other _ _ h0

theorem noObj_ok {hp : List (Nat × SObj)} {k : Nat} (h : noObj hp k = true) : getO hp k = none := by
  unfold noObj at h
  split at h
  · assumption
  · cases h

theorem bkOld_ok {s : St} : ∀ {bks : List Bk}, bkOld s bks = true -> ∀ k vs off, Bk.ptr k vs off ∈ bks -> SV.alls (fun k => Nat.blt k s.nx) (fun i => Nat.blt i s.nv) vs = true
  | [], _, k, vs, off, hm => by simp at hm
  | b :: r, h, k, vs, off, hm => by
    rcases List.mem_cons.1 hm with rfl | hm
    · simp only [bkOld, Bool.and_eq_true] at h; exact h.1
    · refine bkOld_ok ?_ k vs off hm
      cases b <;> simp only [bkOld, Bool.and_eq_true] at h <;> first | exact h | exact h.2

theorem goneB_ok {rd : List Nat} {hp' : List (Nat × SObj)} : ∀ {hp : List (Nat × SObj)}, goneB rd hp' hp = true -> ∀ {k : Nat} {o : SObj}, getO hp k = some o -> getO hp' k = none -> mayW rd k = true
  | [], _, k, o, hg, _ => by simp [getO] at hg
  | (k', o') :: r, h, k, o, hg, hno => by
    simp only [goneB, Bool.and_eq_true] at h
    rw [getO_cons] at hg
    split at hg
    · rename_i e; subst e
      have : noObj hp' k = true := by unfold noObj; rw [hno]
      simpa [this] using h.1
    · exact goneB_ok h.2 hg hno

theorem call_step {c : Call} (ho : op.op = .call c) {f : Nat} {xs : List SV} {con : Con} {fi : Nat} {rd : List Nat} {K : St -> Tree} (hH : Has P f con (Φ fi)) (hf : callArgs s.sl c = some (f, xs))
    (hn : den Φ (call s c fi con rd op.dst K) env = some o) (hs : Sat cx M N env s a.tmps w) (Q : Exit -> Act -> World -> Prop) : op.wp P a w (Cont Φ K o cx rd M N s w a.defers) Q := by
  unfold call at hn
  split at hn
  case h_2 => cases hn
  rename_i s1 css bks hna hp1
  split at hn
  case h_2 => cases hn
  rename_i cells hp2
  split at hn
  case h_2 => cases hn
  rename_i hok1 hbk hgone
  obtain ⟨all, hv, hall⟩ := callArgs_ok hs hf
  have hal : all.length = con.args.length := by
    have h1 : Nat.beq xs.length con.args.length = true := by simpa [nargs, hf] using hna
    rw [svms_len hall]; exact beqN h1
  obtain ⟨M1, X, g1, g2, g3⟩ := pass_ok (Y := []) hv con.args hs (by omega) hp1 (fun b hb => by simp at hb) (by simp)
  rw [List.drop_zero] at g2 g3
  have hfree : Free cx M1 N s1.hp X := fun b hb => g1.free b (List.mem_append_left _ hb)
  have hXn : X.Nodup := (List.nodup_append.1 g1.nodup).1
  have hRlt : ∀ b, cx.R b -> b < w.heap.size := fun b hb => Nat.lt_of_lt_of_le (hs.rlt b hb) hs.size
  have hpar := g3 M1 (fun b => b < w.heap.size /\ b ∉ X) cells (fun _ hb => hb) g1.sat hp2 (fun b hb => ⟨g1.sat.mlt b hb, fun hm => (hfree b hm).1 hb⟩) (fun b hb => ⟨hRlt b hb, fun hm => (hfree b hm).2.1 hb⟩) (fun k o b hg hb => ⟨g1.sat.blt k o b hg hb, fun hm => (hfree b hm).2.2 k o hg hb⟩)
  generalize hq1 : mkRets s1.nx s1.nv con.res = q1 at hn
  obtain ⟨rxs, o1, nx1, nv1⟩ := q1
  dsimp only at hn
  generalize hq2 : mkBacks nx1 nv1 con.args bks = q2 at hn
  obtain ⟨o2, nx2⟩ := q2
  dsimp only at hn
  rw [den] at hn
  obtain ⟨rs, hrs, hks, hn⟩ := callD_some hn
  have hcalls := hH.walk w M1 (dens env cells) all X (fun b hb => ⟨g1.sat.mlt b hb, fun hm => (hfree b hm).1 hb⟩) hpar hXn g1.lt rs hrs
  have hrun : (execOp a.eval op).run P w = .ok (.enter f all.toArray) w := by
    obtain ⟨x, caps, e1, e2, rfl⟩ := hv
    have e3 : #[] ++ c.args.map a.eval ++ caps = ((c.args.toList.map a.eval) ++ caps.toList).toArray := by simp
    have hen := hH.enters (#[] ++ c.args.map a.eval ++ caps) w
    rw [<- e3]
    simp only [execOp, ho, resolve, e1, Deferred.ofValue, e2, pure_bind, invoke]
    exact hen
  unfold Oper.wp
  rw [hrun, Oper.upon_enter]
  refine Calls.mono hcalls ?_
  rintro e w' ⟨M', rvs, r1, r2, X1, X2, rfl, rfl, f1, f2, f3, f4, f5, f6, f7, f8, f9, f10, f11⟩
  have hlen : (r1 ++ r2).length = (ksRes con.res ++ ksBack con.args).length := kindsB_len hks
  -- the state that is left, in the world behind
  have hMM : ∀ b, M1 b -> M' b /\ w'.heap[b]? = w.heap[b]? := fun b hb => ⟨f6 b hb, f5 b (g1.sat.mlt b hb) fun hm => (hfree b hm).1 hb⟩
  have hRR : ∀ b, cx.R b -> w'.heap[b]? = w.heap[b]? := fun b hb => f5 b (hRlt b hb) fun hm => (hfree b hm).2.1 hb
  have hXR : ∀ b ∈ X, ¬ cx.R b := fun b hb => (hfree b hb).2.1
  have hM'R : ∀ b, M' b -> M1 b \/ ¬ cx.R b := fun b hb => by
    rcases (f7 b hb).2 with h | h | h
    · exact .inl h
    · exact .inr fun hr => by have := hRlt b hr; omega
    · exact .inr (hXR b h)
  have hX12 : ∀ b ∈ X1 ++ X2, ∀ k o, getO s1.hp k = some o -> b ∉ (N k).φ := fun b hb k o hg hb' => by
    rcases (f11 b hb).2.2 with h | h
    · have := g1.sat.blt k o b hg hb'; omega
    · exact (hfree b h).2.2 k o hg hb'
  have hs1 : Sat cx M' N env s1 a.tmps w' := by
    refine g1.sat.step (K := fun _ => true) (V := fun _ => true) (hp := s1.hp) (nx := s1.nx) (nv := s1.nv) f1 f2 f3 f4 hMM hRR (fun b hb => (f7 b hb).1) hM'R (fun _ _ => KI.same.rfl' _) (fun _ _ => rfl) (SV.alls_true _) (fun _ _ => rfl) g1.sat.nv ?_ (fun k o b hg hb => Nat.lt_of_lt_of_le (g1.sat.blt k o b hg hb) f4) g1.sat.nodup ?_ g1.sat.dist
    · intro k o' hg
      exact obm.mono (K := fun _ => true) (V := fun _ => true) hMM hRR (fun _ _ => KI.same.rfl' _) (fun _ _ => rfl) rfl (SObj.all_true _) (fun b hb => f5 b (g1.sat.blt k o' b hg hb) fun hm => (hfree b hm).2.2 k o' hg hb) (g1.sat.objs k o' hg)
    · intro k o' b hg hb
      refine ⟨fun hm => ?_, (g1.sat.apart k o' b hg hb).2⟩
      rcases (f7 b hm).2 with h | h | h
      · exact (g1.sat.apart k o' b hg hb).1 h
      · have := g1.sat.blt k o' b hg hb; omega
      · exact (hfree b h).2.2 k o' hg hb
  have hs2 := hs1.more hok1 (r1 ++ r2)
  have hnv : s1.nv = env.length := g1.sat.nv
  have hnd := List.nodup_append.1 f10
  -- the results
  obtain ⟨N1, a1, a2, a3, a4, a5, a6, a7⟩ := mkRets_ok (R := cx.R) (env0 := env) (r2 ++ []) (nx := s1.nx) (N := N) f8 hnd.1
  rw [<- hnv, hq1] at a2 a3 a4 a5 a7
  dsimp only at a2 a3 a4 a5 a7
  have hnv1 : nv1 = (env ++ r1).length := by
    have := mkRets_nv (rs := con.res) (nx := s1.nx) (nv := s1.nv)
    rw [hq1] at this
    dsimp only at this
    rw [this, List.length_append, <- hnv, kindsB_len a6]
  have hnx1 : s1.nx <= nx1 := by
    have := mkRets_ge (rs := con.res) (nx := s1.nx) (nv := s1.nv)
    rw [hq1] at this; exact this
  have hbk' : distinct (bkKeys bks) = true /\ (∀ k ∈ bkKeys bks, getO s1.hp k = none /\ k < s1.nx) /\ bkOld s1 bks = true := by
    unfold bkB at hbk
    simp only [Bool.and_eq_true, List.all_eq_true] at hbk
    exact ⟨hbk.1, fun k hk => ⟨noObj_ok (hbk.2.1 k hk).1, Nat_blt (hbk.2.1 k hk).2⟩, hbk.2.2⟩
  have g2' : BkOks w M1 cx.R N1 env con.args bks all := by
    have lift : ∀ {ps : List Par} {bs : List Bk} {vs : List Value}, (∀ k ∈ bkKeys bs, k < s1.nx) -> bkOld s1 bs = true -> BkOks w M1 cx.R N env ps bs vs -> BkOks w M1 cx.R N1 env ps bs vs := by
      intro ps
      induction ps with
      | nil => intro bs vs _ _ h; exact h
      | cons p ps ih =>
        intro bs vs hns hold h
        obtain ⟨b, bs', u, us', rfl, rfl, k1, k2⟩ := h
        refine ⟨b, bs', u, us', rfl, rfl, ?_, ih (fun k hk => hns k (by cases b <;> simp [bkKeys, hk])) (by cases b <;> simp only [bkOld, Bool.and_eq_true] at hold <;> first | exact hold | exact hold.2) k2⟩
        cases p with
        | ptr shs ks =>
          cases b with
          | ptr k vs off =>
            obtain ⟨b0, arr, us0, q1, q2, q3, q4, q5, q6⟩ := k1
            have : N1 k = N k := a1 k (hns k (by simp [bkKeys]))
            rw [BkOk, this]
            simp only [bkOld, Bool.and_eq_true] at hold
            exact ⟨b0, arr, us0, q1, q2, q3, q4, svms.mono (K := fun k => Nat.blt k s1.nx) (V := fun i => Nat.blt i s1.nv) (fun _ hb => ⟨hb, rfl⟩) (fun _ _ => rfl) (fun k hk => KI.same.of (a1 k (Nat_blt hk))) (fun _ _ => rfl) _ _ hold.1 q5, q6⟩
          | _ => exact k1
        | own ag shs ks back =>
          cases back with
          | false => cases b <;> exact k1
          | true =>
            cases b with
            | own keys' =>
              obtain ⟨us0, q1, q2, q3, q4⟩ := k1
              refine ⟨us0, q1, q2, q3, fun i k hk => ?_⟩
              obtain ⟨e, row, u, r1, r2, r3⟩ := q4 i k hk
              have hm : k ∈ someKeys keys' := by
                clear q1 q2 q3 q4 r1 r2 r3 k2 ih hns hold
                induction keys' generalizing i with
                | nil => simp at hk
                | cons x xs ihx =>
                  cases i with
                  | zero => simp at hk; subst hk; simp [someKeys]
                  | succ i =>
                    have := ihx i (by simpa using hk)
                    cases x <;> simp [someKeys, this]
              exact ⟨e, row, u, r1, r2, by rw [a1 k (hns k (by simp [bkKeys, hm]))]; exact r3⟩
            | _ => exact k1
        | _ => cases b <;> exact k1
    exact lift (fun k hk => (hbk'.2.1 k hk).2) hbk'.2.2 g2
  -- what was handed over
  obtain ⟨N2, b1, b2, b3, b4⟩ := mkBacks_ok (nx0 := s1.nx) (nv0 := s1.nv) hMM hRR (env0 := env ++ r1) [] (nx := nx1) (N := N1) f9 g2' hnd.2.1 hbk'.1 hnx1 (fun k hk => (hbk'.2.1 k hk).2) (bkOld_ok hbk'.2.2) (fun i hi => by
    rw [List.append_nil, List.append_assoc]; exact getC_append (by omega))
  rw [<- hnv1, hq2] at b3
  have eA : env ++ (r1 ++ (r2 ++ [])) = env ++ (r1 ++ r2) := by simp
  have eB : env ++ r1 ++ (r2 ++ []) = env ++ (r1 ++ r2) := by simp
  rw [eA] at a2 a3
  rw [eB] at b3
  have hsame : ∀ k, k < s1.nx -> KI.same (N2 k) (N k) := fun k hk => by
    have := b1 k (by omega)
    rw [a1 k hk] at this; exact this
  have n1 : News w' M' cx.R N2 (env ++ (r1 ++ r2)) o1 X1 := a2.lift3 a7 (fun k hk => b1 k hk) fun k o hg => b2 k (a4 k o hg).2 fun hm => by
    have := (hbk'.2.1 k hm).2; have := (a4 k o hg).1; omega
  have n2 := n1.append b3 f10
  have hjoin := hs2.joinO (N' := N2) (objs := o1 ++ o2) (nx := nx2) (X := X1 ++ X2) (St.ok_more hok1 _) (fun k hk => hsame k (Nat_blt hk)) (fun k o hg => ?_) n2.obj (fun b hb => ?_) n2.dist
  · refine ⟨_, env ++ (r1 ++ r2), M', N2, hn, ?_, (put_eq a op.dst (retV rvs)).2, fun b hb => (hMM b (g1.sub b hb)).2, fun k hk vs hg => ?_⟩
    · rw [(put_eq a op.dst (retV rvs)).1]
      rw [<- hlen]
      refine hjoin.put op.dst (svm_ret ?_)
      exact svms.mono (K := fun k => Nat.blt k nx1) (V := fun _ => true) (fun _ hb => ⟨hb, rfl⟩) (fun _ _ => rfl) (fun k hk => b1 k (Nat_blt hk)) (fun _ _ => rfl) _ _ a5 a3
    · have hthere : ∃ o', getO s1.hp k = some o' := by
        cases hq : getO s1.hp k with
        | some o' => exact ⟨o', rfl⟩
        | none => exact absurd hk (mayW_ok (goneB_ok hgone hg hq))
      obtain ⟨o', ho'⟩ := hthere
      refine ⟨hsame k (Nat_blt (hpAll_get (St.ok_parts hok1).2.1 ho').1), fun b hb => f5 b (hs.blt k _ b hg hb) fun hm => ?_⟩
      exact (hfree b hm).2.2 k o' ho' hb
  · have hlt := (hpAll_get (St.ok_parts hok1).2.1 hg).1
    have hk := Nat_blt hlt
    rw [b2 k (by omega) fun hm => by have := (hbk'.2.1 k hm).1; rw [this] at hg; cases hg]
    exact a1 k hk
  · have := f11 b hb
    refine ⟨this.1, fun hr => ?_, this.2.1, hX12 b hb⟩
    rcases this.2.2 with h | h
    · have := hRlt b hr; omega
    · exact hXR b h hr


def rosL : List SV -> Option (List Cell)
  | [] => some []
  | x :: xs => match (match x with
      | .int k a => some (ci k a)
      | .bool a => some (cb a)
      | .str a => some (Dx.cs a)
      | .view _ a => some (cl a)
      | .nil => some (cl .e)
      | .blob => some ⟨.hole, .e⟩
      | _ => none : Option Cell), rosL xs with
    | some c, some cs => some (c :: cs)
    | _, _ => none

def passL (s : St) (c : Call) (i : Nat) : List Par -> Option (List Cell)
  | [] => some []
  | .ro a ks :: ps => match argCells a (argAt s.sl c i) with
    | some vs => match rosL vs with
      | some cs => match cellsB ks cs, passL s c (i + 1) ps with
        | true, some r => some (cs ++ r)
        | _, _ => none
      | none => none
    | none => none
  | .own a shs ks false :: ps => match argCells a (argAt s.sl c i), allVal shs && Nat.beq shs.length ks.length with
    | some vs, true => match rosL vs with
      | some cs => match cellsB ks cs, passL s c (i + 1) ps with
        | true, some r => some (cs ++ r)
        | _, _ => none
      | none => none
    | _, _ => none
  | _ => none

def looseR : List Ret -> Bool
  | [] => true
  | r :: rs => match allVal r.shs && !r.ptr with
    | true => looseR rs
    | false => false

def boundRes (nv : Nat) : List Ret -> List SV
  | [] => []
  | r :: rs => asVal r.agg (bound false r.ks nv) :: boundRes (nv + r.ks.length) rs

def callL (s : St) (c : Call) (fi : Nat) (con : Con) (d : Option Tmp) (K : St -> Tree) : Tree :=
  match nargs s c con.args.length && (looseR con.res && s.ok), passL s c 0 con.args with
  | true, some cells => .call fi cells (ksRes con.res) (K (putD { s with nv := s.nv + (ksRes con.res).length } d (retS (boundRes s.nv con.res))))
  | _, _ => .fail

theorem rosL_ok {R : Nat -> Prop} : ∀ {xs : List SV} {cs : List Cell} {vs : List Value}, rosL xs = some cs -> svms w M R N env xs vs -> repRow w (fun b => M b \/ R b) (dens env cs) vs /\ cs.length = xs.length
  | [], cs, vs, hc, hx => by
    simp only [rosL, Option.some.injEq] at hc; subst hc
    exact ⟨repRow_nil _, rfl⟩
  | x :: xs, cs, vs, hc, hx => by
    rw [svms] at hx
    obtain ⟨v, vs', rfl, h1, h2⟩ := hx
    simp only [rosL] at hc
    split at hc
    case h_2 => cases hc
    rename_i c cs' hc1 hc2
    simp only [Option.some.injEq] at hc; subst hc
    obtain ⟨h3, h4⟩ := rosL_ok hc2 h2
    refine ⟨?_, by simp [h4]⟩
    simp only [dens]
    rw [repRow]
    refine ⟨v, vs', rfl, ?_, h3⟩
    cases x <;> simp only [Option.some.injEq, reduceCtorEq] at hc1 <;> subst hc1 <;> rw [svm] at h1
    · simp only [Cell.den, ci]; rw [repC]; exact h1
    · simp only [Cell.den, cb]; rw [repC]; exact h1
    · simp only [Cell.den, Dx.cs]; rw [repC]; exact h1
    · rename_i t l
      exact repC.mono (fun b hb => ⟨by cases t with
        | true => exact .inl hb
        | false => exact hb, rfl⟩) _ _ h1
    · subst h1; simp only [Cell.den, cl, At.den, C.toList]; rw [repC]; exact ⟨none, 0, rfl, by simp, by simp, .inl rfl⟩
    · simp only [Cell.den]; rw [repC]; exact h1

theorem passL_ok {c : Call} {f : Nat} {all : List Value} (hv : CallVals a c f all) (hs : Sat cx M N env s a.tmps w) {Z : Nat -> Prop} (hZ : ∀ b, M b \/ cx.R b -> Z b) : ∀ (ps : List Par) {i : Nat} {cs : List Cell}, all.length = i + ps.length -> passL s c i ps = some cs -> parVs w (fun b => M b \/ cx.R b) Z ps (dens env cs) (all.drop i) []
  | [], i, cs, hl, hc => by
    simp only [passL, Option.some.injEq] at hc; subst hc
    rw [List.drop_of_length_le (by simp at hl; omega)]
    exact ⟨rfl, rfl, rfl⟩
  | p :: ps, i, cs, hl, hc => by
    have hlt : i < all.length := by simp at hl; omega
    have hdrop : all.drop i = all[i] :: all.drop (i + 1) := List.drop_eq_getElem_cons hlt
    have harg := argAt_ok hs hv (i := i) (List.getElem?_eq_getElem hlt)
    rw [hdrop]
    cases p with
    | ro ag ks =>
      simp only [passL] at hc
      split at hc
      case h_2 => cases hc
      rename_i vs hvs
      split at hc
      case h_2 => cases hc
      rename_i c1 h1
      split at hc
      case h_2 => cases hc
      rename_i r hk hr
      simp only [Option.some.injEq] at hc; subst hc
      obtain ⟨us, g1, g2⟩ := argCells_ok hvs harg
      obtain ⟨g3, g4⟩ := rosL_ok h1 g1
      have ih := passL_ok hv hs hZ ps (i := i + 1) (by simp at hl; omega) hr
      rw [dens_append]
      refine ⟨_, _, _, _, [], [], rfl, rfl, rfl, ⟨rfl, cellsB_den hk, us, ?_, repRow.mono (fun b hb => ⟨hZ b hb, rfl⟩) _ _ g3, g2⟩, ih⟩
      rw [svms_len g1, <- g4, cellsB_len hk]
    | own ag shs ks back =>
      cases back with
      | true => cases hc
      | false =>
        simp only [passL] at hc
        split at hc
        case h_2 => cases hc
        rename_i vs hvs hav
        split at hc
        case h_2 => cases hc
        rename_i c1 h1
        split at hc
        case h_2 => cases hc
        rename_i r hk hr
        simp only [Option.some.injEq] at hc; subst hc
        simp only [Bool.and_eq_true] at hav
        obtain ⟨us, g1, g2⟩ := argCells_ok hvs harg
        obtain ⟨g3, g4⟩ := rosL_ok h1 g1
        have ih := passL_ok hv hs hZ ps (i := i + 1) (by simp at hl; omega) hr
        have e1 := beqN hav.2
        have e2 := cellsB_len hk
        have e3 := svms_len g1
        rw [dens_append]
        exact ⟨_, _, _, _, [], [], rfl, rfl, rfl, ⟨cellsB_den hk, us, shR_of_vals hav.1 g3 (by rw [dens_len]; omega) (by omega), g2⟩, ih⟩
    | ptr shs ks => cases hc
    | rptr ks => cases hc
    | fn g kss => cases hc

theorem boundRes_ok {M' R : Nat -> Prop} (hM : ∀ b, M' b -> MR M R false b) : ∀ {rs : List Ret} {cs : List C} {vs : List Value} {X : List Nat} {env0 : List C} (rest : List C), looseR rs = true -> resVs w M' rs cs vs X -> svms w M R N (env0 ++ (cs ++ rest)) (boundRes env0.length rs) vs
  | [], cs, vs, X, env0, rest, _, h => by
    obtain ⟨rfl, rfl, rfl⟩ := h
    simp [boundRes, svms]
  | r :: rs, cs, vs, X, env0, rest, hl, h => by
    obtain ⟨c1, c2, v, vs', X1, X2, rfl, rfl, rfl, hk, hone, hr⟩ := h
    simp only [looseR] at hl
    split at hl
    case h_2 => cases hl
    rename_i h0
    simp only [Bool.and_eq_true, Bool.not_eq_true'] at h0
    unfold retOne at hone
    rw [h0.2] at hone
    obtain ⟨us, g1, g2⟩ := hone
    have hkl := kindsB_len hk
    have g3 := shR_vals h0.1 g1
    have g4 := shR_len g1
    have ih := boundRes_ok hM (env0 := env0 ++ c1) rest hl hr
    have e1 : (env0 ++ c1).length = env0.length + r.ks.length := by simp [hkl]
    have e2 : env0 ++ c1 ++ (c2 ++ rest) = env0 ++ (c1 ++ c2 ++ rest) := by simp
    rw [e1, e2] at ih
    simp only [boundRes]
    rw [svms]
    refine ⟨v, vs', rfl, svm_asVal ?_ g2, ih⟩
    have := svms_bound (w := w) (M := M) (R := R) (t := false) (N := N) (env := env0) (c2 ++ rest) hk (repRow.mono (fun b hb => ⟨hM b hb, rfl⟩) _ _ g3)
    rw [List.take_of_length_le (by omega)] at this
    rw [List.append_assoc]; exact this

theorem resVs_kinds {M' : Nat -> Prop} : ∀ {rs : List Ret} {cs : List C} {vs : List Value} {X : List Nat}, resVs w M' rs cs vs X -> kindsB (ksRes rs) cs = true
  | [], cs, vs, X, h => by obtain ⟨rfl, rfl, rfl⟩ := h; rfl
  | r :: rs, cs, vs, X, h => by
    obtain ⟨c1, c2, v, vs', X1, X2, rfl, rfl, rfl, hk, hone, hr⟩ := h
    exact kindsB_append hk (resVs_kinds hr)

theorem callL_step {c : Call} (ho : op.op = .call c) {f : Nat} {xs : List SV} {con : Con} {fi : Nat} {rd : List Nat} {K : St -> Tree} (hH : Has P f con (Φ fi)) (hf : callArgs s.sl c = some (f, xs))
    (hn : den Φ (callL s c fi con op.dst K) env = some o) (hs : Sat cx M N env s a.tmps w) (Q : Exit -> Act -> World -> Prop) : op.wp P a w (Cont Φ K o cx rd M N s w a.defers) Q := by
  unfold callL at hn
  split at hn
  case h_2 => cases hn
  rename_i cells hchk hp
  simp only [Bool.and_eq_true] at hchk
  obtain ⟨hna, hlo, hok⟩ := hchk
  obtain ⟨all, hv, hall⟩ := callArgs_ok hs hf
  have hal : all.length = con.args.length := by
    have h1 : Nat.beq xs.length con.args.length = true := by simpa [nargs, hf] using hna
    rw [svms_len hall]; exact beqN h1
  rw [den] at hn
  obtain ⟨rs, hrs, hks, hn⟩ := callD_some hn
  have hRlt : ∀ b, cx.R b -> b < w.heap.size := fun b hb => Nat.lt_of_lt_of_le (hs.rlt b hb) hs.size
  have hlt : ∀ b, M b \/ cx.R b -> b < w.heap.size := fun b hb => hb.elim (hs.mlt b) (hRlt b)
  have hpar := passL_ok (Z := fun b => b < w.heap.size /\ b ∉ ([] : List Nat)) hv hs (fun b hb => ⟨hlt b hb, by simp⟩) con.args (i := 0) (by omega) hp
  rw [List.drop_zero] at hpar
  have hcalls := hH.walk w (fun b => M b \/ cx.R b) (dens env cells) all [] (fun b hb => ⟨hlt b hb, by simp⟩) hpar (by simp) (by simp) rs hrs
  have hrun : (execOp a.eval op).run P w = .ok (.enter f all.toArray) w := by
    obtain ⟨x, caps, e1, e2, rfl⟩ := hv
    have e3 : #[] ++ c.args.map a.eval ++ caps = ((c.args.toList.map a.eval) ++ caps.toList).toArray := by simp
    have hen := hH.enters (#[] ++ c.args.map a.eval ++ caps) w
    rw [<- e3]
    simp only [execOp, ho, resolve, e1, Deferred.ofValue, e2, pure_bind, invoke]
    exact hen
  unfold Oper.wp
  rw [hrun, Oper.upon_enter]
  refine Calls.mono hcalls ?_
  rintro e w' ⟨M', rvs, r1, r2, X1, X2, rfl, rfl, f1, f2, f3, f4, f5, f6, f7, f8, f9, f10, f11⟩
  have hr1 := kindsB_len (resVs_kinds f8)
  have hlen := kindsB_len hks
  have hr2 : r2 = [] := by
    rw [List.length_append] at hlen
    exact List.eq_nil_of_length_eq_zero (by omega)
  subst hr2
  rw [List.append_nil] at hn hks
  let M2 : Nat -> Prop := fun b => M' b /\ (M b \/ ¬ cx.R b)
  have hMM : ∀ b, M b -> M2 b /\ w'.heap[b]? = w.heap[b]? := fun b hb => ⟨⟨f6 b (.inl hb), .inl hb⟩, f5 b (hs.mlt b hb) (by simp)⟩
  have hRR : ∀ b, cx.R b -> w'.heap[b]? = w.heap[b]? := fun b hb => f5 b (hRlt b hb) (by simp)
  have hs1 : Sat cx M2 N env s a.tmps w' := by
    refine hs.step (K := fun _ => true) (V := fun _ => true) (hp := s.hp) (nx := s.nx) (nv := s.nv) f1 f2 f3 f4 hMM hRR (fun b hb => (f7 b hb.1).1) (fun b hb => hb.2) (fun _ _ => KI.same.rfl' _) (fun _ _ => rfl) (SV.alls_true _) (fun _ _ => rfl) hs.nv ?_ (fun k o b hg hb => Nat.lt_of_lt_of_le (hs.blt k o b hg hb) f4) hs.nodup ?_ hs.dist
    · intro k o' hg
      exact obm.mono (K := fun _ => true) (V := fun _ => true) hMM hRR (fun _ _ => KI.same.rfl' _) (fun _ _ => rfl) rfl (SObj.all_true _) (fun b hb => f5 b (hs.blt k o' b hg hb) (by simp)) (hs.objs k o' hg)
    · intro k o' b hg hb
      refine ⟨fun hm => ?_, (hs.apart k o' b hg hb).2⟩
      have hap := hs.apart k o' b hg hb
      rcases (f7 b hm.1).2 with h | h | h
      · exact h.elim hap.1 hap.2
      · have := hs.blt k o' b hg hb; omega
      · simp at h
  have hs2 := hs1.more hok r1
  rw [hr1] at hs2
  refine ⟨_, env ++ r1, M2, N, hn, ?_, (put_eq a op.dst (retV rvs)).2, fun b hb => (hMM b hb).2, fun k hk vs hg => ⟨KI.same.rfl' _, fun b hb => f5 b (hs.blt k _ b hg hb) (by simp)⟩⟩
  rw [(put_eq a op.dst (retV rvs)).1]
  refine hs2.put op.dst (svm_ret ?_)
  have := boundRes_ok (M := M2) (R := cx.R) (N := N) (fun b hb => by
    show M2 b \/ cx.R b
    by_cases hr : cx.R b
    · exact .inr hr
    · exact .inl ⟨hb, .inr hr⟩) (env0 := env) [] hlo f8
  rw [List.append_nil] at this
  rw [hs.nv]
  exact this
end
end Dx


/- One operation. -/
namespace Dx
open Go

structure Env where
  T : Tab
  eqn : Nat -> Option Nat
  R : Rows
  E : Nat -> List (Nat × Con)
  tr : Bool

structure EnvOk (P : Program) (G : Env) (Φ : Phi) : Prop where
  tab : TabOk P G.T
  eq : EqOk P G.eqn
  has : ∀ f c, c ∈ G.E f -> Has P f c.2 (Φ c.1)
  mixed : P.follows .mixedOrders = true

def ldFoc (s : St) (i : TI) (sz off : Nat) (row : List Sh) (ii jj : At) (vs : List SV) (d : Option Tmp) (K : St -> Tree) : Tree :=
  match Nat.beq row.length sz, Nat.ble (off + i.sz) sz, i.agg, Nat.beq i.sz 1 with
  | true, true, true, _ => check .eqI [ci .i64 jj, ci .i64 ii] (K (putD s d (.agg ((vs.drop off).take i.sz))))
  | true, true, false, true => check .eqI [ci .i64 jj, ci .i64 ii] (K (putD s d (getS vs off)))
  | _, _, _, _ => .fail

def trunc (T : Tab) (s : St) (t k e : Nat) (row : List Sh) (l : At) (kk : IntKind) (h : At) (d : Option Tmp) (K : St -> Tree) : Tree :=
  match T t with
  | some i => match i.d with
    | .slice e' => match T e' with
      | some _ => match s.ok && small e with
        | true => check .upto [ci kk h, cl l] (emit s .take [cl l, ci kk h] fun a s2 => match s2.ok with
          | true => K (putD { s2 with hp := [(s2.nx, .arr e row a)] ++ remO s2.hp k, nx := s2.nx + 1 } d (.sl s2.nx))
          | false => .fail)
        | false => .fail
      | none => .fail
    | _ => .fail
  | none => .fail

def cutOwn (T : Tab) (s : St) (t k e : Nat) (row : List Sh) (l : At) (kk : IntKind) (h : At) (d : Option Tmp) (K : St -> Tree) : Tree :=
  match T t with
  | some i => match i.d with
    | .slice e' => match T e' with
      | some ie => match s.ok && small e, Nat.beq ie.sz row.length with
        | true, true => check .upto [ci kk h, cl l] (emit s .drop [cl l, ci kk h] fun a s2 => match s2.ok with
          | true => K (putD { s2 with hp := [(s2.nx, .arr (BIG + e) row a)] ++ remO s2.hp k, nx := s2.nx + 1 } d (.sl s2.nx))
          | false => .fail)
        | _, _ => .fail
      | none => .fail
    | _ => .fail
  | none => .fail

def nilGo (s : St) (l : At) (neg : Bool) (d : Option Tmp) (K : St -> Tree) : Tree :=
  emit s .isNil [cl l] fun p s1 => .ite p (mkBoth (K (putD s1 d (.bool (.b (!neg))))) (K (putD s1 d (.bool (.b neg))))) (K (putD s1 d (.bool (.b neg))))

def nilEq (T : Tab) (s : St) (t : Nat) (x : SV) (neg : Bool) (d : Option Tmp) (K : St -> Tree) : Tree :=
  match T t with
  | some i => match i.d with
    | .slice _ => match x with
      | .nil => K (putD s d (.bool (.b (!neg))))
      | .view _ l => nilGo s l neg d K
      | .sl k => match getO s.hp k with
        | some (.arr _ _ l) => nilGo s l neg d K
        | _ => .fail
      | _ => .fail
    | _ => .fail
  | none => .fail

def isF : SV -> Bool
  | .view false _ => true
  | _ => false

def anyF : List SV -> Bool
  | [] => false
  | x :: xs => match isF x with
    | true => true
    | false => anyF xs

def needL : List Par -> List SV -> Bool
  | .own _ _ _ _ :: ps, x :: xs => anyF x.cells || needL ps xs
  | _ :: ps, _ :: xs => needL ps xs
  | _, _ => false

def fnsOk : List Par -> List SV -> Bool
  | .fn f _ :: ps, x :: xs => match x with
    | .fn g _ => match Nat.beq f g with
      | true => fnsOk ps xs
      | false => false
    | _ => false
  | _ :: ps, _ :: xs => fnsOk ps xs
  | _, _ => true

def pickCon (xs : List SV) : List (Nat × Con) -> Option (Nat × Con)
  | [] => none
  | c :: cs => match fnsOk c.2.args xs with
    | true => some c
    | false => pickCon xs cs

theorem pickCon_mem {xs : List SV} : ∀ {cs : List (Nat × Con)} {c : Nat × Con}, pickCon xs cs = some c -> c ∈ cs
  | [], c, h => by simp [pickCon] at h
  | d :: cs, c, h => by
    simp only [pickCon] at h
    split at h
    · simp only [Option.some.injEq] at h; subst h; exact List.mem_cons_self
    · exact List.mem_cons_of_mem _ (pickCon_mem h)

def knownI : List SV -> Option (List Int)
  | [] => some []
  | .int .i64 (.n z) :: r => match knownI r with
    | some l => some (z :: l)
    | none => none
  | _ :: _ => none

def keyI (T : Tab) (t : Nat) : Option Nat :=
  match T t with
  | some i => match i.d with
    | .map kt e => match T kt with
      | some ik => match ik.d with
        | .int .i64 => some e
        | _ => none
      | none => none
    | _ => none
  | none => none

def noKey (z : Int) (es : List (Int × List Int)) : Bool := es.all fun p => !decide (p.1 = z)

def insertT (T : Tab) (rd : List Nat) (s : St) (t : Nat) (m k x : SV) (d : Option Tmp) (K : St -> Tree) : Tree :=
  match d, m, k, x with
  | none, .sl key, .int .i64 (.n z), .agg vs => match getO s.hp key, knownI vs, keyI T t with
    | some (.map es), some l, some _ => match mayW rd key, noKey z es with
      | true, true => K { s with hp := (key, .map (es ++ [(z, l)])) :: remO s.hp key }
      | _, _ => .fail
    | _, _, _ => .fail
  | _, _, _, _ => .fail

def twoB (es : List (Int × List Int)) : Bool := es.all fun p => decide (p.2.length = 2)

def colI (i : Nat) (es : List (Int × List Int)) : List (Int × Int) := es.map fun p => (p.1, p.2.getD i 0)

def lookupT (T : Tab) (s : St) (t : Nat) (m k : SV) (d : Option Tmp) (K : St -> Tree) : Tree :=
  match m, k, keyI T t with
  | .sl key, .int .i64 n, some e => match getO s.hp key, T e with
    | some (.map es), some ie => match ie.zero, twoB es, s.ok with
      | [.int .i64 (.n 0), .int .i64 (.n 0)], true, true =>
        .letp (.tab (colI 0 es)) [ci .i64 n] (.letp (.tab (colI 1 es)) [ci .i64 n] (.letp (.has (es.map (·.1))) [ci .i64 n]
          (K (putD { s with nv := s.nv + 3 } d (.tuple [.agg [.int .i64 (.v s.nv), .int .i64 (.v (s.nv + 1))], .bool (.v (s.nv + 2))])))))
      | _, _, _ => .fail
    | _, _ => .fail
  | _, _, _ => .fail

def dOp (G : Env) (op : Oper) (s : St) (rd : List Nat) (K : St -> Tree) : Tree :=
  match op.op with
  | .store t x y => match op.dst, G.T t with
    | none, some i => match opnd s.sl x with
      | .ptr k off => match getO s.hp k, mayW rd k with
        | some (.cells vs), true => stCells s i.sz k off vs (opnd s.sl y) K
        | _, _ => .fail
      | .eptr k sz j off => match getO s.hp k, mayW rd k with
        | some (.foc e row l ii vs), true => match Nat.beq sz row.length with
          | true => stFoc s i.sz k off e row l ii j vs (opnd s.sl y) K
          | false => .fail
        | some (.arr e row l), true => match Nat.beq sz row.length with
          | true => stArr s i.sz k off e row l j (opnd s.sl y) K
          | false => .fail
        | _, _ => .fail
      | _ => .fail
    | _, _ => .fail
  | .buildSlice t len parts => buildSl G.T G.R s t len (parts.toList.map fun p => (p.1, opnd s.sl p.2)) op.dst K
  | .insert t m k x => insertT G.T rd s t (opnd s.sl m) (opnd s.sl k) (opnd s.sl x) op.dst K
  | .lookup t m ix true => lookupT G.T s t (opnd s.sl m) (opnd s.sl ix) op.dst K
  | .makeSlice t x y => makeSl G.T s t (opnd s.sl x) (opnd s.sl y) op.dst K
  | .load t x => match opnd s.sl x with
    | .eptr k sz j off => match getO s.hp k, G.T t with
      | some (.foc _ row _ ii vs), some i => ldFoc s i sz off row ii j vs op.dst K
      | _, _ => (nf G.T G.eqn s (.load t x)).tree s op.dst K
    | _ => (nf G.T G.eqn s (.load t x)).tree s op.dst K
  | .slice t x lo hi mx => match lo, hi, mx, opnd s.sl x with
    | none, some h, none, .sl k => match getO s.hp k, opnd s.sl h with
      | some (.arr e row l), .int kk n => trunc G.T s t k e row l kk n op.dst K
      | _, _ => .fail
    | some h, none, none, .sl k => match getO s.hp k, opnd s.sl h with
      | some (.arr e row l), .int kk n => cutOwn G.T s t k e row l kk n op.dst K
      | _, _ => .fail
    | _, _, _, _ => (nf G.T G.eqn s (.slice t x lo hi mx)).tree s op.dst K
  | .binOp bop t x y u => match opnd s.sl y, bop with
    | .nil, .eql => nilEq G.T s t (opnd s.sl x) false op.dst K
    | .nil, .neq => nilEq G.T s t (opnd s.sl x) true op.dst K
    | _, _ => (nf G.T G.eqn s (.binOp bop t x y u)).tree s op.dst K
  | .call c => match c.callee with
    | .builtin .append => match c.args.toList, c.argTypes.toList with
      | [x, y], [t, t'] => match Nat.beq t t' with
        | true => app G.T rd s t op.dst x y K
        | false => .fail
      | _, _ => .fail
    | .value _ => match callArgs s.sl c with
      | some (f, xs) => match pickCon xs (G.E f) with
        | some (fi, con) => match needL con.args xs with
          | true => callL s c fi con op.dst K
          | false => call s c fi con rd op.dst K
        | none => .fail
      | none => .fail
    | _ => (nf G.T G.eqn s (.call c)).tree s op.dst K
  | o => (nf G.T G.eqn s o).tree s op.dst K

section
variable {Φ : Phi} {cx : Ctx} {M : Nat -> Prop} {N : Nm} {env : List C} {s : St} {tm : Array Value} {w : World} {o : Out} {a : Act} {P : Program} {op : Oper} {T : Tab}

theorem ldFoc_ok (hT : TabOk P T) {t : Nat} {i : TI} (hi : T t = some i) {x : Operand} (ho : op.op = .load t x) {k sz off e : Nat} {row : List Sh} {l ii jj : At} {vs : List SV} {K : St -> Tree} {rd : List Nat}
    (hn : den Φ (ldFoc s i sz off row ii jj vs op.dst K) env = some o) (hs : Sat cx M N env s a.tmps w) (hx : opnd s.sl x = .eptr k sz jj off) (hg : getO s.hp k = some (.foc e row l ii vs)) (Q : Exit -> Act -> World -> Prop) : op.wp P a w (Cont Φ K o cx rd M N s w a.defers) Q := by
  have hxv := hs.opnd x
  rw [hx, svm] at hxv; obtain ⟨g, n0, cap0, j0, hb, hj0, hjn, hv⟩ := hxv
  obtain ⟨vals, X1, X2, j, es, f1, f2, hjl, f4, h3, g1, g2, g3, g4, h5, h6⟩ := hs.objs k _ hg
  have main : ∀ {t : Tree}, Nat.beq row.length sz = true -> Nat.ble (off + i.sz) sz = true -> (i.agg = false -> i.sz = 1) -> den Φ (check .eqI [ci .i64 jj, ci .i64 ii] t) env = some o ->
      den Φ t env = some o /\ ∃ val, (execOp a.eval op).run P w = .ok (.value val) w /\ (i.agg = true -> svm w M cx.R N env (.agg ((vs.drop off).take i.sz)) val) /\ (i.agg = false -> svm w M cx.R N env (getS vs off) val) := by
    intro t c1 c2 hone hm0
    have e1 := beqN c1; subst e1
    have e2 := bleN c2
    obtain ⟨hc, hm1⟩ := check_ok hm0
    refine ⟨hm1, ?_⟩
    have hjj : j0 = j := by
      have : (jj.den env).toInt = (ii.den env).toInt := by simpa [Prim.den, dens, Cell.den, ci] using hc
      omega
    subst hjj
    rw [hb] at h3
    rcases h3.2 with ⟨p1, _⟩ | ⟨g', cap, cur, p1, p0, p2, p3, p4, p5, p6⟩
    · simp at p1
    simp only [Value.slice.injEq, Option.some.injEq, Addr.mk.injEq, and_true] at p1
    obtain ⟨rfl, rfl, rfl⟩ := p1
    have hle1 : (j0 + 1) * row.length <= es.length * row.length := Nat.mul_le_mul_right _ hjl
    have hle2 : es.length * row.length <= cap0 * row.length := Nat.mul_le_mul_right _ p3
    rw [Nat.add_mul, Nat.one_mul] at hle1
    obtain ⟨val, r1, r2, r3⟩ := run_loadAt hT hi (o := j0 * row.length + off) p2 (by omega) hone
    have hrow : ∀ n, off + n <= row.length -> ((vals.drop (j0 * row.length)).take row.length |>.drop off).take n = (cur.toList.drop (j0 * row.length + off)).take n := by
      intro n hn'
      rw [<- p6, List.drop_take, List.take_take, List.drop_take, List.drop_take, List.drop_drop, List.take_take]
      congr 1; omega
    refine ⟨val, by simp [execOp, ho, hv, r1], fun hag => ?_, fun hag => ?_⟩
    · rw [svm, r2 hag]
      refine ⟨_, rfl, ?_⟩
      have := svms_take i.sz (svms_drop off g2)
      rw [hrow i.sz e2] at this
      exact this
    · have h1 := hone hag
      have hoff : off < vs.length := by omega
      obtain ⟨u, hu, hm⟩ := svms_get g2 (show vs[off]? = some (getS vs off) by rw [getS_eq, List.getElem?_eq_getElem hoff]; rfl)
      have h4 := r3 hag
      have h7 := hrow 1 (by omega)
      have h8 : (((vals.drop (j0 * row.length)).take row.length).drop off).take 1 = [u] := by
        have hlt := (List.getElem?_eq_some_iff.1 hu).1
        rw [List.drop_eq_getElem_cons hlt]
        simp only [List.take_succ_cons, List.take_zero, List.cons.injEq, and_true]
        rw [List.getElem?_eq_getElem hlt] at hu; simpa using hu
      rw [h8] at h7
      have hlt : j0 * row.length + off < cur.toList.length := by rw [cur.length_toList]; omega
      rw [List.drop_eq_getElem_cons hlt] at h7
      simp only [List.take_succ_cons, List.take_zero, List.cons.injEq, and_true] at h7
      rw [List.getElem?_eq_getElem hlt] at h4
      simp only [Option.some.injEq] at h4
      rw [<- h4, <- h7]; exact hm
  unfold ldFoc at hn
  split at hn
  case h_3 => cases hn
  · rename_i c1 c2 c3
    obtain ⟨hn, val, r1, r2, _⟩ := main c1 c2 (fun h => by rw [c3] at h; cases h) hn
    exact gives hs r1 (r2 c3) hn Q
  · rename_i c1 c2 c3 c4
    obtain ⟨hn, val, r1, _, r2⟩ := main c1 c2 (fun _ => beqN c4) hn
    exact gives hs r1 (r2 c3) hn Q

theorem run_nil_eq {t e : Nat} (ht : P.underlying t = some (.slice e)) (A : Option Addr) (n c : Nat) (w : World) : (Op.equal t (.slice A n c) (.slice none 0 0)).run P w = .ok A.isNone w := by
  unfold Op.equal Op.maxDepth
  rw [show (10000 : Nat) = 9999 + 1 from rfl, Op.equalIn]
  cases A <;> simp [run_underlying ht]

theorem nilGo_ok {l : At} {neg : Bool} {K : St -> Tree} {rd : List Nat} (hn : den Φ (nilGo s l neg op.dst K) env = some o) (hs : Sat cx M N env s a.tmps w) {A : Option Addr} (hA : A = none -> (l.den env).toList = [])
    (hr : (execOp a.eval op).run P w = .ok (.value (.bool (A.isNone != neg))) w) (Q : Exit -> Act -> World -> Prop) : op.wp P a w (Cont Φ K o cx rd M N s w a.defers) Q := by
  unfold nilGo at hn
  obtain ⟨p, s1, ds, k1, k2, k3, k4, _⟩ := emit_ok hn hs
  rw [den] at k1
  have hp : (p.den (env ++ ds)).toBool = (l.den env).toList.isEmpty := k3.2.1
  rw [hp] at k1
  have fin : ∀ b : Bool, den Φ (K (putD s1 op.dst (.bool (.b b)))) (env ++ ds) = some o -> (A.isNone != neg) = b -> op.wp P a w (Cont Φ K o cx rd M N s w a.defers) Q := by
    intro b hb he
    refine gives k2 hr ?_ hb Q
    rw [svm, he]; rfl
  cases hl : (l.den env).toList.isEmpty with
  | true =>
    rw [hl] at k1
    simp only [iteD] at k1
    obtain ⟨h1, h2⟩ := mkBoth_some k1
    cases A with
    | none => exact fin _ h1 (by cases neg <;> rfl)
    | some ad => exact fin _ h2 (by cases neg <;> rfl)
  | false =>
    rw [hl] at k1
    simp only [iteD] at k1
    cases A with
    | none => rw [hA rfl] at hl; cases hl
    | some ad => exact fin _ k1 (by cases neg <;> rfl)

theorem nilEq_ok (hT : TabOk P T) {bop : BinOp} {t u : Nat} {x y : Operand} (ho : op.op = .binOp bop t x y u) {neg : Bool} (hbop : bop = .eql /\ neg = false \/ bop = .neq /\ neg = true) {K : St -> Tree} {rd : List Nat}
    (hn : den Φ (nilEq T s t (opnd s.sl x) neg op.dst K) env = some o) (hs : Sat cx M N env s a.tmps w) (hy : opnd s.sl y = .nil) (Q : Exit -> Act -> World -> Prop) : op.wp P a w (Cont Φ K o cx rd M N s w a.defers) Q := by
  unfold nilEq at hn
  split at hn
  case h_2 => cases hn
  rename_i i hi
  obtain ⟨inf, d, z, h1, h2, h3, h4, h5, h6, h7, h8, h9⟩ := hT t i hi
  split at hn
  case h_2 => cases hn
  rename_i e hd
  rw [hd] at h9
  have h9 : d = .slice e := h9
  subst h9
  have hyv := hs.opnd y
  rw [hy, svm] at hyv
  have hxv := hs.opnd x
  have run : ∀ A n c, a.eval x = .slice A n c -> (execOp a.eval op).run P w = .ok (.value (.bool (A.isNone != neg))) w := by
    intro A n c he
    have hq := run_nil_eq (P := P) h2 A n c w
    rcases hbop with ⟨rfl, rfl⟩ | ⟨rfl, rfl⟩ <;> simp [execOp, ho, he, hyv, eqGuard, binOp, hq]
  split at hn
  · rename_i he
    rw [he, svm] at hxv
    refine gives hs (run _ _ _ hxv) ?_ hn Q
    rw [svm]; cases neg <;> rfl
  · rename_i tt l he
    rw [he, svm, repC] at hxv
    obtain ⟨A, c, hv, _, _, hrep⟩ := hxv
    refine nilGo_ok hn hs (A := A) (fun hA => ?_) (run _ _ _ hv) Q
    rcases hrep with h | ⟨b, o', sz, arr, T', fr, h, _⟩
    · exact h
    · rw [hA] at h; cases h
  · rename_i k he
    split at hn
    case h_2 => cases hn
    rename_i e' row l hg
    rw [he, svm] at hxv
    obtain ⟨es, vals, X', g1, g2, g3, _⟩ := (show shC _ _ _ _ _ _ from hs.objs k _ hg)
    cases g1
    rcases g3.slice with ⟨q1, q2⟩ | ⟨g, o', cap, e0, cur, q1, _⟩
    · exact nilGo_ok hn hs (A := none) (fun _ => List.eq_nil_of_length_eq_zero q2) (run _ _ _ (hxv.trans q1)) Q
    · exact nilGo_ok hn hs (A := some ⟨g, o', none⟩) (fun h => by cases h) (run _ _ _ (hxv.trans q1)) Q
  · cases hn

theorem trunc_ok (hT : TabOk P T) {t : Nat} {x h : Operand} (ho : op.op = .slice t x none (some h) none) {k e : Nat} {row : List Sh} {l : At} {kk : IntKind} {n : At} {K : St -> Tree} {rd : List Nat}
    (hn : den Φ (trunc T s t k e row l kk n op.dst K) env = some o) (hs : Sat cx M N env s a.tmps w) (hx : opnd s.sl x = .sl k) (hh : opnd s.sl h = .int kk n) (hg : getO s.hp k = some (.arr e row l)) (Q : Exit -> Act -> World -> Prop) : op.wp P a w (Cont Φ K o cx rd M N s w a.defers) Q := by
  unfold trunc at hn
  split at hn
  case h_2 => cases hn
  rename_i i hi
  obtain ⟨inf, d, z, h1, h2, h3, h4, h5, h6, h7, h8, h9⟩ := hT t i hi
  split at hn
  case h_2 => cases hn
  rename_i e' hd
  rw [hd] at h9
  have h9 : d = .slice e' := h9
  subst h9
  split at hn
  case h_2 => cases hn
  rename_i ie hie
  obtain ⟨inf', d', z', q1, q2, q3, q4, q5, q6, q7, q8, q9⟩ := hT e' ie hie
  split at hn
  case h_2 => cases hn
  rename_i hok
  have hsm := (band hok).2
  have hok := (band hok).1
  obtain ⟨hc0, hn⟩ := check_ok hn
  obtain ⟨j, hj, hjl⟩ := den_upto hc0
  have hxv := hs.opnd x
  rw [hx, svm] at hxv
  have hnv := int_ok hs hh
  have hob : shC w M (.arr e row) (.list (l.den env).toList) (N k).v (N k).φ := hs.objs k _ hg
  rw [shC] at hob
  obtain ⟨es, vals, X', g1, g2, g3, g4, g5, g6⟩ := hob
  have g3 := g3.own hsm
  cases g1
  obtain ⟨av, s2, ds, k1, k2, k3, k4, k5, k6, k7, k8⟩ := emit_ok hn hs
  split at k1
  case h_2 => cases k1
  rename_i hok2
  have hpd : (av.den (env ++ ds)).toList = (l.den env).toList.take j := by
    rw [k3.2.2.2]
    simp [Prim.den, dens, Cell.den, ci, cl, hj]
  generalize hes : (l.den env).toList = es at hjl g2 g3 g4 g6 hpd
  -- the value
  obtain ⟨A, c, hv, hcc, hrow⟩ : ∃ A c, (N k).v = .slice A es.length c /\ es.length <= c /\ (w.ownsRow 0 e row.length (.slice A j c) j (vals.take (j * row.length))) := by
    have hl := g3.1
    have hle : j * row.length <= es.length * row.length := Nat.mul_le_mul_right _ hjl
    rcases g3.2 with ⟨p1, p2⟩ | ⟨g, cap, cur, p1, p0, p3, p4, p5, p6, p7⟩
    · have hj0 : j = 0 := by omega
      subst hj0
      exact ⟨none, 0, by rw [p1, p2], by omega, by simp, .inl ⟨rfl, rfl⟩⟩
    · refine ⟨_, cap, p1, p4, by rw [List.length_take]; omega, .inr ⟨g, cap, cur, rfl, p0, p3, by omega, p5, p6, ?_⟩⟩
      rw [<- p7, List.take_take, Nat.min_eq_left hle]
  have hrun := run_cut_hi (P := P) (A := A) (len := es.length) (cap := c) (k := kk) (h := (n.den env).toInt) h2 q1 (by omega) (by omega)
  rw [add_nil A, ite_self, hj, Int.toNat_natCast] at hrun
  have hrun' : (execOp a.eval op).run P w = .ok (.value (.slice A j c)) w := by
    simp [execOp, ho, hxv, hv, hnv, hj, hrun w]
  -- what is owned
  have hsp : es = es.take j ++ es.drop j := (List.take_append_drop _ _).symm
  rw [hsp] at g4
  obtain ⟨X1, X2, rfl, g7, g8⟩ := rowsP_split g4
  have hX1 : rowsP (shR w M row) row.length (es.take j) (vals.take (j * row.length)) X1 := by
    refine rowsP_prefix g7 ?_
    have : (es.take j).length = j := by rw [List.length_take]; omega
    rw [this, List.take_take, Nat.min_self]
  let ki : KI := ⟨.slice A j c, [], [], 0, (blk (N k).v).toList ++ X1⟩
  have hsub : ∀ b ∈ ki.φ, b ∈ (N k).φ := fun b hb => by
    rw [g2]
    rcases List.mem_append.1 hb with h | h
    · exact List.mem_append_left _ h
    · exact List.mem_append_right _ (List.mem_append_left _ h)
  have hnd : ki.φ.Nodup := by
    have := hs.nodup k _ hg
    rw [g2, <- List.append_assoc] at this
    exact (List.nodup_append.1 this).1
  obtain ⟨o1, o2, o3⟩ := St.ok_parts hok2
  have hg2 : getO s2.hp k = some (.arr e row l) := by rw [k5]; exact hg
  have hkl : k < s2.nx := Nat_blt (hpAll_get o2 hg2).1
  let s3 : St := { s2 with hp := remO s2.hp k }
  have hs3 : Sat cx M N (env ++ ds) s3 a.tmps w := k2.less fun _ _ hj => (getO_rem_of hj).1
  have hjoin := hs3.joinO (N' := newN N s2.nx ki) (objs := [(s2.nx, .arr e row av)]) (nx := s2.nx + 1) (X := ki.φ) (St.ok_rem hok2 k)
    (fun k' hk' => KI.same.of (newN_old N ki (Nat_blt hk'))) (fun k' o' hg' => newN_old N ki (Nat_blt (hpAll_get o2 (getO_rem_of hg').1).1))
    (fun k' o' hg' => by
      rw [getO_cons] at hg'
      split at hg'
      case isFalse => cases hg'
      rename_i ek; subst ek
      simp only [Option.some.injEq] at hg'; subst hg'
      rw [newN_new]
      refine ⟨?_, hnd, fun b hb => hb⟩
      rw [obm, newN_new, shC, hpd]
      refine ⟨_, vals.take (j * row.length), X1, rfl, ?_, ?_, hX1, g5, by rw [List.length_take]; omega⟩
      · show (blk (N k).v).toList ++ X1 = (blk (.slice A j c)).toList ++ X1
        rw [hv]; cases A <;> rfl
      · have : (es.take j).length = j := by rw [List.length_take]; omega
        rw [this]; exact .inl hrow)
    (fun b hb => by
      have hb' := hsub b hb
      have hap := hs.apart k _ b hg hb'
      refine ⟨hap.1, hap.2, hs.blt k _ b hg hb', fun k' o' hg' hb2 => ?_⟩
      obtain ⟨p1, p2⟩ := getO_rem_of hg'
      rw [k5] at p1
      exact p2 (hs.dist k' k o' _ b p1 hg hb2 hb'))
    (fun k1' k2' o1' o2' b h1 h2 _ _ => by
      rw [getO_cons] at h1 h2
      split at h1
      · split at h2
        · omega
        · cases h2
      · cases h1)
  refine wp_value hrun' ⟨_, env ++ ds, M, newN N s2.nx ki, k1, ?_, (put_eq a op.dst _).2, fun _ _ => rfl, fun k' _ vs' hg' => ⟨KI.same.of (newN_old N ki ?_), fun _ _ => rfl⟩⟩
  · rw [(put_eq a op.dst _).1]
    refine hjoin.put op.dst ?_
    rw [svm, newN_new]
  · rw [<- k5] at hg'
    exact Nat_blt (hpAll_get o2 hg').1

theorem cutOwn_ok (hT : TabOk P T) {t : Nat} {x h : Operand} (ho : op.op = .slice t x (some h) none none) {k e : Nat} {row : List Sh} {l : At} {kk : IntKind} {n : At} {K : St -> Tree} {rd : List Nat}
    (hn : den Φ (cutOwn T s t k e row l kk n op.dst K) env = some o) (hs : Sat cx M N env s a.tmps w) (hx : opnd s.sl x = .sl k) (hh : opnd s.sl h = .int kk n) (hg : getO s.hp k = some (.arr e row l)) (Q : Exit -> Act -> World -> Prop) : op.wp P a w (Cont Φ K o cx rd M N s w a.defers) Q := by
  unfold cutOwn at hn
  split at hn
  case h_2 => cases hn
  rename_i i hi
  obtain ⟨inf, d, z, h1, h2, h3, h4, h5, h6, h7, h8, h9⟩ := hT t i hi
  split at hn
  case h_2 => cases hn
  rename_i e' hd
  rw [hd] at h9
  have h9 : d = .slice e' := h9
  subst h9
  split at hn
  case h_2 => cases hn
  rename_i ie hie
  obtain ⟨inf', d', z', q1, q2, q3, q4, q5, q6, q7, q8, q9⟩ := hT e' ie hie
  split at hn
  case h_2 => cases hn
  rename_i hok hrl
  have hrl := beqN hrl
  have hsm := (band hok).2
  have hok := (band hok).1
  obtain ⟨hc0, hn⟩ := check_ok hn
  obtain ⟨j, hj, hjl⟩ := den_upto hc0
  have hxv := hs.opnd x
  rw [hx, svm] at hxv
  have hnv := int_ok hs hh
  have hob : shC w M (.arr e row) (.list (l.den env).toList) (N k).v (N k).φ := hs.objs k _ hg
  rw [shC] at hob
  obtain ⟨es, vals, X', g1, g2, g3, g4, g5, g6⟩ := hob
  have g3 := g3.own hsm
  cases g1
  obtain ⟨av, s2, ds, k1, k2, k3, k4, k5, k6, k7, k8⟩ := emit_ok hn hs
  split at k1
  case h_2 => cases k1
  rename_i hok2
  have hpd : (av.den (env ++ ds)).toList = (l.den env).toList.drop j := by
    rw [k3.2.2.2]
    simp [Prim.den, dens, Cell.den, ci, cl, hj]
  generalize hes : (l.den env).toList = es at hjl g2 g3 g4 g6 hpd
  -- the value
  have hl := g3.1
  have hle : j * row.length <= es.length * row.length := Nat.mul_le_mul_right _ hjl
  obtain ⟨A, c, hv, hcc, hrow⟩ : ∃ A c, (N k).v = .slice A es.length c /\ es.length <= c /\ Ow w (BIG + e) row.length (.slice (if c = j then A else A.map (·.add (j * inf'.size))) (es.length - j) (c - j)) (es.length - j) (vals.drop (j * row.length)) := by
    have hdl : (vals.drop (j * row.length)).length = (es.length - j) * row.length := by rw [List.length_drop, hl, Nat.sub_mul]
    rcases g3.2 with ⟨p1, p2⟩ | ⟨g, cap, cur, p1, p0, p3, p4, p5, p6, p7⟩
    · have hj0 : j = 0 := by omega
      subst hj0
      exact ⟨none, 0, by rw [p1, p2], by omega, .inr ⟨e, rfl, hdl, .inl ⟨by simp [p2], by omega⟩⟩⟩
    · have hcl : j * row.length <= cap * row.length := Nat.mul_le_mul_right _ (by omega)
      refine ⟨_, cap, p1, p4, .inr ⟨e, rfl, hdl, .inr ?_⟩⟩
      by_cases hcj : cap = j
      · refine ⟨g, 0, cap - j, e, cur, by rw [if_pos hcj], p3, by omega, by omega, by rw [hcj]; simp, ?_⟩
        have : es.length = j := by omega
        rw [this, Nat.sub_self, Nat.zero_mul, List.take_zero, List.drop_eq_nil_of_le (by rw [hl, this]; exact Nat.le_refl _)]
      · refine ⟨g, j * row.length, cap - j, e, cur, ?_, p3, by omega, by omega, by rw [Nat.sub_mul, p6]; omega, ?_⟩
        · rw [if_neg hcj, <- hrl, q3]
          simp only [Option.map_some, add_zero, Nat.zero_add]
        · rw [<- p7, List.drop_take, Nat.sub_mul]
  have hrun := run_cut_lo (P := P) (A := A) (len := es.length) (cap := c) (k := kk) (l := (n.den env).toInt) h2 q1 (by omega) (by omega)
  rw [hj, Int.toNat_natCast] at hrun
  have hrun' : (execOp a.eval op).run P w = .ok (.value (.slice (if c = j then A else A.map (·.add (j * inf'.size))) (es.length - j) (c - j))) w := by
    simp [execOp, ho, hxv, hv, hnv, hj, hrun w]
  -- what is owned
  have hsp : es = es.take j ++ es.drop j := (List.take_append_drop _ _).symm
  rw [hsp] at g4
  obtain ⟨X1, X2, rfl, g7, g8⟩ := rowsP_split g4
  have hX1 : rowsP (shR w M row) row.length (es.drop j) (vals.drop (j * row.length)) X2 := by
    have : (es.take j).length = j := by rw [List.length_take]; omega
    rw [this] at g8; exact g8
  let ki : KI := ⟨.slice (if c = j then A else A.map (·.add (j * inf'.size))) (es.length - j) (c - j), [], [], 0, (blk (N k).v).toList ++ X2⟩
  have hsub : ∀ b ∈ ki.φ, b ∈ (N k).φ := fun b hb => by
    rw [g2]
    rcases List.mem_append.1 hb with h | h
    · exact List.mem_append_left _ h
    · exact List.mem_append_right _ (List.mem_append_right _ h)
  have hnd : ki.φ.Nodup := by
    have := hs.nodup k _ hg
    rw [g2] at this
    obtain ⟨n1, n2, n3⟩ := List.nodup_append.1 this
    exact List.nodup_append.2 ⟨n1, (List.nodup_append.1 n2).2.1, fun x hx y hy => n3 x hx y (List.mem_append_right _ hy)⟩
  obtain ⟨o1, o2, o3⟩ := St.ok_parts hok2
  have hg2 : getO s2.hp k = some (.arr e row l) := by rw [k5]; exact hg
  have hkl : k < s2.nx := Nat_blt (hpAll_get o2 hg2).1
  let s3 : St := { s2 with hp := remO s2.hp k }
  have hs3 : Sat cx M N (env ++ ds) s3 a.tmps w := k2.less fun _ _ hj => (getO_rem_of hj).1
  have hjoin := hs3.joinO (N' := newN N s2.nx ki) (objs := [(s2.nx, .arr (BIG + e) row av)]) (nx := s2.nx + 1) (X := ki.φ) (St.ok_rem hok2 k)
    (fun k' hk' => KI.same.of (newN_old N ki (Nat_blt hk'))) (fun k' o' hg' => newN_old N ki (Nat_blt (hpAll_get o2 (getO_rem_of hg').1).1))
    (fun k' o' hg' => by
      rw [getO_cons] at hg'
      split at hg'
      case isFalse => cases hg'
      rename_i ek; subst ek
      simp only [Option.some.injEq] at hg'; subst hg'
      rw [newN_new]
      refine ⟨?_, hnd, fun b hb => hb⟩
      rw [obm, newN_new, shC, hpd]
      refine ⟨_, vals.drop (j * row.length), X2, rfl, ?_, ?_, hX1, g5, by rw [List.length_drop]; omega⟩
      · show (blk (N k).v).toList ++ X2 = (blk (.slice (if c = j then A else A.map (·.add (j * inf'.size))) (es.length - j) (c - j))).toList ++ X2
        rw [hv]
        have : blk (.slice (if c = j then A else A.map (·.add (j * inf'.size))) (es.length - j) (c - j)) = blk (.slice A es.length c) := by
          split
          · cases A <;> rfl
          · cases A with
            | none => rfl
            | some q =>
              show some (q.add (j * inf'.size)).block = some q.block
              unfold Addr.add; split <;> rfl
        rw [this]
      · rw [List.length_drop]; exact hrow)
    (fun b hb => by
      have hb' := hsub b hb
      have hap := hs.apart k _ b hg hb'
      refine ⟨hap.1, hap.2, hs.blt k _ b hg hb', fun k' o' hg' hb2 => ?_⟩
      obtain ⟨p1, p2⟩ := getO_rem_of hg'
      rw [k5] at p1
      exact p2 (hs.dist k' k o' _ b p1 hg hb2 hb'))
    (fun k1' k2' o1' o2' b h1 h2 _ _ => by
      rw [getO_cons] at h1 h2
      split at h1
      · split at h2
        · omega
        · cases h2
      · cases h1)
  refine wp_value hrun' ⟨_, env ++ ds, M, newN N s2.nx ki, k1, ?_, (put_eq a op.dst _).2, fun _ _ => rfl, fun k' _ vs' hg' => ⟨KI.same.of (newN_old N ki ?_), fun _ _ => rfl⟩⟩
  · rw [(put_eq a op.dst _).1]
    refine hjoin.put op.dst ?_
    rw [svm, newN_new]
  · rw [<- k5] at hg'
    exact Nat_blt (hpAll_get o2 hg').1

theorem keyI_ok (hT : TabOk P T) {t e : Nat} (h : keyI T t = some e) : ∃ kt, P.underlying t = some (.map kt e) /\ P.underlying kt = some (.int .i64) := by
  unfold keyI at h
  split at h
  case h_2 => cases h
  rename_i i hi
  split at h
  case h_2 => cases h
  rename_i kt e' hd
  split at h
  case h_2 => cases h
  rename_i ik hik
  split at h
  case h_2 => cases h
  rename_i hd2
  simp only [Option.some.injEq] at h; subst h
  obtain ⟨inf, d, z, h1, h2, h3, h4, h5, h6, h7, h8, h9⟩ := hT t i hi
  obtain ⟨inf', d', z', q1, q2, q3, q4, q5, q6, q7, q8, q9⟩ := hT kt ik hik
  rw [hd] at h9
  rw [hd2] at q9
  have h9 : d = .map kt e' := h9
  have q9 : d' = .int .i64 := q9
  subst h9; subst q9
  exact ⟨kt, h2, q2⟩

theorem knownI_ok {M : Nat -> Prop} {R : Nat -> Prop} {N : Nm} : ∀ {vs : List SV} {l : List Int} {us : List Value}, knownI vs = some l -> svms w M R N env vs us -> us = l.map (Value.int .i64)
  | [], l, us, h, hs => by simp only [knownI, Option.some.injEq] at h; subst h; rw [svms] at hs; exact hs
  | x :: r, l, us, h, hs => by
    rw [svms] at hs
    obtain ⟨v, vs', rfl, h1, h2⟩ := hs
    unfold knownI at h
    split at h
    · rename_i e; cases e
    · rename_i z r' e
      simp only [List.cons.injEq] at e
      obtain ⟨rfl, rfl⟩ := e
      split at h
      case h_2 => cases h
      rename_i l' hl
      simp only [Option.some.injEq] at h; subst h
      rw [svm] at h1
      rw [List.map_cons, knownI_ok hl h2, h1]; rfl
    · cases h

theorem findNow_map (n : Int) : ∀ (es : List (Int × List Int)) (l : List MapEntry) (i : Nat), l.map (fun e => (e.key, e.val)) = es.map mapE ->
    Instr.findNow (.int .i64) (.int .i64 n) l i = some (match es.findIdx? fun p => n == p.1 with
      | some j => (es[j]?).map fun p => (i + j, (mapE p).2)
      | none => none)
  | [], l, i, h => by
    cases l with
    | nil => rfl
    | cons e l => cases h
  | p :: es, [], i, h => by cases h
  | p :: es, e :: l, i, h => by
    simp only [List.map_cons, List.cons.injEq] at h
    obtain ⟨h1, h2⟩ := h
    have hk : e.key = .int .i64 p.1 := congrArg Prod.fst h1
    have hv : e.val = (mapE p).2 := congrArg Prod.snd h1
    unfold Instr.findNow
    rw [hk]
    have hs : Instr.sameNow (.int .i64) (.int .i64 n) (.int .i64 p.1) = some (n == p.1) := by simp [Instr.sameNow]
    rw [hs]
    by_cases hn : n == p.1
    · rw [hn, hv]
      simp [List.findIdx?_cons, hn]
    · have hn' : (n == p.1) = false := by simpa using hn
      rw [hn']
      dsimp only
      rw [findNow_map n es l (i + 1) h2]
      simp only [List.findIdx?_cons, hn']
      cases hj : es.findIdx? fun p => n == p.1 with
      | none => rfl
      | some j => simp [Nat.add_assoc, Nat.add_comm 1 j]

theorem insertT_ok (hT : TabOk P T) {t : Nat} {m k x : Operand} (ho : op.op = .insert t m k x) {K : St -> Tree} {rd : List Nat}
    (hn : den Φ (insertT T rd s t (opnd s.sl m) (opnd s.sl k) (opnd s.sl x) op.dst K) env = some o) (hs : Sat cx M N env s a.tmps w) (Q : Exit -> Act -> World -> Prop) : op.wp P a w (Cont Φ K o cx rd M N s w a.defers) Q := by
  have hmv := hs.opnd m
  have hkv := hs.opnd k
  have hxv := hs.opnd x
  unfold insertT at hn
  split at hn
  case h_2 => cases hn
  rename_i key z vs hd hm hk hx
  split at hn
  case h_2 => cases hn
  rename_i es l e hg hl hke
  split at hn
  case h_2 => cases hn
  rename_i hw hno
  rw [hm, svm] at hmv
  rw [hk, svm] at hkv
  rw [hx, svm] at hxv
  obtain ⟨cs, hxv, hcs⟩ := hxv
  have hcs := knownI_ok hl hcs
  obtain ⟨kt, u1, u2⟩ := keyI_ok hT hke
  obtain ⟨b, ents, clock, g1, g2, g3, g4⟩ := hs.objs key _ hg
  have hkv : a.eval k = .int .i64 z := hkv
  have hmv : a.eval m = .map (some b) := hmv.trans g1
  have hfi : es.findIdx? (fun p => z == p.1) = none := by
    rw [List.findIdx?_eq_none_iff]
    intro p hp
    have := List.all_eq_true.1 hno p hp
    simp only [Bool.not_eq_true', decide_eq_false_iff_not] at this
    simpa using fun h => this h.symm
  have hfind := findNow_map z es ents.toList 0 g4
  rw [hfi] at hfind
  have hrun : (execOp a.eval op).run P w = .ok .skip { w with heap := w.heap.setIfInBounds b (.map (ents.push { key := .int .i64 z, val := .agg cs, born := clock }) (clock + 1)) } := by
    simp [execOp, ho, Instr.mapUpdate, run_underlying u1, hmv, hkv, hxv, MapKept.run_getObj_map g3, MapKept.run_checkKey u2 (k := .int .i64 z) rfl, MapKept.run_findKey u2 hfind, MapKept.run_setObj_map _ g3]
  have hbl : b < w.heap.size := hs.blt key _ b hg (by rw [g2]; simp)
  have hoth : ∀ b', b' ≠ b -> ({ w with heap := w.heap.setIfInBounds b (.map (ents.push { key := .int .i64 z, val := .agg cs, born := clock }) (clock + 1)) } : World).heap[b']? = w.heap[b']? := fun b' hb' => by
    simp [Array.getElem?_setIfInBounds, Ne.symm hb']
  refine wp_skipped hrun ⟨_, env, M, N, hn, ?_, (put_eq a op.dst undef).2, Fr.write hs hw hg (by rw [g2]; simp) fun b' hb' => hoth b' hb'⟩
  rw [(put_eq a op.dst undef).1, hd]
  refine hs.write hg (by rw [g2]; simp : b ∈ (N key).φ) rfl rfl rfl (by simp) (fun b' hb' _ => hoth b' hb') ?_
  refine ⟨b, ents.push { key := .int .i64 z, val := .agg cs, born := clock }, clock + 1, g1, g2, by simp [Array.getElem?_setIfInBounds, hbl], ?_⟩
  rw [Array.toList_push, List.map_append, g4, List.map_append]
  simp only [List.map_cons, List.map_nil, mapE]
  rw [<- hcs, Array.toArray_toList]

theorem lookI_of (n : Int) (i : Nat) : ∀ es : List (Int × List Int), lookI (colI i es) n = match es.findIdx? fun p => n == p.1 with
      | some j => ((es[j]?).map fun p => p.2.getD i 0).getD 0
      | none => 0
  | [] => rfl
  | p :: es => by
    have ih := lookI_of n i es
    simp only [colI, List.map_cons, lookI, List.findIdx?_cons]
    by_cases h : n == p.1
    · simp [h]
    · have h' : (n == p.1) = false := by simpa using h
      rw [h']
      simp only [colI] at ih
      simp only [Bool.false_eq_true, if_false, ih]
      cases hj : es.findIdx? fun p => n == p.1 with
      | none => rfl
      | some j => simp

theorem two_of {l : List Int} (h : l.length = 2) : l = [l.getD 0 0, l.getD 1 0] := by
  match l, h with
  | [x, y], _ => rfl

theorem lookupT_ok (hT : TabOk P T) {t : Nat} {m ix : Operand} (ho : op.op = .lookup t m ix true) {K : St -> Tree} {rd : List Nat}
    (hn : den Φ (lookupT T s t (opnd s.sl m) (opnd s.sl ix) op.dst K) env = some o) (hs : Sat cx M N env s a.tmps w) (Q : Exit -> Act -> World -> Prop) : op.wp P a w (Cont Φ K o cx rd M N s w a.defers) Q := by
  have hmv := hs.opnd m
  have hkv := hs.opnd ix
  unfold lookupT at hn
  split at hn
  case h_2 => cases hn
  rename_i key n e hm hk hke
  split at hn
  case h_2 => cases hn
  rename_i es ie hg hie
  split at hn
  case h_2 => cases hn
  rename_i hz htwo hok
  rw [hm, svm] at hmv
  rw [hk, svm] at hkv
  obtain ⟨kt, u1, u2⟩ := keyI_ok hT hke
  obtain ⟨b, ents, clock, g1, g2, g3, g4⟩ := hs.objs key _ hg
  have hmv : a.eval m = .map (some b) := hmv.trans g1
  obtain ⟨inf, d, z, q1, q2, q3, q4, q5, q6, q7, q8, q9⟩ := hT e ie hie
  have hzz : z = .agg #[.int .i64 0, .int .i64 0] := by
    rw [hz] at q8
    have hlen := congrArg List.length q8
    simp at hlen
    have hag : ∃ cs, z = .agg cs := by
      cases z <;> first | exact ⟨_, rfl⟩ | (simp [Value.cells] at hlen)
    obtain ⟨cs, rfl⟩ := hag
    have hc : ∀ v : Value, .int .i64 (.n 0) = ofConst v -> v = .int .i64 0 := by
      intro v hv
      unfold ofConst at hv
      split at hv <;> cases hv
      rfl
    obtain ⟨l⟩ := cs
    simp only [Value.cells] at q8 hlen
    match l, q8 with
    | [x, y], q8 =>
      simp only [List.map_cons, List.map_nil, List.cons.injEq, and_true] at q8
      rw [hc x q8.1, hc y q8.2]
  have hfind := findNow_map (n.den env).toInt es ents.toList 0 g4
  generalize hnn : (n.den env).toInt = nn at *
  have hall : ∀ p ∈ es, p.2.length = 2 := fun p hp => of_decide_eq_true (List.all_eq_true.1 htwo p hp)
  have hrun : (execOp a.eval op).run P w = .ok (.value (.tuple #[.agg #[.int .i64 (lookI (colI 0 es) nn), .int .i64 (lookI (colI 1 es) nn)], .bool ((es.map (·.1)).any fun k => nn == k)])) w := by
    have hany : ((es.map (·.1)).any fun k => nn == k) = (es.findIdx? fun p => nn == p.1).isSome := by
      rw [List.any_map]
      cases hj : es.findIdx? fun p => nn == p.1 with
      | none =>
        rw [List.findIdx?_eq_none_iff] at hj
        simpa using hj
      | some j =>
        have hlt : j < es.length := (List.findIdx?_eq_some_iff_findIdx_eq.1 hj).1
        have hq := (List.findIdx?_eq_some_iff_findIdx_eq.1 hj).2
        refine List.any_eq_true.2 ⟨es[j], List.getElem_mem hlt, ?_⟩
        have := List.findIdx_getElem (xs := es) (p := fun p => nn == p.1) (w := by rw [hq]; exact hlt)
        simpa [hq] using this
    rw [hany, lookI_of, lookI_of]
    cases hj : es.findIdx? fun p => nn == p.1 with
    | none =>
      rw [hj] at hfind
      simp [execOp, ho, Instr.lookup, run_underlying u1, hmv, hkv, MapKept.run_getObj_map g3, MapKept.run_checkKey u2 (k := .int .i64 nn) rfl, MapKept.run_findKey u2 hfind, zeroValue, typeInfo, q1, q6, hzz]
    | some j =>
      rw [hj] at hfind
      have hlt : j < es.length := (List.findIdx?_eq_some_iff_findIdx_eq.1 hj).1
      have hp := hall _ (List.getElem_mem hlt)
      have h2 := two_of hp
      simp only [List.getElem?_eq_getElem hlt, Option.map_some] at hfind
      have hm2 : (mapE es[j]).2 = .agg #[.int .i64 (es[j].2.getD 0 0), .int .i64 (es[j].2.getD 1 0)] := by
        unfold mapE
        dsimp only
        rw [h2]; rfl
      rw [hm2] at hfind
      simp [execOp, ho, Instr.lookup, run_underlying u1, hmv, hkv, MapKept.run_getObj_map g3, MapKept.run_checkKey u2 (k := .int .i64 nn) rfl, MapKept.run_findKey u2 hfind, List.getElem?_eq_getElem hlt]
  rw [den, den, den] at hn
  have hnl : s.nv = env.length := hs.nv
  have hcell : ∀ ds : List C, (ci .i64 n).den (env ++ ds) = .int .i64 nn := fun ds => by
    have hno : n.all (fun i => Nat.blt i s.nv) = true := by
      have := all_opnd hok ix
      rw [hk] at this; exact this
    have hV : ∀ i, Nat.blt i s.nv = true -> getC (env ++ ds) i = getC env i := fun i hi => getC_append (by rw [<- hs.nv]; exact Nat_blt hi)
    simp only [Cell.den, ci, At.den_all hV n hno, hnn]
  have hc0 := hcell []
  rw [List.append_nil] at hc0
  simp only [dens, hc0, List.append_assoc, hcell, List.cons_append, List.nil_append] at hn
  refine gives (hs.more hok [(Prim.tab (colI 0 es)).den [.int .i64 nn], (Prim.tab (colI 1 es)).den [.int .i64 nn], (Prim.has (es.map (·.1))).den [.int .i64 nn]]) hrun ?_ hn Q
  rw [svm]
  refine ⟨_, rfl, ?_⟩
  rw [svms]
  refine ⟨_, _, rfl, ?_, ?_⟩
  · rw [svm]
    refine ⟨_, rfl, ?_⟩
    rw [svms]
    refine ⟨_, _, rfl, ?_, ?_⟩
    · rw [svm, hnl]
      have := getC_right env [(Prim.tab (colI 0 es)).den [.int .i64 nn], (Prim.tab (colI 1 es)).den [.int .i64 nn], (Prim.has (es.map (·.1))).den [.int .i64 nn]] 0
      simp only [At.den]; rw [show env.length = env.length + 0 from rfl, this]; rfl
    · rw [svms]
      refine ⟨_, _, rfl, ?_, by rw [svms]⟩
      rw [svm, hnl]
      have := getC_right env [(Prim.tab (colI 0 es)).den [.int .i64 nn], (Prim.tab (colI 1 es)).den [.int .i64 nn], (Prim.has (es.map (·.1))).den [.int .i64 nn]] 1
      simp only [At.den]; rw [this]; rfl
  · rw [svms]
    refine ⟨_, _, rfl, ?_, by rw [svms]⟩
    rw [svm, hnl]
    have := getC_right env [(Prim.tab (colI 0 es)).den [.int .i64 nn], (Prim.tab (colI 1 es)).den [.int .i64 nn], (Prim.has (es.map (·.1))).den [.int .i64 nn]] 2
    simp only [At.den]; rw [this]; rfl

theorem dOp_ok {G : Env} (hG : EnvOk P G Φ) {K : St -> Tree} {rd : List Nat} (hn : den Φ (dOp G op s rd K) env = some o) (hs : Sat cx M N env s a.tmps w) (Q : Exit -> Act -> World -> Prop) : op.wp P a w (Cont Φ K o cx rd M N s w a.defers) Q := by
  have nfs : den Φ ((nf G.T G.eqn s op.op).tree s op.dst K) env = some o -> op.wp P a w (Cont Φ K o cx rd M N s w a.defers) Q := fun h => nf_step hG.tab hG.eq h hs Q
  unfold dOp at hn
  split at hn
  · rename_i t x y ho
    split at hn
    case h_2 => cases hn
    rename_i i hd hi
    split at hn
    · rename_i k off hx
      split at hn
      case h_2 => cases hn
      rename_i vs hg hm
      exact stCells_ok hG.tab hi ho hd hm hn hs hx hg Q
    · rename_i k sz j off hx
      split at hn
      · rename_i e row l ii vs hg hm
        split at hn
        case h_2 => cases hn
        rename_i hsz
        exact stFoc_ok hG.tab hi ho hd hm (beqN hsz) hn hs hx hg Q
      · rename_i e row l hg hm
        split at hn
        case h_2 => cases hn
        rename_i hsz
        exact stArr_ok hG.tab hi ho hd hm (beqN hsz) hn hs hx hg Q
      · cases hn
    · cases hn
  · rename_i t len parts ho
    exact buildSl_ok hG.tab ho hn hs Q
  · rename_i t m k x ho
    exact insertT_ok hG.tab ho hn hs Q
  · rename_i t m ix ho
    exact lookupT_ok hG.tab ho hn hs Q
  · rename_i t x y ho
    exact makeSl_ok hG.tab ho hn hs Q
  · rename_i t x ho
    rw [<- ho] at hn
    split at hn
    · rename_i k sz j off hx
      split at hn
      · rename_i e row l ii vs i hg hi
        exact ldFoc_ok hG.tab hi ho hn hs hx hg Q
      · exact nfs hn
    · exact nfs hn
  · rename_i t x lo hi mx ho
    rw [<- ho] at hn
    split at hn
    · rename_i h k hx
      split at hn
      · rename_i e row l kk n hg hh
        exact trunc_ok hG.tab ho hn hs hx hh hg Q
      · cases hn
    · rename_i h k hx
      split at hn
      · rename_i e row l kk n hg hh
        exact cutOwn_ok hG.tab ho hn hs hx hh hg Q
      · cases hn
    · exact nfs hn
  · rename_i bop t x y u ho
    rw [<- ho] at hn
    split at hn
    · rename_i hy
      exact nilEq_ok hG.tab ho (.inl ⟨rfl, rfl⟩) hn hs hy Q
    · rename_i hy
      exact nilEq_ok hG.tab ho (.inr ⟨rfl, rfl⟩) hn hs hy Q
    · exact nfs hn
  · rename_i c ho
    split at hn
    · rename_i hc
      split at hn
      case h_2 => cases hn
      rename_i x y t t' hx ht
      split at hn
      case h_2 => cases hn
      rename_i hb
      have := beqN hb; subst this
      have e1 : c.args = #[x, y] := by apply Array.ext'; exact hx
      have e2 : c.argTypes = #[t, t] := by apply Array.ext'; exact ht
      refine app_step hG.tab (x := x) (y := y) (t := t) ?_ hn hs Q
      rw [ho]; congr 1
      cases c
      dsimp only at hc e1 e2
      rw [hc, e1, e2]
    · split at hn
      case h_2 => cases hn
      rename_i f xs hf
      split at hn
      case h_2 => cases hn
      rename_i fi con hc
      split at hn
      · exact callL_step ho (hG.has f _ (pickCon_mem hc)) hf hn hs Q
      · exact call_step ho (hG.has f _ (pickCon_mem hc)) hf hn hs Q
    · rw [<- ho] at hn; exact nfs hn
  · exact nfs hn
end
end Dx

