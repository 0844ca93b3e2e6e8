import Derived.Test.YtahfbeiobndhkaaGreatXa
import Derived.ArgAppend
import Derived.Laws.MakeOwn
set_option linter.all false
namespace Dx
open Go
inductive Tree where
 | fail
 | ret (xs:List Cell)
 | jump (xs:List Cell)
 | up (t:Tree)
 | letp (p:Prim) (args:List Cell) (t:Tree)
 | chk (p:Prim) (args:List Cell) (t:Tree)
 | ite (a:At) (t e:Tree)
 | row (l i:At) (ks:List CK) (t:Tree)
 | call (f:Nat) (args:List Cell) (ks:List CK) (t:Tree)
 | iter (init:List Cell) (body:Tree)
 | join (ks:List CK) (body k:Tree)
 | both (t u:Tree)
inductive Out where
 | ret (cs:List C)
 | jump (cs:List C)
 | up (o:Out)
abbrev Phi:=Nat->List C->Option (List C)
def ai(b:Bool)(k:Option Out):Option Out:=match b with
 | true=>k
 | false=>none
def ae(b:Bool)(t e:Option Out):Option Out:=match b with
 | true=>t
 | false=>e
def CK.of:CK->C->C
 | .int k,c=>.int k c.toInt
 | .bool,c=>.bool c.toBool
 | .str,c=>.str c.toStr
 | .list,c=>.list c.toList
 | .hole,_=>.hole
def gK(r:List C):Nat->List CK->List C
 | _,[]=>[]
 | i,k::ks=>k.of (aa r i)::gK r (i+1) ks
def aE(l i:C)(ks:List CK)(k:List C->Option Out):Option Out:=match i.toInt with
 | .ofNat j=>match l.toList[j]? with
  | some r=>ai (ak ks r) (k (gK r 0 ks))
  | none=>none
 | .negSucc _=>none
def ac(r:Option (List C))(ks:List CK)(k:List C->Option Out):Option Out:=match r with
 | some cs=>ai (ak ks cs) (k (gK cs 0 ks))
 | none=>none
def upD:Option Out->Option Out
 | some o=>some (.up o)
 | none=>none
def bi(r:Option Out)(k:List C->Option Out):Option Out:=match r with
 | some (.jump ps)=>k ps
 | some (.up o)=>some o
 | _=>none
open Classical in
noncomputable def cf(t u:Option Out):Option Out:=if t=u then t else none
def ig(F:List C->Option Out):Nat->List C->Option Out
 | 0,_=>none
 | n+1,p=>bi (F p) (ig F n)
open Classical in
noncomputable def aI(F:List C->Option Out)(p:List C):Option Out :=
 if h:∃ n o,ig F n p=some o then some (Classical.choose (Classical.choose_spec h)) else none
theorem jF{F:List C->Option Out}:∀ {n m:Nat} {p:List C} {o:Out},n<=m->ig F n p=some o->ig F m p=some o
 | 0,_,_,_,_,h=>by cases h
 | n+1,0,_,_,hle,_=>by omega
 | n+1,m+1,p,o,hle,h=>by
  simp only[ig]at h ⊢
  cases hF:F p with
  | none=>rw[hF]at h;cases h
  | some x =>
   rw[hF]at h
   cases x with
   | ret cs=>cases h
   | jump ps=>exact jF (by omega) h
   | up o'=>exact h
theorem pd{F:List C->Option Out}{n:Nat}{p:List C}{o:Out}(h:ig F n p=some o):aI F p=some o:=by
 have hh:∃ n o,ig F n p=some o:=⟨n,o,h⟩
 unfold aI
 rw[dif_pos hh]
 have:=Classical.choose_spec (Classical.choose_spec hh)
 have h1:=jF (Nat.le_max_left n (Classical.choose hh)) h
 have h2:=jF (Nat.le_max_right n (Classical.choose hh)) this
 rw[h1]at h2
 exact h2.symm
theorem jG{F:List C->Option Out}{p:List C}{o:Out}(h:aI F p=some o):∃ n,ig F n p=some o:=by
 unfold aI at h
 split at h
 ·rename_i hh
  simp only[Option.some.injEq]at h
  have:=Classical.choose_spec (Classical.choose_spec hh)
  rw[h]at this
  exact⟨_,this⟩
 ·cases h
theorem kQ(F:List C->Option Out)(p:List C):aI F p=bi (F p) (aI F):=by
 cases hj:bi (F p) (aI F)with
 | some o =>
  unfold bi at hj
  split at hj
  ·rename_i ps hF
   obtain⟨n,hn⟩:=jG hj
   exact pd (n:=n+1) (by simp only[ig,hF,bi];exact hn)
  ·rename_i o' hF
   exact pd (n:=1) (by simp only[ig,hF,bi];exact hj)
  ·cases hj
 | none =>
  cases hi:aI F p with
  | none=>rfl
  | some o =>
   obtain⟨n,hn⟩:=jG hi
   cases n with
   | zero=>cases hn
   | succ n =>
    simp only[ig]at hn
    unfold bi at hn hj
    split at hn
    ·rename_i ps hF
     rw[hF]at hj
     dsimp only at hj
     rw[pd hn]at hj;cases hj
    ·rename_i o' hF
     rw[hF]at hj;cases hj
    ·cases hn
def c8:List Cell->List CK
 | []=>[]
 | x::xs=>x.k::c8 xs
noncomputable def den(Φ:Phi):Tree->List C->Option Out
 | .fail,_=>none
 | .ret xs,env=>some (.ret (aK env xs))
 | .jump xs,env=>some (.jump (aK env xs))
 | .up t,env=>upD (den Φ t env)
 | .letp p args t,env=>den Φ t (env++[p.den (aK env args)])
 | .chk p args t,env=>ai (p.den (aK env args)).toBool (den Φ t env)
 | .ite a t e,env=>ae (a.den env).toBool (den Φ t env) (den Φ e env)
 | .row l i ks t,env=>aE (l.den env) (i.den env) ks fun r=>den Φ t (env++r)
 | .call f args ks t,env=>ac (Φ f (aK env args)) ks fun r=>den Φ t (env++r)
 | .iter init body,env=>aI (fun ps=>den Φ body (env++gK ps 0 (c8 init))) (aK env init)
 | .join ks body k,env=>bi (den Φ body env) fun ps=>den Φ k (env++gK ps 0 ks)
 | .both t u,env=>cf (den Φ t env) (den Φ u env)
theorem jH{b:Bool}{k:Option Out}{o:Out}(h:ai b k=some o):b=true/\k=some o:=by
 cases b with
 | true=>exact⟨rfl,h⟩
 | false=>cases h
def Tree.beq:Tree->Tree->Bool
 | .fail,.fail=>true
 | .ret xs,.ret ys=>decide (xs=ys)
 | .jump xs,.jump ys=>decide (xs=ys)
 | .up t,.up u=>t.beq u
 | .letp p xs t,.letp q ys u=>match decide (p=q),decide (xs=ys)with
  | true,true=>t.beq u
  | _,_=>false
 | .chk p xs t,.chk q ys u=>match decide (p=q),decide (xs=ys)with
  | true,true=>t.beq u
  | _,_=>false
 | .ite a t e,.ite b u f=>match decide (a=b),t.beq u with
  | true,true=>e.beq f
  | _,_=>false
 | .row l i ks t,.row m j ls u=>match decide (l=m),decide (i=j),decide (ks=ls)with
  | true,true,true=>t.beq u
  | _,_,_=>false
 | .call f xs ks t,.call g ys ls u=>match Nat.beq f g,decide (xs=ys),decide (ks=ls)with
  | true,true,true=>t.beq u
  | _,_,_=>false
 | .iter xs t,.iter ys u=>match decide (xs=ys)with
  | true=>t.beq u
  | false=>false
 | .join ks t k,.join ls u l=>match decide (ks=ls),t.beq u with
  | true,true=>k.beq l
  | _,_=>false
 | .both t k,.both u l=>match t.beq u with
  | true=>k.beq l
  | false=>false
 | _,_=>false
theorem Tree.beq_ok:∀ {t u:Tree},t.beq u=true->t=u:=by
 intro t
 induction t with
 | fail=>intro u h;cases u<;>simp_all [Tree.beq]
 | ret xs=>intro u h;cases u<;>simp_all [Tree.beq]
 | jump xs=>intro u h;cases u<;>simp_all [Tree.beq]
 | up t ih=>intro u h;cases u<;>simp only[Tree.beq,Bool.false_eq_true]at h;rw[ih h]
 | letp p xs t ih =>
  intro u h;cases u<;>simp only[Tree.beq,Bool.false_eq_true]at h
  split at h
  ·rename_i e1 e2;rw[of_decide_eq_true e1,of_decide_eq_true e2,ih h]
  ·cases h
 | chk p xs t ih =>
  intro u h;cases u<;>simp only[Tree.beq,Bool.false_eq_true]at h
  split at h
  ·rename_i e1 e2;rw[of_decide_eq_true e1,of_decide_eq_true e2,ih h]
  ·cases h
 | ite a t e ih1 ih2 =>
  intro u h;cases u<;>simp only[Tree.beq,Bool.false_eq_true]at h
  split at h
  ·rename_i e1 e2;rw[of_decide_eq_true e1,ih1 e2,ih2 h]
  ·cases h
 | row l i ks t ih =>
  intro u h;cases u<;>simp only[Tree.beq,Bool.false_eq_true]at h
  split at h
  ·rename_i e1 e2 e3;rw[of_decide_eq_true e1,of_decide_eq_true e2,of_decide_eq_true e3,ih h]
  ·cases h
 | call f xs ks t ih =>
  intro u h;cases u<;>simp only[Tree.beq,Bool.false_eq_true]at h
  split at h
  ·rename_i e1 e2 e3;rw[Nat.eq_of_beq_eq_true e1,of_decide_eq_true e2,of_decide_eq_true e3,ih h]
  ·cases h
 | iter xs t ih =>
  intro u h;cases u<;>simp only[Tree.beq,Bool.false_eq_true]at h
  split at h
  ·rename_i e1;rw[of_decide_eq_true e1,ih h]
  ·cases h
 | join ks t k ih1 ih2 =>
  intro u h;cases u<;>simp only[Tree.beq,Bool.false_eq_true]at h
  split at h
  ·rename_i e1 e2;rw[of_decide_eq_true e1,ih1 e2,ih2 h]
  ·cases h
 | both t k ih1 ih2 =>
  intro u h;cases u<;>simp only[Tree.beq,Bool.false_eq_true]at h
  split at h
  ·rename_i e1;rw[ih1 e1,ih2 h]
  ·cases h
def un(t u:Tree):Tree:=match t.beq u with
 | true=>t
 | false=>.both t u
theorem lZ{Φ:Phi}{t u:Tree}{env:List C}{o:Out}(h:den Φ (un t u) env=some o):den Φ t env=some o/\den Φ u env=some o:=by
 unfold un at h
 split at h
 ·rename_i e;rw[<-Tree.beq_ok e];exact⟨h,h⟩
 ·rw[den]at h
  unfold cf at h
  split at h
  ·rename_i e;exact⟨h,e ▸ h⟩
  ·cases h
theorem CK.of_kind{k:CK}{c:C}(h:fG k c=true):k.of c=c:=by
 cases k<;>cases c<;>simp only[fG,Bool.false_eq_true]at h<;>simp only[CK.of,C.toInt,C.toBool,C.toStr,C.toList]
 rw[cQ h]
theorem AA:∀ {ks:List CK} {p r:List C} {i:Nat},ak ks r=true->i=p.length->gK (p++r) i ks=r
 | [],p,r,i,h,_=>by
  have:=aJ h
  rw[gK,List.eq_nil_of_length_eq_zero this]
 | k::ks,p,[],i,h,_=>by simp[ak]at h
 | k::ks,p,c::r,i,h,hi=>by
  simp only[ak]at h
  split at h
  case h_2=>cases h
  rename_i h1
  have e1:aa (p++c::r) i=c:=by
   have:=bD p (c::r) 0
   rw[Nat.add_zero,<-hi]at this
   exact this
  have ih:=AA (p:=p++[c]) (r:=r) (i:=i+1) h (by simp[hi])
  rw[List.append_assoc,List.singleton_append]at ih
  rw[gK,e1,CK.of_kind h1,ih]
theorem gU{ks:List CK}{r:List C}(h:ak ks r=true):gK r 0 ks=r:=AA (p:=[]) h rfl
theorem iU{l i:C}{ks:List CK}{k:List C->Option Out}{o:Out}(h:aE l i ks k=some o):∃(j:Nat) (r:List C),i.toInt=(j:Nat)/\l.toList[j]?=some r/\ak ks r=true/\k r=some o:=by
 unfold aE at h
 split at h
 case h_2=>cases h
 rename_i j hj
 split at h
 case h_2=>cases h
 rename_i r hr
 obtain⟨h1,h2⟩:=jH h
 rw[gU h1]at h2
 exact⟨j,r,hj,hr,h1,h2⟩
theorem ot{r:Option (List C)}{ks:List CK}{k:List C->Option Out}{o:Out}(h:ac r ks k=some o):∃ cs,r=some cs/\ak ks cs=true/\k cs=some o:=by
 unfold ac at h
 split at h
 case h_2=>cases h
 rename_i cs
 obtain⟨h1,h2⟩:=jH h
 rw[gU h1]at h2
 exact⟨cs,rfl,h1,h2⟩
def At.lit:At->Bool
 | .v _=>false
 | _=>true
def lits:List Cell->Bool
 | []=>true
 | x::xs=>match x.a.lit with
  | true=>lits xs
  | false=>false
def BM(p:Prim)(args:List Cell):Option At :=
 match lits args with
 | true=>match p.den (aK [] args)with
  | .int _ n=>some (.n n)
  | .bool b=>some (.b b)
  | .str s=>some (.s s)
  | .list _=>none
  | .hole=>none
 | false=>none
def ou(s:St)(p:Prim)(args:List Cell)(f:At->St->Tree):Tree :=
 match BM p args with
 | some a=>f a s
 | none=>match s.ok with
  | true=>.letp p args (f (.v s.nv) {s with nv:=s.nv+1})
  | false=>.fail
def fH(p:Prim)(args:List Cell)(t:Tree):Tree :=
 match BM p args with
 | some (.b true)=>t
 | some _=>.fail
 | none=>.chk p args t
def sim(c d:C):Prop:=c.toInt=d.toInt/\c.toBool=d.toBool/\c.toStr=d.toStr/\c.toList=d.toList
theorem FM{a:At}(h:a.lit=true)(env env':List C):a.den env=a.den env':=by
 cases a<;>first|rfl|cases h
theorem rM:∀ {xs:List Cell},lits xs=true->∀ env env':List C,aK env xs=aK env' xs
 | [],_,_,_=>rfl
 | x::xs,h,env,env'=>by
  simp only[lits]at h
  split at h
  ·rename_i hx
   simp only[aK,rM h env env',Cell.den,FM hx env env']
  ·cases h
theorem vJ{p:Prim}{args:List Cell}{a:At}(h:BM p args=some a)(env:List C):sim (a.den env) (p.den (aK env args)):=by
 unfold BM at h
 split at h
 case h_2=>cases h
 rename_i hl
 rw[rM hl env []]
 split at h<;>simp only[Option.some.injEq,reduceCtorEq]at h<;>subst h<;>rename_i e<;>rw[e]<;>exact⟨rfl,rfl,rfl,rfl⟩
theorem VT.sim{w:World}{M R:Nat->Prop}{vt:VT}{c d:C}{v:Value}(hs:Dx.sim d c)(h:vt.m w M R c v):vt.m w M R d v:=by
 obtain⟨h1,h2,h3,h4⟩:=hs
 cases vt<;>simp only[VT.m]at h ⊢<;>first|rw[h1];exact h|rw[h2];exact h|rw[h3];exact h|rw[h4];exact h
section
variable {Φ:Phi} {cx:Ctx} {M:Nat->Prop} {N:Nm} {env:List C} {s:St} {tm:Array Value} {w:World} {o:Out}
theorem cF{p:Prim}{args:List Cell}{f:At->St->Tree}(h:den Φ (ou s p args f) env=some o)(hs:Sat cx M N env s tm w) :
  ∃ a s' ds,den Φ (f a s') (env++ds)=some o/\Sat cx M N (env++ds) s' tm w/\sim (a.den (env++ds)) (p.den (aK env args))/\s'.sl=s.sl/\s'.hp=s.hp/\s'.nx=s.nx/\s'.pk=s.pk/\(ds=[]/\s'=s\/s.ok=true/\s'={s with nv:=s.nv+ds.length}):=by
 unfold ou at h
 split at h
 ·rename_i a ha
  exact⟨a,s,[],by simpa using h,by simpa using hs,by simpa using vJ ha env,rfl,rfl,rfl,rfl,.inl ⟨rfl,rfl⟩⟩
 ·split at h
  case h_2=>cases h
  rename_i hok
  rw[den]at h
  refine⟨_,_,[_],h,hs.more hok _,?_,rfl,rfl,rfl,rfl,.inr ⟨hok,rfl⟩⟩
  have:=bD env [p.den (aK env args)] 0
  have e:aa (env++[p.den (aK env args)]) s.nv=p.den (aK env args):=by rw[hs.nv];simpa [aa] using this
  simp only[At.den]
  rw[e];exact⟨rfl,rfl,rfl,rfl⟩
theorem b9{p:Prim}{args:List Cell}{t:Tree}(h:den Φ (fH p args t) env=some o):(p.den (aK env args)).toBool=true/\den Φ t env=some o:=by
 unfold fH at h
 split at h
 ·rename_i ha
  have:=(vJ ha env).2.1
  exact⟨this.symm,h⟩
 ·cases h
 ·rw[den]at h;exact jH h
def Fr(rd:List Nat)(M:Nat->Prop)(N:Nm)(s:St)(w:World)(N':Nm)(w':World):Prop :=
 (∀ b,M b->w'.heap[b]?=w.heap[b]?)/\∀ k∈rd,∀ vs,ar s.hp k=some (.cells vs)->KI.same (N' k) (N k)/\∀ b∈(N k).φ,w'.heap[b]?=w.heap[b]?
theorem Fr.rfl'{rd:List Nat}{M:Nat->Prop}{N:Nm}{s:St}{w:World}:Fr rd M N s w N w:=⟨fun _ _=>rfl,fun _ _ _ _=>⟨KI.same.rfl' _,fun _ _=>rfl⟩⟩
def gh(Φ:Phi)(K:St->Tree)(o:Out)(cx:Ctx)(rd:List Nat)(M:Nat->Prop)(N:Nm)(s:St)(w:World)(ds:List Deferred)(a':Act)(w':World):Prop :=
 ∃ s' env' M' N',den Φ (K s') env'=some o/\Sat cx M' N' env' s' a'.tmps w'/\a'.defers=ds/\Fr rd M N s w N' w'
def NF.tree(n:NF)(s:St)(d:Option Tmp)(K:St->Tree):Tree :=
 match n with
 | .bad=>.fail
 | .q v=>K (ct s d v)
 | .lt p args vt=>ou s p args fun a s=>K (ct s d (vt.sv a))
 | .ckl p args p' args' vt=>fH p args (ou s p' args' fun a s=>K (ct s d (vt.sv a)))
 | .ck p args v=>fH p args (K (ct s d v))
 | .vrow t l i ks=>match s.ok with
  | true=>.row l i ks (K (ct {s with nv:=s.nv+ks.length} d (.vptr t (cR t ks s.nv))))
  | false=>.fail
 | .erow l i ks agg off n=>match s.ok with
  | true=>.row l i ks (K (ct {s with nv:=s.nv+ks.length} d (kN agg (((cR true ks s.nv).drop off).take n))))
  | false=>.fail
 | .mk v ob=>match s.ok with
  | true=>K (ct {s with hp:=(s.nx,ob)::s.hp,nx:=s.nx+1} d v)
  | false=>.fail
variable {P:Program} {T:Tab} {eqn:Nat->Option Nat} {a:Act} {op:Oper}
theorem aX(a:Act)(d:Option Tmp)(v:Value):(a.put d v).tmps=(match d with|some d=>a.tmps.setIfInBounds d v|none=>a.tmps)/\(a.put d v).defers=a.defers:=by
 cases d<;>exact⟨rfl,rfl⟩
theorem du{val:Value}{w':World}{Q:Exit->Act->World->Prop}{K:Act->World->Prop}(hr:(execOp a.eval op).run P w=.ok (.value val) w')(h:K (a.put op.dst val) w'):op.wp P a w K Q:=by
 unfold Oper.wp;rw[hr];exact h
theorem fl{w':World}{Q:Exit->Act->World->Prop}{K:Act->World->Prop}(hr:(execOp a.eval op).run P w=.ok .skip w')(h:K (a.put op.dst undef) w'):op.wp P a w K Q:=by
 unfold Oper.wp;rw[hr];exact h
theorem gL{K:St->Tree}{rd:List Nat}{s0:St}{M0:Nat->Prop}{N:Nm}{M:Nat->Prop}(hs:Sat cx M N env s a.tmps w){v:SV}{val:Value}(hr:(execOp a.eval op).run P w=.ok (.value val) w)(hv:svm w M cx.R N env v val)
  (hk:den Φ (K (ct s op.dst v)) env=some o) (Q:Exit->Act->World->Prop):op.wp P a w (gh Φ K o cx rd M0 N s0 w a.defers) Q:=by
 refine du hr ⟨_,env,M,N,hk,?_,(aX a op.dst val).2,Fr.rfl'⟩
 rw[(aX a op.dst val).1]
 exact hs.put op.dst hv
theorem FN(hT:bK P T)(hE:Cd P eqn){K:St->Tree}{rd:List Nat}(hn:den Φ ((nf T eqn s op.op).tree s op.dst K) env=some o)(hs:Sat cx M N env s a.tmps w)(Q:Exit->Act->World->Prop) :
  op.wp P a w (gh Φ K o cx rd M N s w a.defers) Q:=by
 have hok:=IH hT hE hs op
 cases hq:nf T eqn s op.op with
 | bad=>rw[hq]at hn;cases hn
 | q v =>
  rw[hq]at hn hok
  obtain⟨val,h1,h2⟩:=hok
  exact gL hs (h1 w Alike.rfl') h2 hn Q
 | lt p args vt =>
  rw[hq]at hn hok
  obtain⟨val,h1,h2⟩:=hok
  obtain⟨x,s',ds,g1,g2,g3,g4,_⟩:=cF (f:=fun a s=>K (ct s op.dst (vt.sv a))) hn hs
  exact gL g2 (h1 w Alike.rfl') (VT.svm (VT.sim g3 h2) rfl) g1 Q
 | ckl p args p' args' vt =>
  rw[hq]at hn hok
  obtain⟨hc,hn⟩:=b9 hn
  obtain⟨val,h1,h2⟩:=hok hc
  obtain⟨x,s',ds,g1,g2,g3,g4,_⟩:=cF (f:=fun a s=>K (ct s op.dst (vt.sv a))) hn hs
  exact gL g2 (h1 w Alike.rfl') (VT.svm (VT.sim g3 h2) rfl) g1 Q
 | ck p args v =>
  rw[hq]at hn hok
  obtain⟨hc,hn⟩:=b9 hn
  obtain⟨val,h1,h2⟩:=hok hc
  exact gL hs (h1 w Alike.rfl') h2 hn Q
 | vrow t l i ks =>
  rw[hq]at hn hok
  simp only[NF.tree]at hn
  split at hn
  case h_2=>cases hn
  rename_i hso
  rw[den]at hn
  obtain⟨j,r,hj,hr,hk,hn⟩:=iU hn
  obtain⟨b,off,arr,ty,fr,h1,h2,h3,h4⟩:=hok j r hj hr hk
  have hlen:=aJ hk
  have hm:=hs.more hso r
  rw[hlen]at hm
  refine gL hm (h1 w Alike.rfl') ?_ hn Q
  rw[svm]
  refine⟨b,off,arr,ty,fr,rfl,h2,h3,?_⟩
  have:=cE (N:=N) (env:=env) [] hk h4
  rw[List.append_nil]at this
  rw[hs.nv,gf,<-hlen]
  exact this
 | erow l i ks ag off n =>
  rw[hq]at hn hok
  simp only[NF.tree]at hn
  split at hn
  case h_2=>cases hn
  rename_i hso
  rw[den]at hn
  obtain⟨j,r,hj,hr,hk,hn⟩:=iU hn
  obtain⟨val,us,h1,hul,h2,h3,h4,h5⟩:=hok j r hj hr hk
  have hlen:=aJ hk
  have hm:=hs.more hso r
  rw[hlen]at hm
  refine gL hm (h1 w Alike.rfl') ?_ hn Q
  have hk2:=lX n (lW off hk)
  have hb:=cE (M:=M) (R:=cx.R) (t:=true) (N:=N) (env:=env++r.take off) ((r.drop off).drop n) hk2 (show repRow w (MR M cx.R true) _ us from h2)
  have hl2:((r.drop off).take n).length=n:=by rw[List.length_take,List.length_drop];omega
  have e1:(env++r.take off).length=env.length+off:=by rw[List.length_append,List.length_take];omega
  rw[hl2,<-hul,List.take_length,e1,List.take_append_drop,List.append_assoc,List.take_append_drop]at hb
  rw[hs.nv]
  have hb2:svms w M cx.R N (env++r) (((cR true ks env.length).drop off).take n) us:=by
   rw[oc,od,<-hul];exact hb
  cases ag with
  | true =>
   simp only[kN];rw[svm,h3 rfl]
   exact⟨_,rfl,by simpa using hb2⟩
  | false =>
   have hv:=h4 rfl
   subst hv
   cases hq2:((cR true ks env.length).drop off).take n with
   | nil=>exact i7 _
   | cons y ys =>
    rw[hq2,svms]at hb2
    obtain⟨u,us,e1,e2,_⟩:=hb2
    simp only[List.cons.injEq]at e1
    simp only[kN]
    rw[e1.1];exact e2
 | mk v ob =>
  rw[hq]at hn hok
  simp only[NF.tree]at hn
  split at hn
  case h_2=>cases hn
  rename_i hso
  obtain⟨val,obj,ki,h1,h2,h3,h4⟩:=hok hso
  refine du h1 ⟨_,env,M,ip N s.nx ki,hn,?_,(aX a op.dst val).2,fun b hb=>heap_alloc_old w obj b (hs.mlt b hb),fun k _ vs hg=>⟨KI.same.of (aO N ki (ap (aD (St.ok_parts hso).2.1 hg).1)),fun b hb=>heap_alloc_old w obj b (hs.blt k _ b hg hb)⟩⟩
  rw[(aX a op.dst val).1]
  exact(hs.alloc hso obj ki h2 ob h4).put op.dst h3
end
end Dx
namespace Dx
open Go
def mkR(t:Bool)(nx nv:Nat):List Sh->List CK->List SV×List (Nat×SObj)×Nat
 | .val::shs,k::ks=>match mkR t nx (nv+1) shs ks with
  | (svs,objs,nx')=>(k.sv t (.v nv)::svs,objs,nx')
 | .arr e row::shs,_::ks=>match mkR t (nx+1) (nv+1) shs ks with
  | (svs,objs,nx')=>(.sl nx::svs,(nx,.arr e row (.v nv))::objs,nx')
 | _,_=>([],[],nx)
theorem eW{t:Bool}:∀ {shs:List Sh} {ks:List CK} {nx nv:Nat},nx<=(mkR t nx nv shs ks).2.2
 | [],ks,nx,nv=>by simp[mkR]
 | .val::shs,[],nx,nv=>by simp[mkR]
 | .arr _ _::shs,[],nx,nv=>by simp[mkR]
 | .val::shs,k::ks,nx,nv=>by
  simp only[mkR]
  have:=eW (t:=t) (shs:=shs) (ks:=ks) (nx:=nx) (nv:=nv+1)
  generalize mkR t nx (nv+1) shs ks=q at this ⊢
  exact this
 | .arr _ _::shs,k::ks,nx,nv=>by
  simp only[mkR]
  have:=eW (t:=t) (shs:=shs) (ks:=ks) (nx:=nx+1) (nv:=nv+1)
  generalize mkR t (nx+1) (nv+1) shs ks=q at this ⊢
  show nx<=q.2.2
  omega
section
variable {Φ:Phi} {cx:Ctx} {M:Nat->Prop} {N:Nm} {env:List C} {s:St} {tm:Array Value} {w:World} {o:Out}
structure Made (w:World) (M R:Nat->Prop) (N N':Nm) (env:List C) (nx nx':Nat) (svs:List SV) (objs:List (Nat×SObj)) (vs:List Value) (X:List Nat):Prop where
 old:∀ k,k<nx->N' k=N k
 svs:svms w M R N' env svs vs
 key:∀ k o,ar objs k=some o->nx<=k/\k<nx'
 obj:∀ k o,ar objs k=some o->obm w M R N' env k o/\(N' k).φ.Nodup/\∀ b∈(N' k).φ,b∈X
 dist:∀ k k' o o' b,ar objs k=some o->ar objs k'=some o'->b∈(N' k).φ->b∈(N' k').φ->k=k'
theorem jc{R:Nat->Prop}:∀ {shs:List Sh} {ks:List CK} {cs:List C} {vs:List Value} {X:List Nat} {env0:List C} (rest:List C) {nx:Nat} {N:Nm},ak ks cs=true->shR w M shs cs vs X->X.Nodup ->
  ∃ N',Made w M R N N' (env0++(cs++rest)) nx (mkR true nx env0.length shs ks).2.2 (mkR true nx env0.length shs ks).1 (mkR true nx env0.length shs ks).2.1 vs X
 | [],ks,cs,vs,X,env0,rest,nx,N,hk,h,hn=>by
  rw[shR]at h;obtain⟨rfl,rfl,rfl⟩:=h
  refine⟨N,fun _ _=>rfl,by simp[mkR,svms],?_,?_,?_⟩<;>(intro k o;simp[mkR,ar])
 | sh::shs,[],cs,vs,X,env0,rest,nx,N,hk,h,hn=>by
  rw[shR]at h;obtain⟨c,cs',v,vs',X1,X2,rfl,_⟩:=h
  simp[ak]at hk
 | .val::shs,k::ks,cs,vs,X,env0,rest,nx,N,hk,h,hn=>by
  rw[shR]at h;obtain⟨c,cs',v,vs',X1,X2,rfl,rfl,rfl,h1,h2⟩:=h
  rw[shC]at h1;obtain⟨rfl,h1⟩:=h1
  simp only[ak]at hk
  split at hk
  case h_2=>cases hk
  rename_i hk1
  obtain⟨N',g⟩:=jc (R:=R) (env0:=env0++[c]) rest (nx:=nx) (N:=N) hk h2 (by simpa using hn)
  have e1:(env0++[c]).length=env0.length+1:=by simp
  rw[e1]at g
  have e2:env0++[c]++(cs'++rest)=env0++(c::cs'++rest):=by simp
  rw[e2]at g
  simp only[mkR]
  generalize mkR true nx (env0.length+1) shs ks=q at g ⊢
  obtain⟨svs,objs,nx'⟩:=q
  refine⟨N',g.old,?_,g.key,fun k o hg=>?_,g.dist⟩
  ·dsimp only;rw[svms]
   refine⟨v,vs',rfl,?_,g.svs⟩
   refine vE hk1 (show repC w (MR M R true) c v from h1) ?_
   have:=bD env0 (c::cs'++rest) 0;simpa [At.den,aa] using this
  ·simpa using g.obj k o hg
 | .arr e row::shs,k::ks,cs,vs,X,env0,rest,nx,N,hk,h,hn=>by
  rw[shR]at h;obtain⟨c,cs',v,vs',X1,X2,rfl,rfl,rfl,h1,h2⟩:=h
  simp only[ak]at hk
  split at hk
  case h_2=>cases hk
  rename_i hk1
  have hn':=List.nodup_append.1 hn
  let N1:Nm:=ip N nx ⟨v,[],[],0,X1⟩
  obtain⟨N',g⟩:=jc (R:=R) (env0:=env0++[c]) rest (nx:=nx+1) (N:=N1) hk h2 hn'.2.1
  have e1:(env0++[c]).length=env0.length+1:=by simp
  rw[e1]at g
  have e2:env0++[c]++(cs'++rest)=env0++(c::cs'++rest):=by simp
  rw[e2]at g
  simp only[mkR]
  have hge:=eW (t:=true) (shs:=shs) (ks:=ks) (nx:=nx+1) (nv:=env0.length+1)
  generalize mkR true (nx+1) (env0.length+1) shs ks=q at g hge ⊢
  obtain⟨svs,objs,nx'⟩:=q
  dsimp only at g hge ⊢
  have hnx:N' nx=⟨v,[],[],0,X1⟩:=by rw[g.old nx (Nat.lt_succ_self _)];exact aR N nx _
  have new:∀ k o,ar objs k=some o->k≠nx:=fun k o hg e=>by have:=(g.key k o hg).1;omega
  refine⟨N',fun k hk'=>(g.old k (by omega)).trans (aO N _ hk'),?_,?_,?_,?_⟩
  ·rw[svms]
   exact⟨v,vs',rfl,by rw[svm,hnx],g.svs⟩
  ·intro k o hg
   rw[aq]at hg
   split at hg
   ·rename_i e;subst e;exact⟨Nat.le_refl _,by omega⟩
   ·have:=g.key k o hg;exact⟨by omega,this.2⟩
  ·intro k o hg
   rw[aq]at hg
   split at hg
   ·rename_i e;subst e
    simp only[Option.some.injEq]at hg;subst hg
    rw[obm,hnx]
    refine⟨?_,hn'.1,fun b hb=>List.mem_append_left _ hb⟩
    have:(At.v env0.length).den (env0++(c::cs'++rest))=c:=by
     have:=bD env0 (c::cs'++rest) 0;simpa [At.den,aa] using this
    rw[this]
    rw[shC]at h1 ⊢
    obtain⟨es,vals,X',h1,h2⟩:=h1
    exact⟨es,vals,X',by rw[h1];rfl,h2⟩
   ·obtain⟨k1,k2,k3⟩:=g.obj k o hg
    exact⟨k1,k2,fun b hb=>List.mem_append_right _ (k3 b hb)⟩
  ·intro k k' o o' b hg hg' hb hb'
   rw[aq]at hg hg'
   split at hg<;>split at hg'
   ·omega
   ·rename_i e1 e2;subst e1
    rw[hnx]at hb
    exact absurd rfl (hn'.2.2 b hb b ((g.obj k' o' hg').2.2 b hb'))
   ·rename_i e1 e2;subst e2
    rw[hnx]at hb'
    exact absurd rfl (hn'.2.2 b hb' b ((g.obj k o hg).2.2 b hb))
   ·exact g.dist k k' o o' b hg hg' hb hb'
def mz(Φ:Phi)(K:St->Tree)(o:Out)(cx:Ctx)(tm:Array Value)(w:World):Prop :=
 ∃ s' env' M' N',den Φ (K s') env'=some o/\Sat cx M' N' env' s' tm w
def EL(s:St)(k e:Nat)(row:List Sh)(l i:At)(ks:List CK)(K:St->Tree):Tree :=
 match s.ok && eH e,Nat.beq ks.length row.length,i.all fun j=>Nat.blt j s.nv with
 | true,true,true=>match mkR true s.nx s.nv row ks with
  | (svs,objs,nx')=>.row l i ks (K {s with hp:=((k,.foc e row l i svs)::objs)++cw s.hp k,nx:=nx',nv:=s.nv+ks.length})
 | _,_,_=>.fail
theorem CR{k e:Nat}{row:List Sh}{l i:At}{ks:List CK}{K:St->Tree}(hn:den Φ (EL s k e row l i ks K) env=some o)(hs:Sat cx M N env s tm w)(hg:ar s.hp k=some (.arr e row l)):mz Φ K o cx tm w:=by
 unfold EL at hn
 split at hn
 case h_2=>cases hn
 rename_i hok hlen hiv
 have hsm:=(oh hok).2
 have hok:=(oh hok).1
 have hlen:=br hlen
 generalize hq:mkR true s.nx s.nv row ks=q at hn
 obtain⟨svs,objs,nx'⟩:=q
 dsimp only at hn
 rw[den]at hn
 obtain⟨j,r,hj,hr,hk,hn⟩:=iU hn
 have hrl:=aJ hk
 obtain⟨o1,o2,o3⟩:=St.ok_parts hok
 have hkk:=(aD o2 hg).1
 have hob:shC w M (.arr e row) (.list (l.den env).toList) (N k).v (N k).φ:=hs.objs k _ hg
 have hm:=hs.more hok r
 have hV:∀ i,Nat.blt i s.nv=true->aa (env++r) i=aa env i:=fun i hi=>cp (by rw[<-hs.nv];exact ap hi)
 have hal:=(aD o2 hg).2
 have hl':l.den (env++r)=l.den env:=At.den_all hV l hal
 rw[shC]at hob
 obtain⟨es,vals,X',e1,e2,h3,h4,h5,h6⟩:=hob
 have h3:=h3.own hsm
 have e1':(l.den env).toList=es:=by injection e1
 have hjl:j<es.length:=by rw[<-e1'];exact(List.getElem?_eq_some_iff.1 hr).1
 have hrj:r=es[j]:=by
  rw[e1']at hr
  rw[List.getElem?_eq_getElem hjl]at hr;simpa using hr.symm
 have hsp:es=es.take j++(r::es.drop (j+1)):=by
  rw[hrj,<-List.drop_eq_getElem_cons hjl,List.take_append_drop]
 rw[hsp]at h4
 obtain⟨X1,Y,rfl,g1,g2⟩:=co h4
 obtain⟨Xr,X2,rfl,g3,g4⟩:=g2
 have htl:(es.take j).length=j:=by rw[List.length_take];omega
 rw[htl]at g3 g4
 rw[List.drop_drop]at g4
 have hnd:=hs.nodup k _ hg
 rw[e2]at hnd
 have hnd':=List.nodup_append.1 hnd
 have hnd2:=List.nodup_append.1 hnd'.2.1
 have hnd3:=List.nodup_append.1 hnd2.2.1
 let s1:St:={s with hp:=cw s.hp k}
 have hs1:Sat cx M N env s1 tm w:=hs.less fun _ _ hj=>(ay hj).1
 have hok1:s1.ok=true:=St.ok_rem hok k
 have hm1:=hs1.more hok1 r
 obtain⟨N1,gm⟩:=jc (R:=cx.R) (env0:=env) [] (nx:=s.nx) (N:=N) hk g3 hnd3.1
 rw[List.append_nil]at gm
 rw[<-hs.nv,hq]at gm
 dsimp only at gm
 let ki:KI:=⟨(N k).v,(N k).pre,(N k).post,(N k).ty,(blk (N k).v).toList++(X1++X2)⟩
 let N2:Nm:=fun k'=>if k'=k then ki else N1 k'
 have hklt:k<s.nx:=ap hkk
 have hN2k:N2 k=ki:=if_pos rfl
 have hN2:∀ k',k'≠k->N2 k'=N1 k':=fun k' hne=>if_neg hne
 have hsame:∀ k',KI.same (N2 k') (N1 k'):=fun k'=>by
  by_cases e:k'=k
  ·subst e;rw[hN2k,gm.old k' hklt];exact⟨rfl,rfl,rfl,rfl⟩
  ·rw[hN2 k' e];exact KI.same.rfl' _
 have hnewne:∀ k' o',ar objs k'=some o'->k'≠k:=fun k' o' hg' e=>by have:=(gm.key k' o' hg').1;omega
 have hX:∀ b∈(N k).φ,¬ M b/\¬ cx.R b/\b<w.heap.size/\∀ k' o',ar (cw s.hp k) k'=some o'->b∉(N k').φ:=fun b hb=>by
  have:=hs.apart k _ b hg hb
  refine⟨this.1,this.2,hs.blt k _ b hg hb,fun k' o' hg' hb'=>?_⟩
  obtain⟨q1,q2⟩:=ay hg'
  exact q2 (hs.dist k' k o' _ b q1 hg hb' hb)
 have hφ2:∀ b∈ki.φ,b∈(N k).φ:=fun b hb=>by
  rw[e2]
  rcases List.mem_append.1 hb with hb|hb
  ·exact List.mem_append_left _ hb
  ·rcases List.mem_append.1 hb with hb|hb
   ·exact List.mem_append_right _ (List.mem_append_left _ hb)
   ·exact List.mem_append_right _ (List.mem_append_right _ (List.mem_append_right _ hb))
 have hφr:∀ b∈Xr,b∈(N k).φ:=fun b hb=>by
  rw[e2];exact List.mem_append_right _ (List.mem_append_right _ (List.mem_append_left _ hb))
 have hφd:∀ b∈Xr,b∉ki.φ:=fun b hb hb'=>by
  rcases List.mem_append.1 hb' with hb'|hb'
  ·exact hnd'.2.2 b hb' b (List.mem_append_right _ (List.mem_append_left _ hb)) rfl
  ·rcases List.mem_append.1 hb' with hb'|hb'
   ·exact hnd2.2.2 b hb' b (List.mem_append_left _ hb) rfl
   ·exact hnd3.2.2 b hb b hb' rfl
 have hr1:r.length=row.length:=by omega
 refine⟨_,env++r,M,N2,hn,?_⟩
 have:=hm1.joinO (N':=N2) (objs:=(k,.foc e row l i svs)::objs) (nx:=nx') (X:=(N k).φ) ?_ ?_ ?_ ?_ ?_ ?_
 ·rw[hrl]at this;exact this
 ·exact St.ok_more hok1 r.length
 ·intro k' hk'
  have:=gm.old k' (ap hk')
  have h2:=hsame k'
  rw[this]at h2;exact h2
 ·intro k' o' hg'
  obtain⟨q1,q2⟩:=ay (show ar (cw s.hp k) k'=some o' from hg')
  rw[hN2 k' q2]
  exact gm.old k' (ap (aD o2 q1).1)
 ·intro k' o' hg'
  rw[aq]at hg'
  split at hg'
  ·rename_i e;subst e
   simp only[Option.some.injEq]at hg';subst hg'
   rw[hN2k]
   refine⟨?_,?_,hφ2⟩
   ·rw[obm,hN2k]
    refine⟨vals,X1,X2,j,es,by rw[hl',e1'],?_,hjl,rfl,h3,g1,?_,?_,?_,h5,h6⟩
    ·rw[<-hj,At.den_all hV i hiv]
    ·exact svms.mono (K:=fun _=>true) (V:=fun _=>true) (fun _ hb=>⟨hb,rfl⟩) (fun _ _=>rfl) (fun k' _=>hsame k') (fun _ _=>rfl) _ _ (SV.alls_true _) gm.svs
    ·rw[<-bb gm.svs,List.length_take,List.length_drop]
     have:=(cD g3).2
     rw[List.length_take,List.length_drop]at this;exact this
    ·rw[Nat.add_mul,Nat.one_mul];exact g4
   ·refine List.nodup_append.2 ⟨hnd'.1,List.nodup_append.2 ⟨hnd2.1,hnd3.2.1,fun a ha b hb=>hnd2.2.2 a ha b (List.mem_append_right _ hb)⟩,fun a ha b hb=>hnd'.2.2 a ha b ?_⟩
    rcases List.mem_append.1 hb with hb|hb
    ·exact List.mem_append_left _ hb
    ·exact List.mem_append_right _ (List.mem_append_right _ hb)
  ·rename_i e
   have:=gm.obj k' o' hg'
   rw[hN2 k' e]
   refine⟨?_,this.2.1,fun b hb=>hφr b (this.2.2 b hb)⟩
   exact obm.mono (K:=fun _=>true) (V:=fun _=>true) (fun _ hb=>⟨hb,rfl⟩) (fun _ _=>rfl) (fun k' _=>hsame k') (fun _ _=>rfl) (hN2 k' e) (SObj.all_true _) (fun _ _=>rfl) this.1
 ·exact hX
 ·intro k1 k2 o1' o2' b h1 h2 hb1 hb2
  rw[aq]at h1 h2
  split at h1<;>split at h2
  ·omega
  ·rename_i q1 q2;subst q1
   rw[hN2k]at hb1;rw[hN2 k2 q2]at hb2
   exact absurd hb1 (hφd b ((gm.obj k2 o2' h2).2.2 b hb2))
  ·rename_i q1 q2;subst q2
   rw[hN2k]at hb2;rw[hN2 k1 q1]at hb1
   exact absurd hb2 (hφd b ((gm.obj k1 o1' h1).2.2 b hb1))
  ·rename_i q1 q2
   rw[hN2 k1 q1]at hb1;rw[hN2 k2 q2]at hb2
   exact gm.dist k1 k2 o1' o2' b h1 h2 hb1 hb2
end
end Dx
namespace Dx
open Go
def la(s:St)(k e:Nat)(row:List Sh)(l i:At)(vs:List SV)(K:St->Tree):Tree :=
 match s.ok,jb {s with hp:=cw s.hp k} row vs with
 | true,some (s1,cs)=>match s1.ok with
  | true=>ou s1 .setw (cl l::ci .i64 i::cs) fun a s2=>K {s2 with hp:=(k,.arr e row a)::s2.hp}
  | false=>.fail
 | _,_=>.fail
section
variable {Φ:Phi} {cx:Ctx} {M:Nat->Prop} {N:Nm} {env:List C} {s:St} {tm:Array Value} {w:World} {o:Out}
theorem AB{M':Nat->Prop}{row:List Sh}{n:Nat}{es:List (List C)}{vs:List Value}{X:List Nat}(hM:∀ b,M b->M' b)(h:rowsP (shR w M row) n es vs X):rowsP (shR w M' row) n es vs X :=
 rowsP.mono (fun _ _ _ _ hh=>shR.mono (fun b hb=>⟨hM b hb,rfl⟩) _ _ _ _ (fun _ _=>rfl) hh) h
theorem jI{k e:Nat}{row:List Sh}{l i:At}{vs:List SV}{K:St->Tree}(hn:den Φ (la s k e row l i vs K) env=some o)(hs:Sat cx M N env s tm w)(hg:ar s.hp k=some (.foc e row l i vs)):mz Φ K o cx tm w:=by
 unfold la at hn
 split at hn
 case h_2=>cases hn
 rename_i s1 cells hok hcon
 split at hn
 case h_2=>cases hn
 rename_i hok1
 obtain⟨vals,X1,X2,j,es,e1,e2,hjl,e4,h3,g1,g2,g3,g4,h5,h6⟩:=hs.objs k _ hg
 have hnd:=hs.nodup k _ hg
 have hs0:Sat cx M N env {s with hp:=cw s.hp k} tm w:=hs.less fun _ _ hj=>(ay hj).1
 have hfree:oq cx M N (cw s.hp k) (N k).φ:=fun b hb=>by
  have:=hs.apart k _ b hg hb
  refine⟨this.1,this.2,fun k' o' hg' hb'=>?_⟩
  obtain⟨q1,q2⟩:=ay hg'
  exact q2 (hs.dist k' k o' _ b q1 hg hb' hb)
 obtain⟨M',Xr,hh,hrow⟩:=eg row hs0 hcon g2 hfree hnd
 obtain⟨a,s2,ds,k1,k2,k3,k4,k5,k6,k7,k8⟩:=cF hn hh.sat
 have hok2:s2.ok=true:=by
  rcases k8 with ⟨_,rfl⟩|⟨_,rfl⟩
  ·exact hok1
  ·exact St.ok_more hok1 _
 obtain⟨p1,p2,p3⟩:=hh.same
 have hkk:k<s.nx:=ap (aD (St.ok_parts hok).2.1 hg).1
 have hk1:∀ o',ar s1.hp k=some o'->False:=fun o' hg'=>by
  obtain⟨o2,h2⟩:=hh.less k o' hg'
  exact(ay h2).2 rfl
 let ki:KI:=⟨(N k).v,(N k).pre,(N k).post,(N k).ty,(blk (N k).v).toList++(X1++(Xr++X2))⟩
 let N2:Nm:=fun k'=>if k'=k then ki else N k'
 have hN2k:N2 k=ki:=if_pos rfl
 have hN2:∀ k',k'≠k->N2 k'=N k':=fun k' hne=>if_neg hne
 have hnd2:=hh.nodup
 rw[e4]at hnd2
 have hperm:(Xr++((blk (N k).v).toList++(X1++X2))).Perm ki.φ:=by
  show (Xr++((blk (N k).v).toList++(X1++X2))).Perm ((blk (N k).v).toList++(X1++(Xr++X2)))
  refine(List.perm_append_comm).trans ?_
  rw[List.append_assoc,List.append_assoc]
  exact List.Perm.append_left _ (List.Perm.append_left _ List.perm_append_comm)
 refine⟨_,env++ds,M',N2,k1,?_⟩
 refine k2.joinO (objs:=[(k,.arr e row a)]) (X:=ki.φ) hok2 ?_ ?_ ?_ ?_ ?_
 ·intro k' _
  by_cases e:k'=k
  ·subst e;rw[hN2k];exact⟨rfl,rfl,rfl,rfl⟩
  ·rw[hN2 k' e];exact KI.same.rfl' _
 ·intro k' o' hg'
  rw[k5]at hg'
  exact hN2 k' fun e=>hk1 o' (e ▸ hg')
 ·intro k' o' hg'
  rw[aq]at hg'
  split at hg'
  case isFalse=>cases hg'
  rename_i e;subst e
  simp only[Option.some.injEq]at hg';subst hg'
  rw[hN2k]
  refine⟨?_,hperm.nodup_iff.1 hnd2,fun b hb=>hb⟩
  rw[obm,hN2k,shC]
  have hl1:=cD hrow
  have hset:(a.den (env++ds)).toList=es.take j++(aK env cells::es.drop (j+1)):=by
   rw[k3.2.2.2]
   have:((Prim.setw).den (aK env (cl l::ci .i64 i::cells))).toList=(l.den env).toList.set (i.den env).toInt.toNat (aK env cells):=rfl
   rw[this,e1,e2,Int.toNat_natCast,List.set_eq_take_append_cons_drop,if_pos hjl]
  have hlen:(es.take j++(aK env cells::es.drop (j+1))).length=es.length:=by
   simp only[List.length_append,List.length_take,List.length_cons,List.length_drop];omega
  refine⟨_,vals,X1++(Xr++X2),by rw[hset],rfl,by rw[hlen];exact .inl h3,?_,h5,by rw[hlen];exact h6⟩
  have htl:(es.take j).length=j:=by rw[List.length_take];omega
  refine dn (AB hh.sub g1) ?_
  rw[htl]
  refine⟨Xr,X2,rfl,hrow,?_⟩
  have:=AB hh.sub g4
  rw[List.drop_drop]
  rw[Nat.add_mul,Nat.one_mul]at this
  exact this
 ·intro b hb
  have hb':=hperm.mem_iff.2 hb
  rw[<-e4]at hb'
  have:=hh.free b hb'
  refine⟨this.1,this.2.1,?_,fun k' o' hg'=>?_⟩
  ·rcases List.mem_append.1 hb' with hb'|hb'
   ·exact hh.lt b hb'
   ·exact hs.blt k _ b hg hb'
  ·rw[k5]at hg';exact this.2.2 k' o' hg'
 ·intro k1' k2' o1' o2' b h1 h2 _ _
  rw[aq]at h1 h2
  split at h1
  ·split at h2
   ·omega
   ·cases h2
  ·cases h1
def qb(k:Nat):List Nat->Bool
 | []=>false
 | j::r=>match Nat.beq k j with
  | true=>true
  | false=>qb k r
theorem memN_iff{k:Nat}:∀ {l:List Nat},qb k l=true↔k∈l
 | []=>by simp[qb]
 | j::r=>by
  simp only[qb]
  split
  ·rename_i e;simp[br e]
  ·rename_i e
   rw[memN_iff]
   have:=Nat.ne_of_beq_eq_false e
   simp[this]
def ov(rd:List Nat)(k:Nat):Bool:=match qb k rd with
 | true=>false
 | false=>true
theorem sP{rd:List Nat}{k:Nat}(h:ov rd k=true):k∉rd:=fun hm=>by
 unfold ov at h
 rw[memN_iff.2 hm]at h;cases h
theorem Fr.write{rd:List Nat}(h:Sat cx M N env s tm w){k b:Nat}{ob:SObj}{w':World}(hw:ov rd k=true)(hg:ar s.hp k=some ob)(hb:b∈(N k).φ)(hoth:∀ b',b'≠b->w'.heap[b']?=w.heap[b']?):Fr rd M N s w N w' :=
 ⟨fun b' hm=>hoth b' fun e=>(h.apart k ob b hg hb).1 (e ▸ hm),fun k' hk' vs hg'=>⟨KI.same.rfl' _,fun b' hb'=>hoth b' fun e=>sP hw ((h.dist k' k _ ob b hg' hg (e ▸ hb') hb) ▸ hk')⟩⟩
def EM(s:St)(cells:List SV):Bool:=cells.all fun c=>c.one && c.plain s
def sQ(s:St)(sz k off:Nat)(vs:List SV)(y:SV)(K:St->Tree):Tree :=
 match y.plain s,Nat.beq y.cells.length sz,Nat.ble (off+sz) vs.length,EM s y.cells with
 | true,true,true,true=>K {s with hp:=(k,.cells (rH vs off y.cells))::cw s.hp k}
 | _,_,_,_=>.fail
def EN(s:St)(sz k off e:Nat)(row:List Sh)(l i j:At)(vs:List SV)(y:SV)(K:St->Tree):Tree :=
 match y.plain s,Nat.beq y.cells.length sz,Nat.ble (off+sz) vs.length,EM s y.cells with
 | true,true,true,true=>fH .eqI [ci .i64 j,ci .i64 i] (K {s with hp:=(k,.foc e row l i (rH vs off y.cells))::cw s.hp k})
 | _,_,_,_=>.fail
def vals(n:Nat):List Sh:=List.replicate n .val
def EO(s:St)(sz k off e:Nat)(row:List Sh)(l j:At)(y:SV)(K:St->Tree):Tree :=
 match y.plain s && eH e,Nat.beq y.cells.length sz,Nat.ble (off+sz) row.length,bL row with
 | true,true,true,true=>match jb s (vals sz) y.cells with
  | some (s1,cs)=>match ar s1.hp k with
   | some (.arr _ _ _)=>ou s1 (.setr off) (cl l::ci .i64 j::cs) fun a s2=>K {s2 with hp:=(k,.arr e row a)::cw s2.hp k}
   | _=>.fail
  | none=>.fail
 | _,_,_,_=>.fail
theorem sR:∀(cs vs:List SV) (off:Nat),off+cs.length<=vs.length->rH vs off cs=vs.take off++cs++vs.drop (off+cs.length)
 | [],vs,off,_=>by simp[rH]
 | c::cs,vs,off,h=>by
  simp only[List.length_cons]at h
  simp only[rH,gS]
  rw[sR cs (vs.set off c) (off+1) (by simp;omega)]
  have h1:(vs.set off c).take (off+1)=vs.take off++[c]:=by
   have hlt:off<(vs.set off c).length:=by simp;omega
   rw[List.take_succ_eq_append_getElem hlt,List.take_set,List.set_eq_of_length_le (by simp;omega)]
   simp
  have h2:(vs.set off c).drop (off+1+cs.length)=vs.drop (off+1+cs.length):=by
   rw[List.drop_set,if_pos (by omega)]
  rw[h1,h2]
  have h3:off+1+cs.length=off+(c::cs).length:=by simp;omega
  rw[h3]
  simp
theorem oA{c:C}{u:Value}(hu:repC w M c u):∀ {r:List C} {vs:List Value} {off:Nat},repRow w M r vs->repRow w M (r.set off c) (vs.set off u)
 | [],_,_,_=>cZ _
 | d::r,vs,off,h=>by
  rw[repRow]at h;obtain⟨v,vs',rfl,g1,g2⟩:=h
  cases off with
  | zero=>simp only[List.set_cons_zero];rw[repRow];exact⟨u,vs',rfl,hu,g2⟩
  | succ off=>simp only[List.set_cons_succ];rw[repRow];exact⟨v,_,rfl,g1,oA hu g2⟩
theorem AC:∀ {cs r:List C} {vs us:List Value} {off:Nat},repRow w M r vs->repRow w M cs us->us.length=cs.length->off+cs.length<=r.length->repRow w M (vD r off cs) (vs.take off++us++vs.drop (off+cs.length))
 | [],r,vs,us,off,h,_,hl,_=>by
  have:us=[]:=List.eq_nil_of_length_eq_zero (by simpa using hl)
  subst this
  simpa [vD] using h
 | c::cs,r,vs,us,off,h,hu,hl,hle=>by
  rw[repRow]at hu;obtain⟨u,us',rfl,h1,h2⟩:=hu
  simp only[List.length_cons]at hle hl
  have hlen:=jB h
  have hset:=oA (off:=off) h1 h
  simp only[vD]
  have:=AC (off:=off+1) hset h2 (by omega) (by simp;omega)
  have e1:(vs.set off u).take (off+1)=vs.take off++[u]:=by
   have hlt:off<(vs.set off u).length:=by simp;omega
   rw[List.take_succ_eq_append_getElem hlt,List.take_set,List.set_eq_of_length_le (by simp;omega)]
   simp
  have e2:(vs.set off u).drop (off+1+cs.length)=vs.drop (off+1+cs.length):=by
   rw[List.drop_set,if_pos (by omega)]
  rw[e1,e2]at this
  have h3:off+1+cs.length=off+(c::cs).length:=by simp;omega
  rw[h3]at this
  simpa using this
theorem vK:∀(cs r:List C) (off:Nat),(vD r off cs).length=r.length
 | [],_,_=>rfl
 | c::cs,r,off=>by simp[vD,vK cs]
theorem FO{α:Type}(v1 v2 v3 v4 v5 us rest:List α)(h:us.length=v3.length) :
  (((v1++v2++v3++v4++v5++rest).take (v1.length+v2.length)++us++(v1++v2++v3++v4++v5++rest).drop (v1.length+v2.length+us.length)).take (v1++v2++v3++v4++v5).length) =
    v1++(v2++us++v4)++v5:=by
 have e1:(v1++v2++v3++v4++v5++rest).take (v1.length+v2.length)=v1++v2:=by
  rw[show v1++v2++v3++v4++v5++rest=(v1++v2)++(v3++v4++v5++rest) by simp]
  exact List.take_left' (by simp)
 have e2:(v1++v2++v3++v4++v5++rest).drop (v1.length+v2.length+us.length)=v4++v5++rest:=by
  rw[show v1++v2++v3++v4++v5++rest=(v1++v2++v3)++(v4++v5++rest) by simp]
  exact List.drop_left' (by simp;omega)
 rw[e1,e2]
 rw[show v1++v2++us++(v4++v5++rest)=(v1++(v2++us++v4)++v5)++rest by simp]
 exact List.take_left' (by simp;omega)
theorem KJ{α:Type}(vals us rest:List α)(q off sz:Nat)(h1:off+us.length<=sz)(h2:q+sz<=vals.length) :
  ((vals++rest).take (q+off)++us++(vals++rest).drop (q+off+us.length)).take vals.length =
    vals.take q++((vals.drop q).take off++us++((vals.drop q).take sz).drop (off+us.length))++vals.drop (q+sz):=by
 have d:vals=vals.take q++(vals.drop q).take off++((vals.drop (q+off)).take us.length)++((vals.drop q).take sz).drop (off+us.length)++vals.drop (q+sz):=by
  have a1:vals.drop q=(vals.drop q).take sz++(vals.drop q).drop sz:=(List.take_append_drop _ _).symm
  have a2:(vals.drop q).take sz=((vals.drop q).take sz).take off++(((vals.drop q).take sz).drop off).take us.length++((vals.drop q).take sz).drop (off+us.length):=by
   rw[<-List.drop_drop,List.append_assoc,List.take_append_drop,List.take_append_drop]
  rw[List.take_take,Nat.min_eq_left (by omega)]at a2
  have a3:(((vals.drop q).take sz).drop off).take us.length=(vals.drop (q+off)).take us.length:=by
   rw[List.drop_take,List.take_take,List.drop_drop,Nat.min_eq_left (by omega)]
  rw[a3]at a2
  rw[List.drop_drop]at a1
  calc vals=vals.take q++vals.drop q:=(List.take_append_drop _ _).symm
   _=vals.take q++((vals.drop q).take sz++vals.drop (q+sz)):=by rw[<-a1]
   _=_:=by
    generalize ((vals.drop q).take sz).drop (off+us.length)=v4 at a2 ⊢
    rw[a2];simp
 have l1:(vals.take q).length=q:=by simp;omega
 have l2:((vals.drop q).take off).length=off:=by simp;omega
 have l3:us.length=((vals.drop (q+off)).take us.length).length:=by simp;omega
 have:=FO (vals.take q) ((vals.drop q).take off) ((vals.drop (q+off)).take us.length) (((vals.drop q).take sz).drop (off+us.length)) (vals.drop (q+sz)) us rest l3
 rw[<-d,l1,l2]at this
 exact this
variable {P:Program} {T:Tab} {a:Act} {op:Oper}
theorem lw(hT:bK P T){t:Nat}{i:TI}(hi:T t=some i){x y:Operand}(ho:op.op=.store t x y){b off:Nat}{arr:Array Value}{ty:TypeId}(hx:a.eval x=.pointer (some ⟨b,off,none⟩))
  (hh:w.heap[b]?=some (.cells arr ty (0,0))) (hl:(a.eval y).cells.toList.length=i.sz) (hsz:off+i.sz<=arr.size) (hone:∀ v∈(a.eval y).cells.toList,v.oneCell'=true) :
  (execOp a.eval op).run P w=.ok .skip (w.setRow b (arr.toList.take off++(a.eval y).cells.toList++arr.toList.drop (off+(a.eval y).cells.toList.length)).toArray):=by
 obtain⟨inf,d,z,h1,h2,h3,h4,h5,h6,h7,h8,h9⟩:=hT t i hi
 have hst:=run_storeCells_at P b off ty (a.eval y).cells.toList 0 arr w hh (by omega) hone
 simp only[Nat.add_zero]at hst
 have hszr:(Go.sizeOf t).run P w=.ok i.sz w:=by simp[Go.sizeOf,typeInfo,h1,h3]
 have hne:¬ (a.eval y).cells.size≠i.sz:=by rw[Array.length_toList]at hl;omega
 simp only[execOp,ho,Instr.storeAt,Instr.sureAddr,hx,storeVar,Sem.run_bind,Sem.run_pure,Result.andThen_ok,hszr,hne,if_false]
 rw[hst]
 rfl
theorem oB(h:Sat cx M N env s a.tmps w){xs:List SV}{vs:List Value}(hx:svms w M cx.R N env xs vs)(ha:EM s xs=true):∀ v∈vs,v.oneCell'=true:=h.ones hx ha
theorem yD(hT:bK P T){t:Nat}{i:TI}(hi:T t=some i){x y:Operand}(ho:op.op=.store t x y)(hd:op.dst=none){k off:Nat}{vs:List SV}{K:St->Tree}{rd:List Nat}(hrd:ov rd k=true)
  (hn:den Φ (sQ s i.sz k off vs (opnd s.sl y) K) env=some o) (hs:Sat cx M N env s a.tmps w) (hx:opnd s.sl x=.ptr k off) (hg:ar s.hp k=some (.cells vs)) (Q:Exit->Act->World->Prop):op.wp P a w (gh Φ K o cx rd M N s w a.defers) Q:=by
 unfold sQ at hn
 split at hn
 case h_2=>cases hn
 rename_i c1 c2 c3 c4
 have e2:=br c2
 have e3:=mR c3
 have hxv:=hs.opnd x
 rw[hx,svm]at hxv;obtain⟨b,hb,hv⟩:=hxv
 obtain⟨b',arr,us,q1,q2,q3,q4,q5⟩:=hs.objs k _ hg
 rw[hb]at q1;simp only[Value.pointer.injEq,Option.some.injEq,Addr.mk.injEq,and_true]at q1;subst q1
 have hcells:=hs.cells (hs.opnd y) c1
 have hlen:=bb hcells
 have hlen2:=bb q5
 have hone:=oB hs hcells c4
 have hal:arr.size=(N k).pre.length+us.length+(N k).post.length:=by rw[<-arr.length_toList,q4];simp[Nat.add_assoc]
 have hrun:=lw hT hi ho hv q3 (by omega) (by omega) hone
 refine fl hrun ⟨_,env,M,N,hn,?_,(aX a op.dst undef).2,Fr.write hs hrd hg (by rw[q2];simp) fun b' hb'=>setRow_other w b b' _ hb'⟩
 rw[(aX a op.dst undef).1,hd]
 have hap:=hs.apart k _ b hg (by rw[q2];simp)
 have hbm:b∈(N k).φ:=by rw[q2];simp
 refine hs.write hg hbm rfl rfl rfl (by simp) (fun b' hb' _=>setRow_other w b b' _ hb') ?_
 refine⟨b,_,us.take off++(a.eval y).cells.toList++us.drop (off+(a.eval y).cells.toList.length),hb,q2,setRow_heap w b arr _ (N k).ty _ q3,?_,?_⟩
 ·rw[q4]
  have e1:((N k).pre++us++(N k).post).take ((N k).pre.length+off)=(N k).pre++us.take off:=by
   rw[List.append_assoc,List.take_append,List.take_of_length_le (by omega),Nat.add_sub_cancel_left,List.take_append_of_le_length (by omega)]
  have e2':((N k).pre++us++(N k).post).drop ((N k).pre.length+off+(a.eval y).cells.toList.length)=us.drop (off+(a.eval y).cells.toList.length)++(N k).post:=by
   rw[List.append_assoc,Nat.add_assoc,<-List.drop_drop,List.drop_left,List.drop_append_of_le_length (by omega)]
  rw[e1,e2']
  simp
 ·rw[sR _ _ _ (by omega),<-hlen]
  exact svms.keep (fun b' hb'=>⟨hb',setRow_other w b b' _ (fun e=>hap.1 (e ▸ hb'))⟩) (fun b' hb'=>setRow_other w b b' _ (fun e=>hap.2 (e ▸ hb'))) (bS (bS (dN off q5) hcells) (dM _ q5))
end
end Dx
namespace Dx
open Go
section
variable {Φ:Phi} {cx:Ctx} {M:Nat->Prop} {N:Nm} {env:List C} {s:St} {tm:Array Value} {w:World} {o:Out}
variable {P:Program} {T:Tab} {a:Act} {op:Oper}
theorem rN{e n m cap g:Nat}{v:Value}{xs us:List Value}{cur:Array Value}{j off:Nat}(hv:v=.slice (some ⟨g,0,none⟩) m cap)(hh:w.heap[g]?=some (.cells cur e (0,0)))(hmc:m<=cap)(hcm:cap<=maxLen)(hcs:cur.size=cap*n)(htake:cur.toList.take (m*n)=xs)
  (hj:j<m) (hoff:off+us.length<=n) :
  let w':=w.setRow g (cur.toList.take (j*n+off)++us++cur.toList.drop (j*n+off+us.length)).toArray
  let ys:=xs.take (j*n)++((xs.drop (j*n)).take off++us++((xs.drop (j*n)).take n).drop (off+us.length))++xs.drop ((j+1)*n)
  w'.ownsRow 0 e n v m ys/\(∀ b,b≠g->w'.heap[b]?=w.heap[b]?):=by
 have hle1:(j+1)*n<=m*n:=Nat.mul_le_mul_right _ hj
 have hle2:m*n<=cap*n:=Nat.mul_le_mul_right _ hmc
 have hle1':j*n+n<=m*n:=by rw[Nat.add_mul,Nat.one_mul]at hle1;exact hle1
 have hxl:xs.length=m*n:=by rw[<-htake,List.length_take,Array.length_toList];omega
 have hbig:cur.toList=xs++cur.toList.drop (m*n):=by rw[<-htake,List.take_append_drop]
 have hnew:(cur.toList.take (j*n+off)++us++cur.toList.drop (j*n+off+us.length)).take (m*n) =
   xs.take (j*n)++((xs.drop (j*n)).take off++us++((xs.drop (j*n)).take n).drop (off+us.length))++xs.drop ((j+1)*n):=by
  rw[hbig,<-hxl,Nat.add_mul,Nat.one_mul]
  exact KJ xs us _ (j*n) off n hoff (by omega)
 refine⟨⟨?_,.inr ⟨g,cap,_,hv,Nat.zero_le _,setRow_heap w g cur _ e _ hh,hmc,hcm,?_,?_⟩⟩,fun b hb=>setRow_other w g b _ hb⟩
 ·rw[<-hnew,List.length_take]
  simp only[List.length_append,List.length_take,List.length_drop,Array.length_toList];omega
 ·simp only[List.size_toArray,List.length_append,List.length_take,List.length_drop,Array.length_toList];omega
 ·exact hnew
theorem rO{xs us:List Value}{j n off m:Nat}(hxl:xs.length=m*n)(hj:j<m)(hoff:off+us.length<=n) :
  let ys:=xs.take (j*n)++((xs.drop (j*n)).take off++us++((xs.drop (j*n)).take n).drop (off+us.length))++xs.drop ((j+1)*n)
  ys.take (j*n)=xs.take (j*n)/\(ys.drop (j*n)).take n=(xs.drop (j*n)).take off++us++((xs.drop (j*n)).take n).drop (off+us.length)/\ys.drop ((j+1)*n)=xs.drop ((j+1)*n):=by
 have hle1:(j+1)*n<=m*n:=Nat.mul_le_mul_right _ hj
 have hle1':j*n+n<=m*n:=by rw[Nat.add_mul,Nat.one_mul]at hle1;exact hle1
 have l0:(xs.take (j*n)).length=j*n:=by rw[List.length_take];omega
 have l1:((xs.drop (j*n)).take off++us++((xs.drop (j*n)).take n).drop (off+us.length)).length=n:=by
  simp only[List.length_append,List.length_take,List.length_drop];omega
 intro ys
 refine⟨?_,?_,?_⟩
 ·show List.take _ (_++_++_)=_
  rw[List.append_assoc,List.take_left' l0]
 ·show List.take _ (List.drop _ (_++_++_))=_
  rw[List.append_assoc,List.drop_left' l0,List.take_left' l1]
 ·show List.drop _ (_++_++_)=_
  rw[List.drop_left' (by rw[List.length_append,l0,l1,Nat.add_mul,Nat.one_mul])]
theorem CS(hT:bK P T){t:Nat}{i:TI}(hi:T t=some i){x y:Operand}(ho:op.op=.store t x y)(hd:op.dst=none){k sz off e:Nat}{row:List Sh}{l ii jj:At}{vs:List SV}{K:St->Tree}{rd:List Nat}(hrd:ov rd k=true)(hsz:sz=row.length)
  (hn:den Φ (EN s i.sz k off e row l ii jj vs (opnd s.sl y) K) env=some o) (hs:Sat cx M N env s a.tmps w) (hx:opnd s.sl x=.eptr k sz jj off) (hg:ar s.hp k=some (.foc e row l ii vs)) (Q:Exit->Act->World->Prop):op.wp P a w (gh Φ K o cx rd M N s w a.defers) Q:=by
 unfold EN at hn
 split at hn
 case h_2=>cases hn
 rename_i c1 c2 c3 c4
 obtain⟨hc,hn⟩:=b9 hn
 have e2:=br c2
 have e3:=mR c3
 have hxv:=hs.opnd x
 rw[hx,svm]at hxv;obtain⟨g,n0,cap0,j0,hb,hj0,hjn,hv⟩:=hxv
 obtain⟨vals,X1,X2,j,es,f1,f2,hjl,f4,h3,g1,g2,g3,g4,h5,h6⟩:=hs.objs k _ hg
 have hjj:j0=j:=by
  have:(jj.den env).toInt=(ii.den env).toInt:=by simpa [Prim.den,aK,Cell.den,ci] using hc
  omega
 subst hjj
 rw[hb]at h3
 rcases h3.2 with ⟨p1,_⟩|⟨g',cap,cur,p1,p0,p2,p3,p4,p5,p6⟩
 ·simp at p1
 have p1':=p1
 simp only[Value.slice.injEq,Option.some.injEq,Addr.mk.injEq,and_true]at p1
 obtain⟨rfl,rfl,rfl⟩:=p1
 have hcells:=hs.cells (hs.opnd y) c1
 have hlen:=bb hcells
 have hone:=oB hs hcells c4
 subst hsz
 have hle1:(j0+1)*row.length<=es.length*row.length:=Nat.mul_le_mul_right _ hjl
 have hle2:es.length*row.length<=cap0*row.length:=Nat.mul_le_mul_right _ p3
 rw[Nat.add_mul,Nat.one_mul]at hle1
 have hrun:=lw hT hi ho hv p2 (by omega) (by omega) hone
 have hgφ:g∈(N k).φ:=by rw[f4,hb];simp[blk]
 obtain⟨hw1,hw2⟩:=rN (w:=w) (j:=j0) (off:=off) (us:=(a.eval y).cells.toList) p1' p2 p3 p4 p5 p6 hjl (by omega)
 have hxl:vals.length=es.length*row.length:=h3.1
 obtain⟨r1,r2,r3⟩:=rO (us:=(a.eval y).cells.toList) (off:=off) hxl hjl (by omega)
 have hap:=hs.apart k _ g hg hgφ
 have hnd:=hs.nodup k _ hg
 rw[f4,hb]at hnd
 have hnd':g∉X1++X2:=by simpa [blk] using(List.nodup_cons.1 (show (g::(X1++X2)).Nodup from hnd)).1
 have hMw:∀ b',M b'->M b'/\_=w.heap[b']?:=fun b' hb'=>⟨hb',hw2 b' (fun e=>hap.1 (e ▸ hb'))⟩
 refine fl hrun ⟨_,env,M,N,hn,?_,(aX a op.dst undef).2,Fr.write hs hrd hg hgφ fun b' hb'=>hw2 b' hb'⟩
 rw[(aX a op.dst undef).1,hd]
 refine hs.write hg hgφ rfl rfl rfl (by simp) (fun b' hb' _=>hw2 b' hb') ?_
 have hlen2:=bb g2
 rw[obm]
 refine⟨_,X1,X2,j0,es,f1,f2,hjl,f4,by rw[hb];exact hw1,?_,?_,by rw[vF];exact g3,?_,h5,h6⟩
 ·refine cH (rowsP.mono (fun r us Y hY hh=>shR.mono hMw row r us Y (fun b' hb'=>hw2 b' fun e=>hnd' (e ▸ List.mem_append_left _ (hY b' hb'))) hh) g1) ?_
  have:(es.take j0).length=j0:=by rw[List.length_take];omega
  rw[this,r1]
 ·rw[r2,sR _ _ _ (by omega)]
  refine svms.keep hMw (fun b' hb'=>hw2 b' (fun e=>hap.2 (e ▸ hb'))) (bS (bS ?_ hcells) ?_)
  ·have:=dN off g2
   rwa [List.take_take,Nat.min_eq_left (by omega)]at this
  ·rw[<-hlen];exact dM _ g2
 ·rw[r3]
  exact rowsP.mono (fun r us Y hY hh=>shR.mono hMw row r us Y (fun b' hb'=>hw2 b' fun e=>hnd' (e ▸ List.mem_append_right _ (hY b' hb'))) hh) g4
theorem fI:∀ {shs:List Sh} {cs:List C} {vs:List Value},bL shs=true->repRow w M cs vs->cs.length=shs.length->vs.length=shs.length->shR w M shs cs vs []
 | [],cs,vs,_,_,h1,h2=>by
  rw[shR];exact⟨List.eq_nil_of_length_eq_zero h1,List.eq_nil_of_length_eq_zero h2,rfl⟩
 | .arr _ _::shs,cs,vs,ha,_,_,_=>by simp[bL]at ha
 | .val::shs,[],vs,_,_,h1,_=>by simp at h1
 | .val::shs,c::cs,vs,ha,h,h1,h2=>by
  rw[repRow]at h
  obtain⟨v,vs',rfl,k1,k2⟩:=h
  rw[shR]
  exact⟨c,cs,v,vs',[],[],rfl,rfl,rfl,by rw[shC];exact⟨rfl,k1⟩,fI (by simpa [bL] using ha) k2 (by simpa using h1) (by simpa using h2)⟩
theorem bR:∀ {shs:List Sh} {cs:List C} {vs:List Value} {X:List Nat},bL shs=true->shR w M shs cs vs X->X=[]
 | [],_,_,_,_,h=>by rw[shR]at h;exact h.2.2
 | .arr _ _::shs,_,_,_,ha,_=>by simp[bL]at ha
 | .val::shs,cs,vs,X,ha,h=>by
  rw[shR]at h
  obtain⟨c,cs',v,vs',X1,X2,rfl,rfl,rfl,h1,h2⟩:=h
  rw[shC]at h1
  rw[h1.1,bR (by simpa [bL] using ha) h2];rfl
theorem iz:∀ n,bL (vals n)=true
 | 0=>rfl
 | n+1=>by show bL (.val::vals n)=true;exact iz n
theorem vM:∀ {shs:List Sh} {s s':St} {xs:List SV} {cs:List Cell},jb s shs xs=some (s',cs)->cs.length=shs.length/\xs.length=shs.length
 | [],s,s',xs,cs,h=>by
  cases xs with
  | nil=>simp only[jb,Option.some.injEq,Prod.mk.injEq]at h;rw[<-h.2];exact⟨rfl,rfl⟩
  | cons=>simp[jb]at h
 | sh::shs,s,s',xs,cs,h=>by
  cases xs with
  | nil=>simp[jb]at h
  | cons x xs =>
   simp only[jb]at h
   split at h
   case h_2=>cases h
   rename_i s1 c σ h1
   split at h
   case h_2=>cases h
   rename_i s2 cs' h2
   simp only[Option.some.injEq,Prod.mk.injEq]at h
   obtain⟨_,rfl⟩:=h
   have:=vM h2
   refine⟨by simp[this.1],?_⟩
   have e:=this.2
   rcases σ with _|⟨k,l⟩
   ·simpa [mK] using e
   ·simp only[mK,kP]at e;simp[e]
theorem CT(hT:bK P T){t:Nat}{i:TI}(hi:T t=some i){x y:Operand}(ho:op.op=.store t x y)(hd:op.dst=none){k sz off e:Nat}{row:List Sh}{l jj:At}{K:St->Tree}{rd:List Nat}(hrd:ov rd k=true)(hsz:sz=row.length)
  (hn:den Φ (EO s i.sz k off e row l jj (opnd s.sl y) K) env=some o) (hs:Sat cx M N env s a.tmps w) (hx:opnd s.sl x=.eptr k sz jj off) (hg:ar s.hp k=some (.arr e row l)) (Q:Exit->Act->World->Prop):op.wp P a w (gh Φ K o cx rd M N s w a.defers) Q:=by
 unfold EO at hn
 split at hn
 case h_2=>cases hn
 rename_i c1 c2 c3 c4
 have hsm:=(oh c1).2
 have c1:=(oh c1).1
 split at hn
 case h_2=>cases hn
 rename_i s1 cells hcon
 split at hn
 case h_2=>cases hn
 rename_i e' row' l' hg1
 have e2:=br c2
 have e3:=mR c3
 subst hsz
 have hxv:=hs.opnd x
 rw[hx,svm]at hxv;obtain⟨g,n0,cap0,j0,hb,hj0,hjn,hv⟩:=hxv
 have hcells:=hs.cells (hs.opnd y) c1
 have hlen:=bb hcells
 obtain⟨M',X,hh,hrow⟩:=eg (Y:=[]) _ hs hcon hcells (fun b hb=>by simp at hb) (by simp)
 have hXn:=bR (iz _) hrow
 subst hXn
 have hrr:=iI (iz _) hrow
 have hcl:=(cD hrow).1
 have hvl:(vals i.sz).length=i.sz:=by simp[vals]
 rw[hvl]at hcl
 obtain⟨at',s2,ds,k1,k2,k3,k4,k5,k6,k7,_⟩:=cF hn hh.sat
 have hone:∀ v∈(a.eval y).cells.toList,v.oneCell'=true:=sN hrow
 have hob:shC w M (.arr e row) (.list (l.den env).toList) (N k).v (N k).φ:=hs.objs k _ hg
 rw[shC]at hob
 obtain⟨es,vals0,X',f1,f2,h3,h4,h5,h6⟩:=hob
 have f1':(l.den env).toList=es:=by injection f1
 have h3:=h3.own hsm
 rw[hb]at h3
 rcases h3.2 with ⟨p1,_⟩|⟨g',cap,cur,p1,p0,p2,p3,p4,p5,p6⟩
 ·simp at p1
 have p1':=p1
 simp only[Value.slice.injEq,Option.some.injEq,Addr.mk.injEq,and_true]at p1
 obtain⟨rfl,rfl,rfl⟩:=p1
 have hle1:(j0+1)*row.length<=es.length*row.length:=Nat.mul_le_mul_right _ hjn
 have hle2:es.length*row.length<=cap0*row.length:=Nat.mul_le_mul_right _ p3
 rw[Nat.add_mul,Nat.one_mul]at hle1
 have hrun:=lw hT hi ho hv p2 (by omega) (by omega) hone
 have hgφ:g∈(N k).φ:=by rw[f2,hb];simp[blk]
 obtain⟨hw1,hw2⟩:=rN (w:=w) (j:=j0) (off:=off) (us:=(a.eval y).cells.toList) p1' p2 p3 p4 p5 p6 hjn (by omega)
 have hxl:vals0.length=es.length*row.length:=h3.1
 obtain⟨r1,r2,r3⟩:=rO (us:=(a.eval y).cells.toList) (off:=off) hxl hjn (by omega)
 have hap:=hh.sat.apart k _ g hg1 hgφ
 have hMw:∀ b',M' b'->M' b'/\_=w.heap[b']?:=fun b' hb'=>⟨hb',hw2 b' (fun e=>hap.1 (e ▸ hb'))⟩
 refine fl hrun ⟨_,env++ds,M',N,k1,?_,(aX a op.dst undef).2,Fr.write hs hrd hg hgφ fun b' hb'=>hw2 b' hb'⟩
 rw[(aX a op.dst undef).1,hd]
 have hg2:ar s2.hp k=some (.arr e' row' l'):=by rw[k5];exact hg1
 refine k2.write hg2 hgφ rfl rfl rfl (by simp) (fun b' hb' _=>hw2 b' hb') ?_
 have hX0:∀ {es:List (List C)} {vs:List Value} {Y:List Nat},rowsP (shR w M row) row.length es vs Y->Y=[]:=by
  intro es
  induction es with
  | nil=>intro vs Y h;exact h
  | cons r rs ih =>
   intro vs Y h
   obtain⟨Y1,Y2,rfl,q1,q2⟩:=h
   rw[bR c4 q1,ih q2];rfl
 have hX':=hX0 h4
 subst hX'
 have hjl:j0<es.length:=hjn
 have hsp:es=es.take j0++(es[j0]::es.drop (j0+1)):=by rw[<-List.drop_eq_getElem_cons hjl,List.take_append_drop]
 have h4':=h4
 rw[hsp]at h4'
 obtain⟨X1,Y,hXY,g1,g2⟩:=co h4'
 obtain⟨Xr,X2,rfl,g3,g4⟩:=g2
 have hX1:X1=[]:=hX0 g1
 have hX2:X2=[]:=hX0 g4
 subst hX1;subst hX2
 have htl:(es.take j0).length=j0:=by rw[List.length_take];omega
 rw[htl]at g3 g4
 rw[List.drop_drop]at g4
 have hXr:=bR c4 g3
 subst hXr
 have g5:=cD g3
 have hset:(at'.den (env++ds)).toList=es.take j0++(vD es[j0] off (aK env cells)::es.drop (j0+1)):=by
  rw[k3.2.2.2]
  have:((Prim.setr off).den (aK env (cl l::ci .i64 jj::cells))).toList=setRow off (l.den env).toList (jj.den env).toInt.toNat (aK env cells):=rfl
  rw[this,f1',hj0,Int.toNat_natCast]
  unfold setRow
  rw[List.getElem?_eq_getElem hjl]
  dsimp only
  rw[List.set_eq_take_append_cons_drop,if_pos hjl]
 have hlen':(es.take j0++(vD es[j0] off (aK env cells)::es.drop (j0+1))).length=es.length:=by
  simp only[List.length_append,List.length_take,List.length_cons,List.length_drop];omega
 rw[obm,shC]
 refine⟨_,_,[],by rw[hset],by rw[f2],by rw[hlen',hb];exact .inl hw1,?_,h5,by rw[hlen'];exact h6⟩
 have hrow':∀ {r us Y},shR w M row r us Y->shR (w.setRow g (cur.toList.take (j0*row.length+off)++(a.eval y).cells.toList++cur.toList.drop (j0*row.length+off+(a.eval y).cells.toList.length)).toArray) M' row r us Y:=fun {r us Y} hh'=>by
  have hY:=bR c4 hh'
  subst hY
  exact shR.mono (fun b' hb'=>⟨hh.sub b' hb',(hMw b' (hh.sub b' hb')).2⟩) row r us [] (by simp) hh'
 refine dn (X:=[]) (Y:=[]) (cH (rowsP.mono (fun _ _ _ _ hh'=>hrow' hh') g1) (by rw[htl,r1])) ?_
 rw[htl]
 refine⟨[],[],rfl,?_,?_⟩
 ·rw[r2]
  have hrt:=iI c4 g3
  have hrepr:repRow w M' es[j0] ((vals0.drop (j0*row.length)).take row.length):=repRow.mono (fun b hb=>⟨hh.sub b hb,rfl⟩) _ _ hrt
  have hp:=AC (off:=off) hrepr hrr (by omega) (by omega)
  rw[List.take_take,Nat.min_eq_left (by omega)]at hp
  have hL:(aK env cells).length=(a.eval y).cells.toList.length:=by omega
  rw[hL]at hp
  refine fI c4 (repRow.mono (fun b' hb'=>hMw b' hb') _ _ hp) (by rw[vK];exact g5.1) ?_
  have:=g5.2
  simp only[List.length_append,List.length_take,List.length_drop]at this ⊢
  omega
 ·rw[List.drop_drop,<-Nat.add_one_mul,r3,Nat.add_mul,Nat.one_mul]
  exact rowsP.mono (fun _ _ _ _ hh'=>hrow' hh') g4
end
end Dx
namespace Dx
open Go
theorem dS(g:Nat):∀(vs:List Value) (o:Nat) (w:World) (arr:Array Value) (ty:TypeId) (fr:Nat×Nat),w.heap[g]?=some (.cells arr ty fr)->o+vs.length<=arr.size ->
  ∃ arr',(w.setCells g o vs).heap[g]?=some (.cells arr' ty fr)/\arr'.toList=arr.toList.take o++vs++arr.toList.drop (o+vs.length)
 | [],o,w,arr,ty,fr,h,_=>⟨arr,h,by simp⟩
 | v::vs,o,w,arr,ty,fr,h,hl=>by
  have h1:(w.setCell ⟨g,o,none⟩ v).heap[g]?=some (.cells (arr.setIfInBounds o v) ty fr):=by
   simp[World.setCell,Array.getElem?_modify,h]
  obtain⟨arr',h2,h3⟩:=dS g vs (o+1) _ _ ty fr h1 (by simp at hl ⊢;omega)
  refine⟨arr',h2,?_⟩
  rw[h3]
  have hlt:o<arr.toList.length:=by simp at hl ⊢;omega
  rw[Array.toList_setIfInBounds,List.drop_set_of_lt (by omega),List.take_set,List.length_cons,Nat.add_right_comm o 1,<-Nat.add_assoc]
  congr 1
  have hm:min o arr.size=o:=by simp at hlt;omega
  rw[List.take_succ_eq_append_getElem hlt,List.set_append_right _ _ (by simp[hm]),List.append_assoc]
  simp[hm]
theorem sS{w:World}{g:Nat}{cur:Array Value}{ty:TypeId}{fr:Nat×Nat}(h:w.heap[g]?=some (.cells cur ty fr))(k:Nat):w.cell? ⟨g,k,none⟩=cur[k]?:=by
 simp[World.cell?,h]
theorem lx{w:World}{g:Nat}{cur:Array Value}{ty:TypeId}(h:w.heap[g]?=some (.cells cur ty (0,0)))(k:Nat):w.frozen? ⟨g,k,none⟩=false:=by
 simp[World.frozen?,h]
theorem dG(g:Nat):∀(vs:List Value) (o:Nat) (w:World),(w.setCells g o vs).os=w.os/\(w.setCells g o vs).tape=w.tape/\(w.setCells g o vs).output=w.output/\(w.setCells g o vs).heap.size=w.heap.size/\∀ b,b≠g->(w.setCells g o vs).heap[b]?=w.heap[b]?
 | [],_,_=>⟨rfl,rfl,rfl,rfl,fun _ _=>rfl⟩
 | v::vs,o,w=>by
  obtain⟨h1,h2,h3,h4,h5⟩:=dG g vs (o+1) (w.setCell ⟨g,o,none⟩ v)
  refine⟨h1,h2,h3,h4.trans (by simp[World.setCell]),fun b hb=>(h5 b hb).trans ?_⟩
  simp[World.setCell,Array.getElem?_modify,Ne.symm hb]
theorem kR{w:World}{b o:Nat}{arr:Array Value}{ty:TypeId}{fr:Nat×Nat}(hh:w.heap[b]?=some (.cells arr ty fr))(k:Nat):∀ j u,((arr.toList.drop o).take k)[j]?=some u->w.cell? ((⟨b,o,none⟩:Addr).add j)=some u:=by
 intro j u hu
 rw[add_zero,cell_of_row w b (o+j) arr ty fr hh]
 rw[List.getElem?_take]at hu
 split at hu
 ·simpa using hu
 ·cases hu
def uo:List CK->Bool
 | []=>true
 | .list::_=>false
 | _::r=>uo r
def KK(s:St)(n:Nat):SV->SV->Option (List Sh)
 | .nil,.sl k=>match ar s.hp k with
  | some (.arr _ row _)=>some row
  | _=>none
 | .nil,_=>some (vals n)
 | .sl k,_=>match ar s.hp k with
  | some (.arr _ row _)=>some row
  | _=>none
 | _,_=>none
def EP(s:St)(ks:List CK)(row:List Sh):SV->Option (At×Bool×St)
 | .nil=>some (.e,false,s)
 | .view true l=>match bL row with
  | true=>some (l,true,s)
  | false=>none
 | .view false l=>match bL row,uo ks with
  | true,true=>some (l,true,s)
  | _,_=>none
 | .sl k=>match ar s.hp k with
  | some (.arr _ row' l)=>match Sh.beqs row' row with
   | true=>match bL row with
    | true=>some (l,false,s)
    | false=>some (l,false,{s with hp:=cw s.hp k})
   | false=>none
  | _=>none
 | _=>none
def EQ(s:St)(rd:List Nat)(e:Nat)(row:List Sh):SV->Option (Nat×At×St)
 | .nil=>match eH e with
  | true=>some (e,.e,s)
  | false=>none
 | .sl k=>match ar s.hp k with
  | some (.arr e' row' l)=>match Nat.beq e' e && eH e || Nat.beq e' (BIG+e),Sh.beqs row' row,ov rd k with
   | true,true,true=>some (e',l,{s with hp:=cw s.hp k})
   | _,_,_=>none
  | _=>none
 | _=>none
def AD(b:Bool)(p:Prim)(args:List Cell)(t:Tree):Tree:=match b with
 | true=>fH p args t
 | false=>t
def app(T:Tab)(rd:List Nat)(s:St)(t:Nat)(d:Option Tmp)(x y:Operand)(K:St->Tree):Tree :=
 match T t with
 | some i=>match i.d with
  | .slice e=>match T e with
   | some ie=>match Nat.ble ie.bytes 128,Nat.blt 0 ie.sz && s.ok,uk ie.zero,KK s ie.sz (opnd s.sl x) (opnd s.sl y)with
    | true,true,some ks,some row=>match Nat.beq row.length ie.sz,Nat.beq ks.length ie.sz,EP s ks row (opnd s.sl y)with
     | true,true,some (src,b,s1)=>match EQ s1 rd e row (opnd s.sl x)with
      | some (e',dst,s2)=>AD b (.rowsk ks) [cl src] (fH .fits [cl dst,cl src] (ou s2 .app [cl dst,cl src] fun a s3=>match s3.ok with
       | true=>K (ct {s3 with hp:=(s3.nx,.arr e' row a)::s3.hp,nx:=s3.nx+1} d (.sl s3.nx))
       | false=>.fail))
      | none=>.fail
     | _,_,_=>.fail
    | _,_,_,_=>.fail
   | none=>.fail
  | _=>.fail
 | none=>.fail
section
variable {Φ:Phi} {cx:Ctx} {M:Nat->Prop} {N:Nm} {env:List C} {s:St} {tm:Array Value} {w:World} {o:Out}
variable {P:Program} {T:Tab} {a:Act} {op:Oper}
theorem jd(w:World)(t ty e:TypeId)(i:TypeInfo)(z:Value)(size bytes:Nat)(ht:P.underlying t=some (.slice e))(hi:P.info? e=some i)(hz:i.zero=some z)
  (hsize:i.size=size) (hby:i.bytes=bytes) (hzs:z.cells.size=size) (hsz:0<size) (v:Value) (n:Nat) (xs:List Value) (hown:w.ownsRow 0 e size v n xs)
  (ad:Addr) (m c:Nat) (news:List Value) (hl:news.length=m*size) (hnews:∀ j u,news[j]?=some u->w.cell? (ad.add j)=some u) (h1:∀ u∈news,u.oneCell'=true)
  (h63:n+m<=maxLen) (hbytes:(n+m)*bytes<=140737488355328) :
  ∃ v' w',(Builtin.append_ #[t,t] ty #[v,.slice (some ad) m c]).run P w=.ok v' w'/\w'.ownsRow 0 e size v' (n+m) (xs++news)/\w.grownBy w' v.ownBlock ∧
   (v'.ownBlock=v.ownBlock\/v'.ownBlock=some w.heap.size):=by
 obtain⟨v',w',hr,h2,h3,h4⟩:=run_append_own (P:=P) w 0 t ty e i z size bytes ht hi hz hsize hby hzs hsz v n xs hown ad m c news hl hnews h1 h63 hbytes (Nat.zero_le _)
 refine⟨v',w',hr,h2,h3,?_⟩
 have h63':n+m<=9223372036854775807:=h63
 rcases hown.2 with ⟨rfl,rfl⟩|⟨g,cap,cur,rfl,_,hg,hnc,hcm,hcs,htake⟩
 ·by_cases hm:m=0
  ·left;rw[h4.2 ⟨rfl,hm⟩]
  ·right
   have hr':=run_append_nil (P:=P) w t ty e i z ht hi hz ad m c news (by rw[hsize];exact hl) hnews (by omega) (by omega) (by rw[hby];simp only[Nat.zero_add]at hbytes;omega)
   rw[hr]at hr'
   simp only[Result.ok.injEq]at hr'
   rw[hr'.1];rfl
 ·by_cases hroom:n+m<=cap
  ·left
   obtain⟨w2,hr',_,_⟩:=run_append_fits (P:=P) w 0 t ty e i size ht hi hsize g n cap xs hown ad m c news hl hnews h1 hroom
   rw[hr]at hr'
   simp only[Result.ok.injEq]at hr'
   rw[hr'.1];rfl
  ·right
   have holds:∀ j u,xs[j]?=some u->w.cell? ((⟨g,0,none⟩:Addr).add j)=some u:=hown.cells (g:=g) rfl
   have hr':=run_append_grow (P:=P) w t ty e i z ht hi hz ⟨g,0,none⟩ n cap xs (by rw[hsize];exact hown.1) holds ad m c news (by rw[hsize];exact hl) hnews (by omega) (by omega) (growslice_fits (by omega) (by rw[hby];exact hbytes))
   rw[hr]at hr'
   simp only[Result.ok.injEq]at hr'
   rw[hr'.1];rfl
theorem mW(w:World)(t ty e:TypeId)(i:TypeInfo)(z:Value)(size bytes:Nat)(ht:P.underlying t=some (.slice e))(hi:P.info? e=some i)(hz:i.zero=some z)
  (hsize:i.size=size) (hby:i.bytes=bytes) (hzs:z.cells.size=size) (hsz:0<size) (v:Value) (n:Nat) (xs:List Value) (hxl:xs.length=n*size) (hown:(v=.slice none 0 0/\n=0)\/qa w size v n xs)
  (ad:Addr) (m c:Nat) (news:List Value) (hl:news.length=m*size) (hnews:∀ j u,news[j]?=some u->w.cell? (ad.add j)=some u) (h1:∀ u∈news,u.oneCell'=true)
  (h63:n+m<=maxLen) (hbytes:(n+m)*bytes<=140737488355328) :
  ∃ v' w',(Builtin.append_ #[t,t] ty #[v,.slice (some ad) m c]).run P w=.ok v' w'/\((v'=.slice none 0 0/\n+m=0)\/qa w' size v' (n+m) (xs++news))/\w.grownBy w' v.ownBlock ∧
   (v'.ownBlock=v.ownBlock\/v'.ownBlock=some w.heap.size):=by
 have own:∀ {w':World} {v':Value} {k:Nat} {ys:List Value},w'.ownsRow w.heap.size e size v' k ys->(v'=.slice none 0 0/\k=0)\/qa w' size v' k ys:=fun h =>
  h.2.imp id fun⟨g,cap,cur,q1,_,q2,q3,q4,q5,q6⟩=>⟨g,0,cap,e,cur,q1,q2,q3,q4,by omega,by simpa using q6⟩
 rcases hown with ⟨rfl,rfl⟩|⟨g,o,cap,ty0,cur,rfl,hg,hnc,hcm,hcs,htake⟩
 ·have hx0:xs=[]:=List.eq_nil_of_length_eq_zero (by simpa using hxl)
  subst hx0
  obtain⟨v',w',r1,r2,r3,r4⟩:=jd (P:=P) w t ty e i z size bytes ht hi hz hsize hby hzs hsz _ 0 [] (World.ownsRow_nil w 0 e size) ad m c news hl hnews h1 h63 hbytes
  exact⟨v',w',r1,r2.2.imp id fun⟨g,cap,cur,q1,_,q2,q3,q4,q5,q6⟩=>⟨g,0,cap,e,cur,q1,q2,q3,q4,by omega,by simpa using q6⟩,r3,r4⟩
 ·have hle:(n+m)*size<=n*size+m*size:=by rw[Nat.add_mul];exact Nat.le_refl _
  by_cases hroom:n+m<=cap
  ·have hle2:(n+m)*size<=cap*size:=Nat.mul_le_mul_right _ hroom
   rw[Nat.add_mul]at hle2
   subst hsize
   have hr:=run_append_room_cells (P:=P) w t ty e i ht hi g o n cap ad m c news hl hnews h1 hroom
    (fun j hj=>by rw[sS hg,Array.getElem?_eq_getElem (by omega)];rfl) (fun j hj=>lx hg _)
   obtain⟨cur',a1,a2⟩:=dS g news (o+n*i.size) w cur ty0 (0,0) hg (by omega)
   obtain⟨b1,b2,b3,b4,b5⟩:=dG g news (o+n*i.size) w
   refine⟨_,_,hr,.inr ⟨g,o,cap,ty0,cur',rfl,a1,hroom,hcm,?_,?_⟩,⟨b1,b2,b3,Nat.le_of_eq b4.symm,fun k _ hk=>b5 k fun e=>hk (by rw[e];rfl)⟩,.inl rfl⟩
   ·have:=congrArg List.length a2
    simp only[Array.length_toList,List.length_append,List.length_take,List.length_drop]at this
    omega
   ·have hcl:o+n*i.size<=cur.toList.length:=by rw[Array.length_toList];omega
    have h2:(cur.toList.take (o+n*i.size)).drop o=xs:=by
     rw[List.drop_take,show o+n*i.size-o=n*i.size by omega];exact htake
    rw[a2,List.append_assoc,List.drop_append_of_le_length (by rw[List.length_take];omega),h2,<-List.append_assoc,Nat.add_mul,List.take_left' (by rw[List.length_append,hxl,hl])]
  ·obtain⟨v',w',r1,r2,r3⟩:=run_append_arg_grows (P:=P) w t ty e i z size bytes ht hi hz hsize hby hzs hsz ⟨g,o,none⟩ n cap xs hxl (fun j u hj=>by
     have:=kR (o:=o) hg (n*size) j u
     rw[htake]at this;exact this hj) ad m c news hl hnews (by omega) h63 hbytes
   refine⟨v',w',r1,own r2,⟨r3.os,r3.tape,r3.output,r3.size,fun k hk _=>r3.block k hk (by simp)⟩,?_⟩
   right
   have hbig:0<n+m:=by omega
   rcases r2.2 with ⟨_,q⟩|⟨g',cap',cur',q1,q2,q3,_⟩
   ·omega
   ·rw[q1]
    have h1:g'<w'.heap.size:=(Array.getElem?_eq_some_iff.1 q3).1
    have hr:=run_append_grow (P:=P) w t ty e i z ht hi hz ⟨g,o,none⟩ n cap xs (by rw[hsize];exact hxl) (fun j u hj=>by
     have:=kR (o:=o) hg (n*size) j u
     rw[htake]at this;exact this hj) ad m c news (by rw[hsize];exact hl) hnews (by omega) (by simp only[maxLen]at h63;omega) (growslice_fits (by omega) (by rw[hby];exact hbytes))
    rw[r1]at hr
    simp only[Result.ok.injEq]at hr
    rw[q1]at hr
    simp only[Value.slice.injEq,Option.some.injEq,Addr.mk.injEq,and_true]at hr
    simp only[Value.ownBlock]
    rw[hr.1.1]
theorem gM(w:World)(t ty e:TypeId)(i:TypeInfo)(ht:P.underlying t=some (.slice e))(hi:P.info? e=some i)(B A:Option Addr)(n cap c:Nat)(hnc:n<=cap) :
  (Builtin.append_ #[t,t] ty #[.slice B n cap,.slice A 0 c]).run P w=.ok (.slice B n cap) w:=by
 cases A<;>cases B<;>simp[Builtin.append_,run_underlying ht,Go.sizeOf,typeInfo,hi,Builtin.lenOf,Builtin.firstCells,loadCells,loadCellsFrom,hnc,storeCells]
def ER(w:World)(M:Nat->Prop)(row:List Sh)(es:List (List C))(v:Value)(X:List Nat):Prop :=
 ∃ A c,v=.slice A es.length c/\(es=[]/\X=[]\/∃ ad news,A=some ad/\news.length=es.length*row.length/\(∀ j u,news[j]?=some u->w.cell? (ad.add j)=some u)/\rowsP (shR w M row) row.length es news X)
theorem l4{M':Nat->Prop}:∀ {ks:List CK} {r:List C} {vs:List Value},uo ks=true->ak ks r=true->repRow w M r vs->repRow w M' r vs
 | _,[],_,_,_,_=>cZ _
 | [],_::_,_,_,hk,_=>by simp[ak]at hk
 | k::ks,c::cs,vs,hf,hk,h=>by
  simp only[ak]at hk
  split at hk
  case h_2=>cases hk
  rename_i hk1
  rw[repRow]at h ⊢
  obtain⟨v,vs',rfl,h1,h2⟩:=h
  have hf':uo ks=true/\k≠.list:=by cases k<;>simp_all [uo]
  refine⟨v,vs',rfl,?_,l4 hf'.1 hk h2⟩
  cases c
  case list l=>cases k<;>simp_all [fG]
  all_goals rw[repC]at h1 ⊢;exact h1
theorem j9{Z:Nat->Prop}{row:List Sh}{ks:List CK}(hav:bL row=true)(hkl:ks.length=row.length)(hZ:∀ {r:List C} {us:List Value},ak ks r=true->repRow w Z r us->repRow w M r us) :
  ∀ {es:List (List C)} {vs:List Value},es.length*row.length<=vs.length->repRows w Z row.length es vs->es.all (ak ks)=true->rowsP (shR w M row) row.length es vs []
 | [],_,_,_,_=>rfl
 | r::rs,vs,hl,h,ha=>by
  rw[repRows]at h
  simp only[List.all_cons,Bool.and_eq_true]at ha
  simp only[List.length_cons,Nat.add_mul,Nat.one_mul]at hl
  refine⟨[],[],rfl,?_,j9 hav hkl hZ (by rw[List.length_drop];omega) h.2.2 ha.2⟩
  refine fI hav (hZ ha.1 (cq h.2.1 ?_)) h.1 (by rw[List.length_take];omega)
  rw[h.1,List.take_take,Nat.min_self]
theorem KL(h:Sat cx M N env s a.tmps w){ks:List CK}{row:List Sh}{x:SV}{v:Value}{l:At}{b:Bool}{s1:St}(hkl:ks.length=row.length)(hrow:0<row.length)(hs:EP s ks row x=some (l,b,s1))(hx:svm w M cx.R N env x v)
  (hb:b=true->(l.den env).toList.all (ak ks)=true) :
  ∃ X,Sat cx M N env s1 a.tmps w/\ER w M row (l.den env).toList v X/\oq cx M N s1.hp X/\X.Nodup/\(∀ b∈X,b<w.heap.size)/\(∀ k o,ar s1.hp k=some o->ar s.hp k=some o)/\s1.sl=s.sl/\s1.nx=s.nx/\s1.nv=s.nv/\s1.pk=s.pk:=by
 have view:∀ t,bL row=true->(t=true\/uo ks=true)->repC w (MR M cx.R t) (.list (l.den env).toList) v->(l.den env).toList.all (ak ks)=true->ER w M row (l.den env).toList v []:=by
  intro t hav hfl hr hall
  rw[repC]at hr
  obtain⟨A,c,hv,hc,hL,hrep⟩:=hr
  refine⟨A,c,hv,?_⟩
  rcases hrep with h0|⟨b,o,sz,arr,ty,fr,rfl,hM,hh,hsz,hrows⟩
  ·exact .inl ⟨h0,rfl⟩
  ·by_cases hne:(l.den env).toList=[]
   ·exact .inl ⟨hne,rfl⟩
   ·have e1:sz=row.length:=by
     cases hq:(l.den env).toList with
     | nil=>exact absurd hq hne
     | cons r rs =>
      rw[hq]at hrows hall
      rw[repRows]at hrows
      simp only[List.all_cons,Bool.and_eq_true]at hall
      rw[<-hrows.1,aJ hall.1,hkl]
    subst e1
    have hl:=lU hrows
    refine .inr ⟨_,(arr.toList.drop o).take ((l.den env).toList.length*row.length),rfl,by rw[List.length_take];omega,kR hh _,?_⟩
    have h1:=eL hrows (us:=(arr.toList.drop o).take ((l.den env).toList.length*row.length)) (by rw[List.take_take,Nat.min_self])
    refine j9 (Z:=MR M cx.R t) hav hkl (fun {r us} hk hr=>?_) (by rw[List.length_take];omega) h1 hall
    cases t with
    | true=>exact hr
    | false=>exact l4 (hfl.resolve_left (by simp)) hk hr
 cases x<;>simp only[EP,reduceCtorEq]at hs
 case nil =>
  simp only[Option.some.injEq,Prod.mk.injEq]at hs
  obtain⟨rfl,rfl,rfl⟩:=hs
  rw[svm]at hx;subst hx
  exact⟨[],h,⟨none,0,rfl,.inl ⟨rfl,rfl⟩⟩,fun b hb=>by simp at hb,by simp,by simp,fun _ _ hg=>hg,rfl,rfl,rfl,rfl⟩
 case view t l' =>
  cases t with
  | true =>
   dsimp only at hs
   split at hs
   case h_2=>cases hs
   rename_i hav
   simp only[Option.some.injEq,Prod.mk.injEq]at hs
   obtain⟨rfl,rfl,rfl⟩:=hs
   rw[svm]at hx
   exact⟨[],h,view true hav (.inl rfl) hx (hb rfl),fun b hb=>by simp at hb,by simp,by simp,fun _ _ hg=>hg,rfl,rfl,rfl,rfl⟩
  | false =>
   dsimp only at hs
   split at hs
   case h_2=>cases hs
   rename_i hav hfl
   simp only[Option.some.injEq,Prod.mk.injEq]at hs
   obtain⟨rfl,rfl,rfl⟩:=hs
   rw[svm]at hx
   exact⟨[],h,view false hav (.inr hfl) hx (hb rfl),fun b hb=>by simp at hb,by simp,by simp,fun _ _ hg=>hg,rfl,rfl,rfl,rfl⟩
 case sl k =>
  split at hs
  case h_2=>cases hs
  rename_i e row' l' hg
  split at hs
  case h_2=>cases hs
  rename_i hbq
  have:=Sh.beqs_ok _ _ hbq;subst this
  rw[svm]at hx;subst hx
  have hob:shC w M (.arr e row') (.list (l'.den env).toList) (N k).v (N k).φ:=h.objs k _ hg
  rw[shC]at hob
  obtain⟨es,vals,X',e1,e2,h3,h4,h5,h6⟩:=hob
  have e1':(l'.den env).toList=es:=by injection e1
  have src:ER w M row' (l'.den env).toList (N k).v X':=by
   rw[e1']
   rcases h3.slice with ⟨q1,q2⟩|⟨g,o,cap,e0,cur,q1,q2,q3,q6⟩
   ·have:es=[]:=List.eq_nil_of_length_eq_zero q2
    subst this
    exact⟨none,0,q1,.inl ⟨rfl,h4⟩⟩
   ·refine⟨_,cap,q1,.inr ⟨_,vals,rfl,h3.len,?_,h4⟩⟩
    have:=kR (o:=o) q2 (es.length*row'.length)
    rwa [q6]at this
  have hX0:∀ {es:List (List C)} {vs:List Value} {Y:List Nat},bL row'=true->rowsP (shR w M row') row'.length es vs Y->Y=[]:=by
   intro es
   induction es with
   | nil=>intro vs Y _ h;exact h
   | cons r rs ih =>
    intro vs Y hav h
    obtain⟨Y1,Y2,rfl,q1,q2⟩:=h
    rw[bR hav q1,ih hav q2];rfl
  split at hs
  ·rename_i hav
   simp only[Option.some.injEq,Prod.mk.injEq]at hs
   obtain⟨rfl,rfl,rfl⟩:=hs
   have:=hX0 hav h4;subst this
   exact⟨[],h,src,fun b hb=>by simp at hb,by simp,by simp,fun _ _ hg=>hg,rfl,rfl,rfl,rfl⟩
  ·simp only[Option.some.injEq,Prod.mk.injEq]at hs
   obtain⟨rfl,rfl,rfl⟩:=hs
   have hnd:=h.nodup k _ hg
   rw[e2]at hnd
   have hin:∀ b∈X',b∈(N k).φ:=fun b hb=>by rw[e2];exact List.mem_append_right _ hb
   refine⟨X',h.less fun _ _ hj=>(ay hj).1,src,fun b hb=>?_,(List.nodup_append.1 hnd).2.1,fun b hb=>h.blt k _ b hg (hin b hb),fun _ _ hj=>(ay hj).1,rfl,rfl,rfl,rfl⟩
   have:=h.apart k _ b hg (hin b hb)
   refine⟨this.1,this.2,fun j o hj hb'=>?_⟩
   obtain⟨p1,p2⟩:=ay hj
   exact p2 (h.dist j k o _ b p1 hg hb' (hin b hb))
theorem KM(h:Sat cx M N env s a.tmps w){rd:List Nat}{e:Nat}{row:List Sh}{x:SV}{v:Value}{l:At}{e':Nat}{s1:St}(hs:EQ s rd e row x=some (e',l,s1))(hx:svm w M cx.R N env x v){Y:List Nat}(hf:oq cx M N s.hp Y)(hn:Y.Nodup) :
  (e'=e/\eH e=true\/e'=BIG+e)/\Sat cx M N env s1 a.tmps w/\(∃ vals X,Ow w e' row.length v (l.den env).toList.length vals/\rowsP (shR w M row) row.length (l.den env).toList vals X/\oq cx M N s1.hp ((blk v).toList++(X++Y))/\((blk v).toList++(X++Y)).Nodup/\(∀ b∈(blk v).toList++X,b<w.heap.size) ∧
   (∀ b∈(blk v).toList,∃ k ob,ov rd k=true/\ar s.hp k=some ob/\b∈(N k).φ))/\(∀ k o,ar s1.hp k=some o->ar s.hp k=some o)/\s1.sl=s.sl/\s1.nx=s.nx/\s1.nv=s.nv/\s1.pk=s.pk:=by
 cases x<;>simp only[EQ,reduceCtorEq]at hs
 case nil =>
  split at hs
  case h_2=>cases hs
  rename_i hsm
  simp only[Option.some.injEq,Prod.mk.injEq]at hs
  obtain⟨rfl,rfl,rfl⟩:=hs
  rw[svm]at hx;subst hx
  exact⟨.inl ⟨rfl,hsm⟩,h,⟨[],[],.inl (World.ownsRow_nil w 0 e _),rfl,by simpa [blk] using hf,by simpa [blk] using hn,by simp[blk],by simp[blk]⟩,fun _ _ hg=>hg,rfl,rfl,rfl,rfl⟩
 case sl k =>
  split at hs
  case h_2=>cases hs
  rename_i e' row' l' hg
  split at hs
  case h_2=>cases hs
  rename_i hb1 hb2 hb3
  have hee:e'=e/\eH e=true\/e'=BIG+e:=by
   rcases Bool.or_eq_true _ _ ▸ hb1 with h|h
   ·exact .inl ⟨br (oh h).1,(oh h).2⟩
   ·exact .inr (br h)
  have:=Sh.beqs_ok _ _ hb2;subst this
  simp only[Option.some.injEq,Prod.mk.injEq]at hs
  obtain⟨rfl,rfl,rfl⟩:=hs
  rw[svm]at hx;subst hx
  refine⟨hee,?_⟩
  have hob:shC w M (.arr e' row') (.list (l'.den env).toList) (N k).v (N k).φ:=h.objs k _ hg
  rw[shC]at hob
  obtain⟨es,vals,X',e1,e2,h3,h4,h5,h6⟩:=hob
  have e1':(l'.den env).toList=es:=by injection e1
  have hnd:=h.nodup k _ hg
  refine⟨h.less fun _ _ hj=>(ay hj).1,⟨vals,X',by rw[e1'];exact h3,by rw[e1'];exact h4,fun b hb=>?_,?_,fun b hb=>h.blt k _ b hg (by rw[e2];exact hb),fun b hb=>⟨k,_,hb3,hg,by rw[e2];exact List.mem_append_left _ hb⟩⟩,fun _ _ hj=>(ay hj).1,rfl,rfl,rfl,rfl⟩
  ·rw[<-List.append_assoc,<-e2]at hb
   rcases List.mem_append.1 hb with hb|hb
   ·have:=h.apart k _ b hg hb
    refine⟨this.1,this.2,fun j o hj hb'=>?_⟩
    obtain⟨p1,p2⟩:=ay hj
    exact p2 (h.dist j k o _ b p1 hg hb' hb)
   ·have:=hf b hb
    exact⟨this.1,this.2.1,fun j o hj=>this.2.2 j o (ay hj).1⟩
  ·rw[<-List.append_assoc,<-e2]
   exact List.nodup_append.2 ⟨hnd,hn,fun x hx y hy e=>(hf y hy).2.2 k _ hg (e ▸ hx)⟩
theorem yE{b:Bool}{p:Prim}{args:List Cell}{t:Tree}(h:den Φ (AD b p args t) env=some o):(b=true->(p.den (aK env args)).toBool=true)/\den Φ t env=some o:=by
 cases b with
 | true=>have:=b9 h;exact⟨fun _=>this.1,this.2⟩
 | false=>exact⟨(by simp),h⟩
theorem qc(w:World)(t ty e e':TypeId)(i:TypeInfo)(z:Value)(size bytes:Nat)(ht:P.underlying t=some (.slice e))(hi:P.info? e=some i)(hz:i.zero=some z)
  (hsize:i.size=size) (hby:i.bytes=bytes) (hzs:z.cells.size=size) (hsz:0<size) (v:Value) (n:Nat) (xs:List Value) (hee:e'=e/\eH e=true\/e'=BIG+e) (hown:Ow w e' size v n xs)
  (ad:Addr) (m c:Nat) (news:List Value) (hl:news.length=m*size) (hnews:∀ j u,news[j]?=some u->w.cell? (ad.add j)=some u) (h1:∀ u∈news,u.oneCell'=true)
  (h63:n+m<=maxLen) (hbytes:(n+m)*bytes<=140737488355328) :
  ∃ v' w',(Builtin.append_ #[t,t] ty #[v,.slice (some ad) m c]).run P w=.ok v' w'/\Ow w' e' size v' (n+m) (xs++news)/\w.grownBy w' v.ownBlock ∧
   (v'.ownBlock=v.ownBlock\/v'.ownBlock=some w.heap.size):=by
 rcases hee with ⟨rfl,hsm⟩|rfl
 ·obtain⟨v',w',r1,r2,r3,r4⟩:=jd (P:=P) w t ty e' i z size bytes ht hi hz hsize hby hzs hsz v n xs (hown.own hsm) ad m c news hl hnews h1 h63 hbytes
  exact⟨v',w',r1,.inl r2,r3,r4⟩
 ·obtain⟨v',w',r1,r2,r3,r4⟩:=mW (P:=P) w t ty e i z size bytes ht hi hz hsize hby hzs hsz v n xs hown.len hown.raw ad m c news hl hnews h1 h63 hbytes
  exact⟨v',w',r1,.inr ⟨e,rfl,by rw[List.length_append,hown.len,hl,Nat.add_mul],r2⟩,r3,r4⟩
theorem ka{v:Value}(h:∃ A n c,v=.slice A n c):v.ownBlock=blk v:=by
 obtain⟨A,n,c,rfl⟩:=h
 cases A<;>rfl
theorem oC{e size n:Nat}{v:Value}{xs:List Value}(h:Ow w e size v n xs):∃ A m c,v=.slice A m c:=by
 rcases h.slice with ⟨q,_⟩|⟨g,o,cap,e0,cur,q,_⟩
 ·exact⟨_,_,_,q⟩
 ·exact⟨_,_,_,q⟩
theorem CU(hT:bK P T){t:Nat}{x y:Operand}(ho:op.op=.call {callee:=.builtin .append,args:=#[x,y],argTypes:=#[t,t]}){rd:List Nat}{K:St->Tree}(hn:den Φ (app T rd s t op.dst x y K) env=some o)(hs:Sat cx M N env s a.tmps w)(Q:Exit->Act->World->Prop) :
  op.wp P a w (gh Φ K o cx rd M N s w a.defers) Q:=by
 unfold app at hn
 split at hn
 case h_2=>cases hn
 rename_i i hi
 split at hn
 case h_2=>cases hn
 rename_i e hd
 split at hn
 case h_2=>cases hn
 rename_i ie hie
 split at hn
 case h_2=>cases hn
 rename_i ks row hby hpos hks hrow
 split at hn
 case h_2=>cases hn
 rename_i src b s1 hrl hkl hsrc
 split at hn
 case h_2=>cases hn
 rename_i e' dst s2 hdst
 have hrl:=br hrl
 have hkl:=br hkl
 have hby:=mR hby
 simp only[Bool.and_eq_true]at hpos
 obtain⟨hpos,hok0⟩:=hpos
 have hpos:=ap hpos
 obtain⟨hc1,hn⟩:=yE hn
 obtain⟨hc2,hn⟩:=b9 hn
 obtain⟨inf,d,z,h1,h2,h3,h4,h5,h6,h7,h8,h9⟩:=hT t i hi
 rw[hd]at h9
 have h9:d=.slice e:=h9
 subst h9
 obtain⟨inf',d',z',q1,q2,q3,q4,q5,q6,q7,q8,q9⟩:=hT e ie hie
 have hall:b=true->(src.den env).toList.all (ak ks)=true:=fun e=>by simpa [Prim.den,aK,Cell.den,cl] using hc1 e
 have hfit:(dst.den env).toList.length+(src.den env).toList.length<=aY:=of_decide_eq_true hc2
 obtain⟨Xs,g1,g2,g3,g4,g5,g6,g7,g8,g9,g10⟩:=KL hs (by omega) (by omega) hsrc (hs.opnd y) hall
 obtain⟨hee,k1,⟨vals0,Xd,k2,k3,k4,k5,k6,k7⟩,k8,k9,k10,k11,k12⟩:=KM g1 hdst (hs.opnd x) g3 g4
 obtain⟨A,c,hyv,hsrcv⟩:=g2
 have run:∃ v' w' news,(Builtin.append_ #[t,t] op.type #[a.eval x,a.eval y]).run P w=.ok v' w'/\Ow w' e' row.length v' ((dst.den env).toList.length+(src.den env).toList.length) (vals0++news)/\w.grownBy w' (a.eval x).ownBlock ∧
   (v'.ownBlock=(a.eval x).ownBlock\/v'.ownBlock=some w.heap.size)/\rowsP (shR w M row) row.length (src.den env).toList news Xs:=by
  rcases hsrcv with ⟨h0,hX⟩|⟨ad,news,rfl,r1,r2,r3⟩
  ·rw[hyv,h0]
   have hown:=k2
   rcases k2.slice with ⟨hv,hn0⟩|⟨g,o0,cap,e0,cur,hv,_,hnc,_⟩
   ·refine⟨_,w,[],by rw[hv];exact gM w t op.type e inf' h2 q1 none A 0 0 c (Nat.le_refl _),?_,⟨rfl,rfl,rfl,Nat.le_refl _,fun _ _ _=>rfl⟩,.inl (by rw[hv]),hX⟩
    rw[hv]at hown;simpa using hown
   ·refine⟨_,w,[],by rw[hv];exact gM w t op.type e inf' h2 q1 _ A _ cap c hnc,?_,⟨rfl,rfl,rfl,Nat.le_refl _,fun _ _ _=>rfl⟩,.inl (by rw[hv]),hX⟩
    rw[hv]at hown;simpa using hown
  ·rw[hyv]
   have hones:∀ u∈news,u.oneCell'=true:=by
    have key:∀ {es:List (List C)} {vs:List Value} {Y:List Nat},rowsP (shR w M row) row.length es vs Y->∀ u∈vs.take (es.length*row.length),u.oneCell'=true:=by
     intro es
     induction es with
     | nil=>intro vs Y _ u hu;simp at hu
     | cons r rs ih =>
      intro vs Y hh u hu
      obtain⟨Y1,Y2,rfl,m1,m2⟩:=hh
      simp only[List.length_cons,Nat.add_mul,Nat.one_mul]at hu
      rw[Nat.add_comm,List.take_add,List.mem_append]at hu
      rcases hu with hu|hu
      ·exact sN m1 u hu
      ·exact ih m2 u hu
    have:=key r3
    rwa [<-r1,List.take_length]at this
   have hLM:(dst.den env).toList.length+(src.den env).toList.length<=1099511627776:=hfit
   have hbb:((dst.den env).toList.length+(src.den env).toList.length)*inf'.bytes<=140737488355328:=by
    calc ((dst.den env).toList.length+(src.den env).toList.length)*inf'.bytes<=1099511627776*128:=Nat.mul_le_mul hLM (by omega)
     _=140737488355328:=by decide
   obtain⟨v',w',m1,m2,m3,m4⟩:=qc (P:=P) w t op.type e e' inf' z' row.length inf'.bytes h2 q1 q6 (by omega) rfl (by omega) (by omega) _ _ vals0 hee k2 ad (src.den env).toList.length c news r1 r2 hones (by simp only[maxLen];omega) hbb
   exact⟨v',w',news,m1,m2,m3,m4,r3⟩
 obtain⟨v',w',news,m1,m2,m3,m4,m5⟩:=run
 have hrun:(execOp a.eval op).run P w=.ok (.value v') w':=by
  simp only[execOp,ho,resolve,invoke,builtin,Sem.run_bind,Sem.run_pure,Result.andThen_ok,List.map_toArray,List.map_cons,List.map_nil,m1]
 obtain⟨at',s3,ds,e1,e2,e3,e4,e5,e6,e7,e8⟩:=cF hn k1
 split at e1
 case h_2=>cases e1
 rename_i hok3
 obtain⟨o1,o2,o3⟩:=St.ok_parts hok3
 have hxs:=oC k2
 have hv's:=oC m2
 rw[ka hxs]at m3 m4
 rw[ka hv's]at m4
 have hden:(at'.den (env++ds)).toList=(dst.den env).toList++(src.den env).toList:=by rw[e3.2.2.2];rfl
 have hRlt:∀ b,cx.R b->b<w.heap.size:=fun b hb=>Nat.lt_of_lt_of_le (hs.rlt b hb) hs.size
 have hbne:∀ b,b<w.heap.size->b∉(blk (a.eval x)).toList->w'.heap[b]?=w.heap[b]?:=fun b hb hne=>m3.block b hb fun e=>hne (by rw[<-e];simp)
 have hMne:∀ b,M b->w'.heap[b]?=w.heap[b]?:=fun b hb=>hbne b (hs.mlt b hb) fun hm=>(k4 b (List.mem_append_left _ hm)).1 hb
 have hRne:∀ b,cx.R b->w'.heap[b]?=w.heap[b]?:=fun b hb=>hbne b (hRlt b hb) fun hm=>(k4 b (List.mem_append_left _ hm)).2.1 hb
 have hMM:∀ b,M b->M b/\w'.heap[b]?=w.heap[b]?:=fun b hb=>⟨hb,hMne b hb⟩
 let ki:KI:=⟨v',[],[],0,(blk v').toList++(Xd++Xs)⟩
 have hN:∀ k,Nat.blt k s3.nx=true->KI.same (ip N s3.nx ki k) (N k):=fun k hk=>KI.same.of (aO N ki (ap hk))
 have hkd:=List.nodup_append.1 k5
 have hX1:∀ b∈Xd++Xs,b<w.heap.size:=fun b hb=>(List.mem_append.1 hb).elim (fun hb=>k6 b (List.mem_append_right _ hb)) (g5 b)
 have hXno:∀ b∈Xd++Xs,b∉(blk (a.eval x)).toList:=fun b hb hm=>hkd.2.2 b hm b hb rfl
 have hXw:∀ b∈Xd++Xs,w'.heap[b]?=w.heap[b]?:=fun b hb=>hbne b (hX1 b hb) (hXno b hb)
 have hv'm:∀ b∈(blk v').toList,¬ M b/\¬ cx.R b/\b<w'.heap.size/\b∉Xd++Xs/\∀ k o,ar s3.hp k=some o->b∉(N k).φ:=by
  intro b hb
  have hlt:b<w'.heap.size:=by
   rcases m2.slice with ⟨u1,_⟩|⟨g,o0,cap,e0,cur,u1,u2,_⟩<;>rw[u1]at hb<;>simp[blk]at hb
   subst hb;exact(Array.getElem?_eq_some_iff.1 u2).1
  rcases m4 with u|u
  ·rw[u]at hb
   have:=k4 b (List.mem_append_left _ hb)
   exact⟨this.1,this.2.1,hlt,fun hm=>hXno b hm hb,fun k o hk=>this.2.2 k o (by rw[<-e5];exact hk)⟩
  ·rw[u]at hb
   have:b=w.heap.size:=by simpa using hb
   subst this
   exact⟨fun hm=>by have:=hs.mlt _ hm;omega,fun hm=>by have:=hRlt _ hm;omega,hlt,fun hm=>by have:=hX1 _ hm;omega,fun k o hk hb'=>by
    have:=k1.blt k o _ (by rw[<-e5];exact hk) hb';omega⟩
 have hXf:∀ b∈Xd++Xs,¬ M b/\¬ cx.R b/\b<w'.heap.size/\∀ k o,ar s3.hp k=some o->b∉(N k).φ:=by
  intro b hb
  have:=k4 b (List.mem_append_right _ hb)
  exact⟨this.1,this.2.1,Nat.lt_of_lt_of_le (hX1 b hb) m3.size,fun k o hk=>this.2.2 k o (by rw[<-e5];exact hk)⟩
 have hφ:∀ b∈ki.φ,¬ M b/\¬ cx.R b/\b<w'.heap.size/\∀ k o,ar s3.hp k=some o->b∉(N k).φ:=fun b hb=>by
  rcases List.mem_append.1 hb with hb|hb
  ·have:=hv'm b hb;exact⟨this.1,this.2.1,this.2.2.1,this.2.2.2.2⟩
  ·exact hXf b hb
 refine du hrun ⟨_,env++ds,M,ip N s3.nx ki,e1,?_,(aX a op.dst v').2,hMne,fun k hk vs hg=>?_⟩
 ·rw[(aX a op.dst v').1]
  refine Sat.put (s:={s3 with hp:=(s3.nx,.arr e' row at')::s3.hp,nx:=s3.nx+1}) ?_ op.dst (by rw[svm,aR])
  refine e2.step (K:=fun k=>Nat.blt k s3.nx) (V:=fun _=>true) (nv:=s3.nv) m3.os m3.tape m3.output m3.size hMM hRne (fun b hb=>Nat.lt_of_lt_of_le (e2.mlt b hb) m3.size) (fun _ hb=>.inl hb) hN (fun _ _=>rfl) (SV.alls_mono' o1) (fun k hk=>gc o3 hk) e2.nv ?_ ?_ ?_ ?_ ?_
  ·intro k o' hg
   rw[aq]at hg
   split at hg
   ·rename_i u;subst u
    simp only[Option.some.injEq]at hg;subst hg
    rw[obm,aR,shC]
    refine⟨_,vals0++news,Xd++Xs,by rw[hden],rfl,by rw[List.length_append];exact m2,?_,by omega,by rw[List.length_append];exact hfit⟩
    have c1:rowsP (shR w' M row) row.length (dst.den env).toList (vals0++news) Xd:=by
     refine cH (rowsP.mono (fun r us Y hY hh=>shR.mono hMM row r us Y (fun b hb=>hXw b (List.mem_append_left _ (hY b hb))) hh) k3) ?_
     rw[<-k2.len,List.take_length,List.take_left]
    refine dn c1 ?_
    rw[<-k2.len,List.drop_left]
    exact rowsP.mono (fun r us Y hY hh=>shR.mono hMM row r us Y (fun b hb=>hXw b (List.mem_append_right _ (hY b hb))) hh) m5
   ·have hlt:=aD o2 hg
    refine obm.mono (K:=fun k=>Nat.blt k s3.nx) (V:=fun i=>Nat.blt i s3.nv) hMM hRne hN (fun _ _=>rfl) (aO N ki (ap hlt.1)) hlt.2 (fun b hb=>hbne b (e2.blt k o' b hg hb) fun hm=>?_) (e2.objs k o' hg)
    exact(k4 b (List.mem_append_left _ hm)).2.2 k o' (by rw[<-e5];exact hg) hb
  ·intro k o' b hg hb
   rw[aq]at hg
   split at hg
   ·rename_i u;subst u;rw[aR]at hb;exact(hφ b hb).2.2.1
   ·have hlt:=aD o2 hg
    rw[aO N ki (ap hlt.1)]at hb
    exact Nat.lt_of_lt_of_le (e2.blt k o' b hg hb) m3.size
  ·intro k o' hg
   rw[aq]at hg
   split at hg
   ·rename_i u;subst u;rw[aR]
    exact List.nodup_append.2 ⟨by cases blk v'<;>simp,hkd.2.1,fun x hx y hy e=>(hv'm x hx).2.2.2.1 (e ▸ hy)⟩
   ·have hlt:=aD o2 hg
    rw[aO N ki (ap hlt.1)];exact e2.nodup k o' hg
  ·intro k o' b hg hb
   rw[aq]at hg
   split at hg
   ·rename_i u;subst u;rw[aR]at hb;have:=hφ b hb;exact⟨this.1,this.2.1⟩
   ·have hlt:=aD o2 hg
    rw[aO N ki (ap hlt.1)]at hb
    exact e2.apart k o' b hg hb
  ·intro k k' o1' o2' b hg1 hg2 hb1 hb2
   rw[aq]at hg1 hg2
   split at hg1<;>split at hg2
   ·omega
   ·rename_i u1 u2;subst u1
    have hlt:=aD o2 hg2
    rw[aR]at hb1
    rw[aO N ki (ap hlt.1)]at hb2
    exact absurd hb2 ((hφ b hb1).2.2.2 k' o2' hg2)
   ·rename_i u1 u2;subst u2
    have hlt:=aD o2 hg1
    rw[aR]at hb2
    rw[aO N ki (ap hlt.1)]at hb1
    exact absurd hb1 ((hφ b hb2).2.2.2 k o1' hg1)
   ·have hl1:=aD o2 hg1
    have hl2:=aD o2 hg2
    rw[aO N ki (ap hl1.1)]at hb1
    rw[aO N ki (ap hl2.1)]at hb2
    exact e2.dist k k' o1' o2' b hg1 hg2 hb1 hb2
 ·have hklt:=ap (aD (St.ok_parts hok0).2.1 hg).1
  refine⟨KI.same.of (aO N ki (by rw[e6,k10,g8];exact hklt)),fun b hb=>hbne b (hs.blt k _ b hg hb) fun hm=>?_⟩
  ·obtain⟨k',ob,m1,m2,m3⟩:=k7 b hm
   exact sP m1 ((hs.dist k' k ob _ b (g6 k' ob m2) hg m3 hb) ▸ hk)
end
end Dx
namespace Dx
open Go
def je{α:Type}(l:List α):Nat->List α
 | 0=>[]
 | n+1=>l++je l n
abbrev Rows:=Nat->Option (List Sh)
def mA(R:Rows)(e n:Nat):List Sh:=match R e with
 | some r=>r
 | none=>vals n
def sT(T:Tab)(R:Rows)(s:St)(t len:Nat)(parts:List (Nat×SV))(d:Option Tmp)(K:St->Tree):Tree :=
 match T t with
 | some i=>match i.d with
  | .slice e=>match T e with
   | some ie=>match Nat.blt 0 ie.sz with
    | true=>match Nat.beq (mA R e ie.sz).length ie.sz with
     | true=>match len with
      | 0=>match parts,s.ok with
       | [],true=>K (ct {s with hp:=(s.nx,.arr e (mA R e ie.sz) .e)::s.hp,nx:=s.nx+1} d (.sl s.nx))
       | _,_=>.fail
      | len+1=>match Nat.ble ((len+1)*ie.sz) 16777216 && s.ok,qT s (fun j=>some (j*ie.sz,ie.sz)) (je ie.zero (len+1)) parts with
       | true,some cells=>match jb s (je (mA R e ie.sz) (len+1)) cells with
        | some (s1,cs)=>ou s1 (.mkl ie.sz) cs fun a s2=>match s2.ok with
         | true=>K (ct {s2 with hp:=(s2.nx,.arr e (mA R e ie.sz) a)::s2.hp,nx:=s2.nx+1} d (.sl s2.nx))
         | false=>.fail
        | none=>.fail
       | _,_=>.fail
     | false=>.fail
    | false=>.fail
   | none=>.fail
  | _=>.fail
 | none=>.fail
def iV:List Sh->List SV->Bool
 | [],[]=>true
 | .val::r,_::z=>iV r z
 | .arr _ (_::_)::r,.nil::z=>iV r z
 | _,_=>false
def z1(T:Tab)(R:Rows)(s:St)(t:Nat)(len cap:SV)(d:Option Tmp)(K:St->Tree):Tree :=
 match T t,len,cap with
 | some i,.int k n,.int k' n'=>match i.d with
  | .slice e=>match T e with
   | some ie=>match Nat.blt 0 ie.sz && s.ok,Nat.ble ie.bytes 128,Nat.beq ie.zero.length ie.sz && (Nat.beq (mA R e ie.sz).length ie.sz && iV (mA R e ie.sz) ie.zero),ros s ie.zero with
    | true,true,true,some cs=>fH .eqI [ci k n,ci k' n'] (fH .mkOk [ci k n] (ou s .rep (ci k n::cs) fun a s2=>match s2.ok with
     | true=>K (ct {s2 with hp:=(s2.nx,.arr e (mA R e ie.sz) a)::s2.hp,nx:=s2.nx+1} d (.sl s2.nx))
     | false=>.fail))
    | _,_,_,_=>.fail
   | none=>.fail
  | _=>.fail
 | _,_,_=>.fail
section
variable {Φ:Phi} {cx:Ctx} {M:Nat->Prop} {N:Nm} {env:List C} {s:St} {tm:Array Value} {w:World} {o:Out}
variable {P:Program} {T:Tab} {a:Act} {op:Oper}
theorem Sat.raw(h:Sat cx M N env s tm w)(ob:Obj):Sat cx M N env s tm (w.alloc ob):=by
 have hold:∀ b,b<w.heap.size->(w.alloc ob).heap[b]?=w.heap[b]?:=fun b hb=>heap_alloc_old w ob b hb
 have hRlt:∀ b,cx.R b->b<w.heap.size:=fun b hb=>Nat.lt_of_lt_of_le (h.rlt b hb) h.size
 have hsz:(w.alloc ob).heap.size=w.heap.size+1:=by simp
 refine h.step (K:=fun _=>true) (V:=fun _=>true) (hp:=s.hp) (nx:=s.nx) (nv:=s.nv) rfl rfl rfl (by omega) (fun b hb=>⟨hb,hold b (h.mlt b hb)⟩) (fun b hb=>hold b (hRlt b hb)) (fun b hb=>by have:=h.mlt b hb;omega) (fun _ hb=>.inl hb) (fun _ _=>KI.same.rfl' _) (fun _ _=>rfl) (SV.alls_true _) (fun _ _=>rfl) h.nv ?_ (fun k o b hg hb=>by have:=h.blt k o b hg hb;omega) h.nodup h.apart h.dist
 intro k o' hg
 exact obm.mono (K:=fun _=>true) (V:=fun _=>true) (fun b hb=>⟨hb,hold b (h.mlt b hb)⟩) (fun b hb=>hold b (hRlt b hb)) (fun _ _=>KI.same.rfl' _) (fun _ _=>rfl) rfl (SObj.all_true _) (fun b hb=>hold b (h.blt k o' b hg hb)) (h.objs k o' hg)
theorem Fr.alloc{rd:List Nat}{N':Nm}{ob:Obj}(h:Sat cx M N env s tm w)(hok:s.ok=true)(hN:∀ k,k<s.nx->N' k=N k):Fr rd M N s w N' (w.alloc ob) :=
 ⟨fun b hb=>heap_alloc_old w ob b (h.mlt b hb),fun k _ vs hg=>⟨KI.same.of (hN k (ap (aD (St.ok_parts hok).2.1 hg).1)),fun b hb=>heap_alloc_old w ob b (h.blt k _ b hg hb)⟩⟩
theorem Sat.newArr(h:Sat cx M N env s tm w)(hok:s.ok=true)(ob:Obj){e:Nat}{row:List Sh}{l:At}{X:List Nat}{n cap:Nat}(hX:oq cx M N s.hp X)(hn:X.Nodup)(hlt:∀ b∈X,b<w.heap.size)
  (hob:shC (w.alloc ob) M (.arr e row) (.list (l.den env).toList) (.slice (some ⟨w.heap.size,0,none⟩) n cap) (w.heap.size::X)) :
  ∃ N',Sat cx M N' env {s with hp:=(s.nx,.arr e row l)::s.hp,nx:=s.nx+1} tm (w.alloc ob)/\(N' s.nx).v=.slice (some ⟨w.heap.size,0,none⟩) n cap/\∀ k,k<s.nx->N' k=N k:=by
 obtain⟨o1,o2,o3⟩:=St.ok_parts hok
 have hsz:(w.alloc ob).heap.size=w.heap.size+1:=by simp
 let ki:KI:=⟨.slice (some ⟨w.heap.size,0,none⟩) n cap,[],[],0,w.heap.size::X⟩
 refine⟨ip N s.nx ki,?_,by rw[aR],fun k hk=>aO N ki hk⟩
 refine(h.raw ob).joinO (objs:=[(s.nx,.arr e row l)]) (X:=w.heap.size::X) hok (fun k hk=>KI.same.of (aO N ki (ap hk))) (fun k o hg=>aO N ki (ap (aD o2 hg).1)) ?_ ?_ ?_
 ·intro k o' hg
  rw[aq]at hg
  split at hg
  case isFalse=>cases hg
  rename_i e;subst e
  simp only[Option.some.injEq]at hg;subst hg
  rw[aR]
  refine⟨by rw[obm,aR];exact hob,List.nodup_cons.2 ⟨fun hm=>by have:=hlt _ hm;omega,hn⟩,fun b hb=>hb⟩
 ·intro b hb
  rcases List.mem_cons.1 hb with rfl|hb
  ·exact⟨fun hm=>by have:=h.mlt _ hm;omega,fun hm=>by have:=h.rlt _ hm;have:=h.size;omega,by omega,fun k o hg hb'=>by have:=h.blt k o _ hg hb';omega⟩
  ·have:=hX b hb
   exact⟨this.1,this.2.1,by have:=hlt b hb;omega,this.2.2⟩
 ·intro k1' k2' o1' o2' b h1 h2 _ _
  rw[aq]at h1 h2
  split at h1
  ·split at h2
   ·omega
   ·cases h2
  ·cases h1
theorem rP:∀ {s1 s2:List Sh} {cs:List C} {vs:List Value} {X:List Nat},shR w M (s1++s2) cs vs X->∃ X1 X2,X=X1++X2/\shR w M s1 (cs.take s1.length) (vs.take s1.length) X1/\shR w M s2 (cs.drop s1.length) (vs.drop s1.length) X2
 | [],s2,cs,vs,X,h=>⟨[],X,rfl,by simp[shR],by simpa using h⟩
 | sh::s1,s2,cs,vs,X,h=>by
  rw[List.cons_append,shR]at h
  obtain⟨c,cs',v,vs',Y1,Y2,rfl,rfl,rfl,h1,h2⟩:=h
  obtain⟨X1,X2,rfl,g1,g2⟩:=rP h2
  refine⟨Y1++X1,X2,by simp,?_,by simpa using g2⟩
  simp only[List.length_cons,List.take_succ_cons];rw[shR]
  exact⟨c,_,v,_,Y1,X1,rfl,rfl,rfl,h1,g1⟩
theorem l5{row:List Sh}:∀ {n:Nat} {cs:List C} {vs:List Value} {X:List Nat},shR w M (je row n) cs vs X->rowsP (shR w M row) row.length (nZ row.length n cs) vs X
 | 0,cs,vs,X,h=>by simp only[je]at h;rw[shR]at h;exact h.2.2
 | n+1,cs,vs,X,h=>by
  simp only[je]at h
  obtain⟨X1,X2,rfl,g1,g2⟩:=rP h
  exact⟨X1,X2,rfl,g1,l5 g2⟩
theorem ly(sz:Nat):∀(n:Nat) (l:List C),(nZ sz n l).length=n
 | 0,_=>rfl
 | n+1,l=>by simp[nZ,ly sz n]
theorem pe{α:Type}(l:List α):∀ n,(je l n).length=n*l.length
 | 0=>by simp[je]
 | n+1=>by simp[je,pe l n,Nat.add_mul];omega
theorem vN{α:Type}{l:List α}(hl:0<l.length):∀(n i:Nat),(je l n)[i]?=if i<n*l.length then l[i % l.length]? else none
 | 0,i=>by simp[je]
 | n+1,i=>by
  simp only[je]
  rw[List.getElem?_append,vN hl n]
  have e0:(n+1)*l.length=n*l.length+l.length:=by rw[Nat.add_mul,Nat.one_mul]
  by_cases h1:i<l.length
  ·rw[if_pos h1,if_pos (by omega),Nat.mod_eq_of_lt h1]
  ·rw[if_neg h1,Nat.mod_eq_sub_mod (a:=i) (by omega)]
   by_cases h2:i<(n+1)*l.length
   ·rw[if_pos h2,if_pos (by omega)]
   ·rw[if_neg h2,if_neg (by omega)]
theorem jf{z:Array Value}(hz:0<z.size)(n:Nat):(madeCells z (n*z.size)).toList=je z.toList n:=by
 apply List.ext_getElem?
 intro i
 rw[vN (by simpa using hz)]
 simp only[madeCells,Array.toList_map,Array.toList_range,List.getElem?_map,Array.length_toList]
 by_cases h:i<n*z.size
 ·rw[if_pos h,List.getElem?_range h]
  have:i % z.size<z.size:=Nat.mod_lt _ hz
  simp[this]
 ·rw[if_neg h,List.getElem?_eq_none (by simpa using h)];rfl
theorem rQ{R:Nat->Prop}{xs:List SV}{vs:List Value}(h:svms w M R N env xs vs):∀ n,svms w M R N env (je xs n) (je vs n)
 | 0=>by simp[je,svms]
 | n+1=>bS h (rQ h n)
theorem yF(hT:bK P T){R:Rows}{t len:Nat}{parts:Array (Nat×Operand)}(ho:op.op=.buildSlice t len parts){K:St->Tree}{rd:List Nat}(hn:den Φ (sT T R s t len (parts.toList.map fun p=>(p.1,opnd s.sl p.2)) op.dst K) env=some o)
  (hs:Sat cx M N env s a.tmps w) (Q:Exit->Act->World->Prop):op.wp P a w (gh Φ K o cx rd M N s w a.defers) Q:=by
 unfold sT at hn
 split at hn
 case h_2=>cases hn
 rename_i i hi
 obtain⟨inf,d,z,h1,h2,h3,h4,h5,h6,h7,h8,h9⟩:=hT t i hi
 split at hn
 case h_2=>cases hn
 rename_i e hd
 rw[hd]at h9
 have h9:d=.slice e:=h9
 subst h9
 split at hn
 case h_2=>cases hn
 rename_i ie hie
 obtain⟨inf',d',z',q1,q2,q3,q4,q5,q6,q7,q8,q9⟩:=hT e ie hie
 split at hn
 case h_2=>cases hn
 rename_i hpos
 have hpos:=ap hpos
 generalize mA R e ie.sz=row at hn
 split at hn
 case h_2=>cases hn
 rename_i hrl
 have hrl:=br hrl
 split at hn
 ·split at hn
  case h_2=>cases hn
  rename_i hp hok
  have hp':parts=#[]:=by simpa using hp
  subst hp'
  obtain⟨N',g1,g2,g3⟩:=hs.newArr hok (.cells #[] e) (l:=.e) (X:=[]) (row:=row) (e:=e) (n:=0) (cap:=0) (fun b hb=>by simp at hb) (by simp) (by simp) (by
   rw[shC]
   refine⟨[],[],[],rfl,by simp[blk],.inl ?_,rfl,by omega,by simp⟩
   exact World.ownsRow_lit (base:=0) (e:=e) (size:=row.length) w #[] 0 (by omega) (by simp[maxLen]) (by simp))
  have hrun:(execOp a.eval op).run P w=.ok (.value (.slice (some ⟨w.heap.size,0,none⟩) 0 0)) (w.alloc (.cells #[] e)):=by
   simp[execOp,ho,Instr.buildSlice,run_underlying h2,Go.sizeOf,typeInfo,q1,Instr.fill,newRow]
   congr 2
   exact Array.eq_empty_of_size_eq_zero (by simp)
  refine du hrun ⟨_,env,M,N',hn,?_,(aX a op.dst _).2,Fr.alloc hs hok g3⟩
  rw[(aX a op.dst _).1]
  exact g1.put op.dst (by rw[svm,g2])
 ·rename_i l
  split at hn
  case h_2=>cases hn
  rename_i cells c1 hf
  split at hn
  case h_2=>cases hn
  rename_i s1 cs hcon
  simp only[Bool.and_eq_true]at c1
  obtain⟨c1,hok0⟩:=c1
  have hle:=mR c1
  have hzs:z'.cells.size=ie.sz:=q7
  have hzero:svms w M cx.R N env (je ie.zero (l+1)) (madeCells z'.cells ((l+1)*ie.sz)).toList:=by
   rw[<-hzs,jf (by omega),q8]
   exact rQ (cI _) _
  obtain⟨arr',g1,g2⟩:=ol hs hzero hf
  obtain⟨M',X,hh,hrow'⟩:=eg (Y:=[]) _ hs hcon g2 (fun b hb=>by simp at hb) (by simp)
  obtain⟨at',s2,ds,k1,k2,k3,k4,k5,k6,k7,_⟩:=cF hn hh.sat
  split at k1
  case h_2=>cases k1
  rename_i hok2
  have hcl:=(cD hrow').1
  rw[cU,pe,hrl]at hcl
  have hal:=(cD hrow').2
  rw[Array.length_toList,pe,hrl]at hal
  have hden:(at'.den (env++ds)).toList=nZ row.length (l+1) (aK env cs):=by
   rw[k3.2.2.2]
   show nZ ie.sz ((aK env cs).length / ie.sz) (aK env cs)=_
   rw[cU,hcl,Nat.mul_div_cancel _ hpos,hrl]
  have hrun0:(execOp a.eval op).run P w=.ok (.value (.slice (some ⟨w.heap.size,0,none⟩) (l+1) (l+1))) (w.alloc (.cells arr' e)):=by
   have hpos':¬ (l+1)*inf'.size=0:=by rw[q3];exact Nat.mul_ne_zero (by omega) (by omega)
   have hsm:¬ (l+1)*inf'.size>2 ^ 24:=by rw[q3];exact Nat.not_lt.2 hle
   have:=run_buildSlice w t e (l+1) (parts.map fun p=>(p.1,a.eval p.2)) arr' inf' z' h2 q1 q6 hsm hpos' (by
    rw[q3,Array.toList_map];exact g1)
   simp[execOp,ho,this]
  have hXw:∀ b∈X,(w.alloc (.cells arr' e)).heap[b]?=w.heap[b]?:=fun b hb=>heap_alloc_old w _ b (hh.lt b hb)
  obtain⟨N',m1,m2,m3⟩:=k2.newArr hok2 (.cells arr' e) (l:=at') (X:=X) (row:=row) (e:=e) (n:=l+1) (cap:=l+1) (by rw[k5];exact fun b hb=>hh.free b (List.mem_append_left _ hb)) (List.nodup_append.1 hh.nodup).1 hh.lt (by
   rw[hden,shC]
   refine⟨_,arr'.toList,X,rfl,by simp[blk],.inl ?_,?_,by omega,?_⟩
   ·rw[ly]
    exact World.ownsRow_lit (base:=0) (e:=e) (size:=row.length) w arr' (l+1) (by omega) (by simp only[maxLen];have:l+1<=(l+1)*ie.sz:=Nat.le_mul_of_pos_right _ hpos;omega) (by rw[hal,hrl])
   ·exact rowsP.mono (fun r us Y hY hh'=>shR.mono (fun b hb=>⟨hb,heap_alloc_old w _ b (hh.sat.mlt b hb)⟩) row r us Y (fun b hb=>hXw b (hY b hb)) hh') (l5 hrow')
   ·rw[ly];have:l+1<=(l+1)*ie.sz:=Nat.le_mul_of_pos_right _ hpos;simp only[aY];omega)
  refine du hrun0 ⟨_,env++ds,M',N',k1,?_,(aX a op.dst _).2,Fr.alloc hs hok0 (by rw[k6,hh.same.1]at m3;exact m3)⟩
  rw[(aX a op.dst _).1]
  exact m1.put op.dst (by rw[svm,m2])
theorem rR{row:List Sh}{cs:List C}{us:List Value}(h:shR w M row cs us []):∀ n,rowsP (shR w M row) row.length (List.replicate n cs) (je us n) []
 | 0=>rfl
 | n+1=>by
  have hl:=(cD h).2
  refine⟨[],[],rfl,?_,?_⟩
  ·simp only[je];rw[List.take_left' hl];exact h
  ·simp only[je];rw[List.drop_left' hl];exact rR h n
theorem vO{s:St}:∀ {row:List Sh} {xs:List Value} {cs:List Cell},ros s (xs.map bu)=some cs->iV row (xs.map bu)=true->shR w M row (aK env cs) xs []/\cs.length=xs.length
 | [],[],cs,h,_=>by
  simp only[List.map_nil,ros,Option.some.injEq]at h;subst h
  exact⟨by rw[shR];exact⟨rfl,rfl,rfl⟩,rfl⟩
 | [],_::_,_,_,h=>by simp[iV]at h
 | sh::row,[],_,_,h=>by cases sh<;>simp[iV]at h<;>(rename_i r;cases r<;>simp[iV]at h)
 | sh::row,v::vs,cs,h,hn=>by
  simp only[List.map_cons,ros]at h
  split at h
  case h_2=>cases h
  rename_i c hc
  split at h
  case h_2=>cases h
  rename_i cs' hcs
  simp only[Option.some.injEq]at h;subst h
  have hr:iV row (vs.map bu)=true/\shC w M sh (c.den env) v []:=by
   cases sh with
   | val =>
    simp only[List.map_cons,iV]at hn
    refine⟨hn,?_⟩
    rw[shC];refine⟨rfl,?_⟩
    unfold bu at hc
    split at hc<;>simp only[ro,Option.some.injEq,reduceCtorEq]at hc<;>subst hc<;>simp only[Cell.den,ci,cb,Dx.cs,cl,At.den,C.toInt,C.toBool,C.toStr,C.toList]<;>rw[repC]
    exact⟨none,0,rfl,by simp,by simp,.inl rfl⟩
   | arr e r =>
    cases r with
    | nil=>simp[iV]at hn
    | cons r0 r =>
     simp only[List.map_cons]at hn
     have hv:bu v=.nil:=by
      cases hx:bu v<;>rw[hx]at hn<;>simp[iV]at hn<;>rfl
     rw[hv]at hc hn
     have hv':v=.slice none 0 0:=by
      unfold bu at hv
      split at hv<;>first|rfl|cases hv
     subst hv'
     simp only[ro,Option.some.injEq]at hc;subst hc
     simp only[iV]at hn
     refine⟨hn,?_⟩
     rw[shC]
     exact⟨[],[],[],rfl,rfl,.inl (World.ownsRow_nil w 0 e _),rfl,by simp,by simp⟩
  obtain⟨g1,g2⟩:=vO hcs hr.1
  refine⟨?_,by simp[g2]⟩
  simp only[aK];rw[shR]
  exact⟨_,_,v,vs,[],[],rfl,rfl,rfl,hr.2,g1⟩
theorem BE(hT:bK P T){R:Rows}{t:Nat}{x y:Operand}(ho:op.op=.makeSlice t x y){K:St->Tree}{rd:List Nat}(hn:den Φ (z1 T R s t (opnd s.sl x) (opnd s.sl y) op.dst K) env=some o)
  (hs:Sat cx M N env s a.tmps w) (Q:Exit->Act->World->Prop):op.wp P a w (gh Φ K o cx rd M N s w a.defers) Q:=by
 unfold z1 at hn
 split at hn
 case h_2=>cases hn
 rename_i i k n k' n' hi hx hy
 obtain⟨inf,d,z,h1,h2,h3,h4,h5,h6,h7,h8,h9⟩:=hT t i hi
 split at hn
 case h_2=>cases hn
 rename_i e hd
 rw[hd]at h9
 have h9:d=.slice e:=h9
 subst h9
 split at hn
 case h_2=>cases hn
 rename_i ie hie
 obtain⟨inf',d',z',q1,q2,q3,q4,q5,q6,q7,q8,q9⟩:=hT e ie hie
 split at hn
 case h_2=>cases hn
 rename_i cs hpos hby hzl hros
 simp only[Bool.and_eq_true]at hpos
 obtain⟨hpos,hok0⟩:=hpos
 have hpos:=ap hpos
 have hby:=mR hby
 simp only[Bool.and_eq_true]at hzl
 obtain⟨hzl,hrl,hnil⟩:=hzl
 have hzl:=br hzl
 have hrl:=br hrl
 generalize mA R e ie.sz=row at hn hrl hnil
 obtain⟨c1,hn⟩:=b9 hn
 obtain⟨c2,hn⟩:=b9 hn
 have e1:(n.den env).toInt=(n'.den env).toInt:=by simpa [Prim.den,aK,Cell.den,ci] using c1
 have e2:0<=(n.den env).toInt/\(n.den env).toInt<=aY:=by
  have h2:(decide (0<=(n.den env).toInt) && decide ((n.den env).toInt<=aY))=true:=c2
  simp only[Bool.and_eq_true,decide_eq_true_eq]at h2
  exact h2
 have hL:((n.den env).toInt.toNat:Int)=(n.den env).toInt:=by omega
 obtain⟨at',s2,ds,k1,k2,k3,k4,k5,k6,k7,_⟩:=cF hn hs
 split at k1
 case h_2=>cases k1
 rename_i hok2
 have hxv:=cJ hs hx
 have hyv:=cJ hs hy
 have hLn:(n.den env).toInt.toNat<=1099511627776:=by have:=e2.2;simp only[aY]at this;omega
 have hbn:inf'.bytes*(n.den env).toInt.toNat<=128*1099511627776:=Nat.mul_le_mul (by omega) hLn
 have hrun:=run_make (P:=P) (w:=w) t e inf' z' h2 q1 q6 k k' (n.den env).toInt (n.den env).toInt e2.1 (Int.le_refl _) (by
  rw[<-hL,<-Int.natCast_mul];omega) (by have:=e2.2;simp only[aY]at this;omega)
 have hrun0:(execOp a.eval op).run P w=.ok (.value (.slice (some ⟨w.heap.size,0,none⟩) (n.den env).toInt.toNat (n.den env).toInt.toNat)) (w.alloc (.cells (madeCells z'.cells ((n.den env).toInt.toNat*inf'.size)) e)):=by
  simp[execOp,ho,hxv,hyv,<-e1,hrun]
 have hz:svms w M cx.R N env ie.zero z'.cells.toList:=by rw[q8];exact cI _
 have hzr:shR (w.alloc (.cells (madeCells z'.cells ((n.den env).toInt.toNat*inf'.size)) e)) M row (aK env cs) z'.cells.toList []:=(vO (by rw[<-q8];exact hros) (by rw[<-q8];exact hnil)).1
 have hzs:z'.cells.size=ie.sz:=q7
 have hden:(at'.den (env++ds)).toList=List.replicate (n.den env).toInt.toNat (aK env cs):=by rw[k3.2.2.2];rfl
 obtain⟨N',m1,m2,m3⟩:=k2.newArr hok2 (.cells (madeCells z'.cells ((n.den env).toInt.toNat*inf'.size)) e) (l:=at') (X:=[]) (row:=row) (e:=e) (n:=(n.den env).toInt.toNat) (cap:=(n.den env).toInt.toNat) (fun b hb=>by simp at hb) (by simp) (by simp) (by
  rw[hden,shC]
  refine⟨_,(madeCells z'.cells ((n.den env).toInt.toNat*inf'.size)).toList,[],rfl,by simp[blk],.inl ?_,?_,by omega,?_⟩
  ·rw[List.length_replicate]
   exact World.ownsRow_lit (base:=0) (e:=e) (size:=row.length) w _ _ (by omega) (by simp only[maxLen];omega) (by rw[size_madeCells,hrl,q3])
  ·rw[q3,<-hzs,jf (by omega)]
   have:=rR hzr (n.den env).toInt.toNat
   rw[q3,<-hzs]at this
   exact this
  ·rw[List.length_replicate];exact hLn)
 refine du hrun0 ⟨_,env++ds,M,N',k1,?_,(aX a op.dst _).2,Fr.alloc hs hok0 (by rw[k6]at m3;exact m3)⟩
 rw[(aX a op.dst _).1]
 exact m1.put op.dst (by rw[svm,m2])
end
end Dx
