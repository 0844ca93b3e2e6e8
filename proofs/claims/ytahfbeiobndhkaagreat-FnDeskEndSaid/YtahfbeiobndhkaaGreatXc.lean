import Derived.Test.YtahfbeiobndhkaaGreatXb
import Derived.Laws.BytesArg
set_option linter.all false
namespace Dx
open Go
inductive Par where
 | ro (agg:Bool) (ks:List CK)
 | own (agg:Bool) (shs:List Sh) (ks:List CK) (back:Bool)
 | ptr (shs:List Sh) (ks:List CK)
 | rptr (ks:List CK)
 | fn (f:Nat) (kss:List (List CK))
structure Ret where
 agg:Bool
 shs:List Sh
 ks:List CK
 ptr:Bool:=false
structure Con where
 args:List Par
 res:List Ret
def isV(agg:Bool)(vs:List Value)(v:Value):Prop :=
 match agg with
 | true=>v=.agg vs.toArray
 | false=>vs=[v]
def ES(w:World)(Z:Nat->Prop)(ks:List CK)(cs:List C)(v:Value):Prop :=
 ak ks cs=true/\∃ b o arr T fr,v=.pointer (some ⟨b,o,none⟩)/\Z b/\w.heap[b]?=some (.cells arr T fr)/\ks.length<=(arr.toList.drop o).length/\repRow w Z cs (arr.toList.drop o)
def uq(w:World)(Z:Nat->Prop):List (List CK)->List C->List Value->Prop
 | [],cs,vs=>cs=[]/\vs=[]
 | ks::kss,cs,vs=>∃ c1 c2 v vs',cs=c1++c2/\vs=v::vs'/\ES w Z ks c1 v/\uq w Z kss c2 vs'
def Ce(w:World)(M Z:Nat->Prop):Par->List C->Value->List Nat->Prop
 | .ro a ks,cs,v,X=>X=[]/\ak ks cs=true/\∃ vs,vs.length=ks.length/\repRow w Z cs vs/\isV a vs v
 | .own a shs ks _,cs,v,X=>ak ks cs=true/\∃ vs,shR w M shs cs vs X/\isV a vs v
 | .ptr shs ks,cs,v,X=>ak ks cs=true/\∃ b pre us post arr T X',v=.pointer (some ⟨b,pre.length,none⟩)/\w.heap[b]?=some (.cells arr T (0,0))/\arr.toList=pre++us++post/\shR w M shs cs us X'/\X=b::X'
 | .rptr ks,cs,v,X=>X=[]/\ES w Z ks cs v
 | .fn f kss,cs,v,X=>X=[]/\∃ caps,v=.func (.func f) #[] caps/\uq w Z kss cs caps.toList
def oD(w:World)(M Z:Nat->Prop):List Par->List C->List Value->List Nat->Prop
 | [],cs,vs,X=>cs=[]/\vs=[]/\X=[]
 | p::ps,cs,vs,X=>∃ c1 c2 v vs' X1 X2,cs=c1++c2/\vs=v::vs'/\X=X1++X2/\Ce w M Z p c1 v X1/\oD w M Z ps c2 vs' X2
def ET(w w':World)(M:Nat->Prop):Par->Value->List C->List Nat->Prop
 | .own a shs ks true,v,cs,X=>ak ks cs=true/\∃ vs,isV a vs v/\shR w' M shs cs vs X
 | .ptr shs ks,v,cs,X=>ak ks cs=true/\∃ b pre us us' post arr arr' T X',v=.pointer (some ⟨b,pre.length,none⟩)/\w.heap[b]?=some (.cells arr T (0,0))/\arr.toList=pre++us++post/\us.length=shs.length ∧
   w'.heap[b]?=some (.cells arr' T (0,0))/\arr'.toList=pre++us'++post/\shR w' M shs cs us' X'/\X=b::X'
 | _,_,cs,X=>cs=[]/\X=[]
def jg(w w':World)(M:Nat->Prop):List Par->List Value->List C->List Nat->Prop
 | [],vs,cs,X=>vs=[]/\cs=[]/\X=[]
 | p::ps,vs,cs,X=>∃ v vs' c1 c2 X1 X2,vs=v::vs'/\cs=c1++c2/\X=X1++X2/\ET w w' M p v c1 X1/\jg w w' M ps vs' c2 X2
def ij(w:World)(M:Nat->Prop)(r:Ret)(cs:List C)(v:Value)(X:List Nat):Prop :=
 match r.ptr with
 | false=>∃ us,shR w M r.shs cs us X/\isV r.agg us v
 | true=>∃ b pre us post arr T X',v=.pointer (some ⟨b,pre.length,none⟩)/\w.heap[b]?=some (.cells arr T (0,0))/\arr.toList=pre++us++post/\shR w M r.shs cs us X'/\X=b::X'
def jJ(w:World)(M:Nat->Prop):List Ret->List C->List Value->List Nat->Prop
 | [],cs,vs,X=>cs=[]/\vs=[]/\X=[]
 | r::rs,cs,vs,X=>∃ c1 c2 v vs' X1 X2,cs=c1++c2/\vs=v::vs'/\X=X1++X2/\ak r.ks c1=true/\ij w M r c1 v X1/\jJ w M rs c2 vs' X2
def vP:List Value->Value
 | [v]=>v
 | vs=>.tuple vs.toArray
def Walk(P:Program)(f:FuncId)(c:Con)(φ:List C->Option (List C)):Prop :=
 ∀(w:World) (M:Nat->Prop) (cs:List C) (vs:List Value) (X:List Nat),(∀ b,M b->b<w.heap.size/\b∉X)->oD w M (fun b=>b<w.heap.size/\b∉X) c.args cs vs X->X.Nodup->(∀ b∈X,b<w.heap.size)->∀ rs,φ cs=some rs ->
  Calls P f vs.toArray w (fun e w'=>∃(M':Nat->Prop) (rvs:List Value) (r1 r2:List C) (X1 X2:List Nat),e=.returned (vP rvs)/\rs=r1++r2/\w'.os=w.os/\w'.tape=w.tape/\w'.output=w.output/\w.heap.size<=w'.heap.size ∧
   (∀ b,b<w.heap.size->b∉X->w'.heap[b]?=w.heap[b]?)/\(∀ b,M b->M' b)/\(∀ b,M' b->b<w'.heap.size/\(M b\/w.heap.size<=b\/b∈X)) ∧
   jJ w' M' c.res r1 rvs X1/\jg w w' M' c.args vs r2 X2/\(X1++X2).Nodup/\(∀ b∈X1++X2,¬ M' b/\b<w'.heap.size/\(w.heap.size<=b\/b∈X)))
structure Has (P:Program) (f:FuncId) (c:Con) (φ:List C->Option (List C)):Prop where
 enters:∀(args:Array Value) (w:World),(callFunc f args).run P w=.ok (.enter f args) w
 walk:Walk P f c φ
def dv(s:List SV)(c:Call):Option (Nat×List SV) :=
 match c.callee with
 | .value x=>match opnd s x with
  | .fn f caps=>some (f,(c.args.toList.map (opnd s))++caps)
  | _=>none
 | _=>none
def mB(s:List SV)(c:Call)(i:Nat):SV :=
 match dv s c with
 | some (_,xs)=>cr xs i
 | none=>.any
def ei(agg:Bool)(x:SV):Option (List SV) :=
 match agg with
 | true=>match x with
  | .agg vs=>some vs
  | _=>none
 | false=>some [x]
def cg:List CK->List Cell->Bool
 | [],[]=>true
 | k::ks,c::cs=>match k,c.k with
  | .int a,.int b=>match ep a b with
   | true=>cg ks cs
   | false=>false
  | .bool,.bool=>cg ks cs
  | .str,.str=>cg ks cs
  | .list,.list=>cg ks cs
  | .hole,.hole=>cg ks cs
  | _,_=>false
 | _,_=>false
inductive Bk where
 | no
 | ptr (k:Nat) (vs:List SV) (off:Nat)
 | own (keys:List (Option Nat))
def dH:List Sh->List SV->List (Option Nat)
 | .arr _ _::shs,.sl k::xs=>some k::dH shs xs
 | _::shs,_::xs=>none::dH shs xs
 | _,_=>[]
def il(c:Call)(s:St)(i:Nat):List Par->Option (St×List (List Cell)×List Bk)
 | []=>some (s,[],[])
 | .own a shs ks back::ps=>match ei a (mB s.sl c i)with
  | some vs=>match jb s shs vs with
   | some (s1,cs)=>match cg ks cs,il c s1 (i+1) ps with
    | true,some (s2,css,bks)=>some (s2,cs::css,(match back with|true=>.own (dH shs vs)|false=>.no)::bks)
    | _,_=>none
   | none=>none
  | none=>none
 | .ptr shs ks::ps=>match mB s.sl c i with
  | .ptr k off=>match ar s.hp k with
   | some (.cells vs)=>match Nat.ble (off+shs.length) vs.length,jb s shs ((vs.drop off).take shs.length)with
    | true,some (s1,cs)=>match ar s1.hp k with
     | some (.cells vs1)=>match cg ks cs,il c {s1 with hp:=cw s1.hp k} (i+1) ps with
      | true,some (s2,css,bks)=>some (s2,cs::css,.ptr k vs1 off::bks)
      | _,_=>none
     | _=>none
    | _,_=>none
   | _=>none
  | _=>none
 | _::ps=>(il c s (i+1) ps).map fun q=>(q.1,[]::q.2.1,.no::q.2.2)
def BN(s:St)(ks:List CK):SV->Option (List Cell)
 | .vptr _ cells=>match Nat.beq cells.length ks.length,ros s cells with
  | true,some cs=>match cg ks cs with
   | true=>some cs
   | false=>none
  | _,_=>none
 | .ptr k off=>match ar s.hp k with
  | some (.cells vs)=>match Nat.ble (off+ks.length) vs.length,ros s ((vs.drop off).take ks.length)with
   | true,some cs=>match cg ks cs with
    | true=>some cs
    | false=>none
   | _,_=>none
  | _=>none
 | _=>none
def kl(s:St):List (List CK)->List SV->Option (List Cell)
 | [],[]=>some []
 | ks::kss,x::xs=>match BN s ks x with
  | some cs=>match kl s kss xs with
   | some r=>some (cs++r)
   | none=>none
  | none=>none
 | _,_=>none
def fJ(c:Call)(s:St)(i:Nat):List Par->List (List Cell)->Option (List Cell)
 | [],[]=>some []
 | .ro a ks::ps,_::css=>match ei a (mB s.sl c i)with
  | some vs=>match ros s vs with
   | some cs=>match cg ks cs,fJ c s (i+1) ps css with
    | true,some r=>some (cs++r)
    | _,_=>none
   | none=>none
  | none=>none
 | .rptr ks::ps,_::css=>match BN s ks (mB s.sl c i)with
  | some cs=>match fJ c s (i+1) ps css with
   | some r=>some (cs++r)
   | none=>none
  | none=>none
 | .fn f kss::ps,_::css=>match mB s.sl c i with
  | .fn g caps=>match Nat.beq f g,kl s kss caps with
   | true,some cs=>match fJ c s (i+1) ps css with
    | some r=>some (cs++r)
    | none=>none
   | _,_=>none
  | _=>none
 | .own _ _ _ _::ps,cs::css=>match fJ c s (i+1) ps css with
  | some r=>some (cs++r)
  | none=>none
 | .ptr _ _::ps,cs::css=>match fJ c s (i+1) ps css with
  | some r=>some (cs++r)
  | none=>none
 | _,_=>none
section
variable {Φ:Phi} {cx:Ctx} {M:Nat->Prop} {N:Nm} {env:List C} {s:St} {tm:Array Value} {w:World} {o:Out} {a:Act}
theorem bp:∀ {ks:List CK} {cs:List Cell},cg ks cs=true->ak ks (aK env cs)=true
 | [],[],_=>rfl
 | [],_::_,h=>by simp[cg]at h
 | _::_,[],h=>by simp[cg]at h
 | k::ks,c::cs,h=>by
  obtain⟨ck,ca⟩:=c
  cases k<;>cases ck<;>simp only[cg,Bool.false_eq_true]at h<;>simp only[aK,Cell.den,ak,fG]
  case int.int a b =>
   split at h
   ·rename_i e;rw[e];exact bp h
   ·cases h
  all_goals exact bp h
theorem jK:∀ {ks:List CK} {cs:List Cell},cg ks cs=true->cs.length=ks.length:=by
 intro ks cs h
 have:=aJ (bp (env:=[]) h)
 rwa [cU]at this
def CallVals(a:Act)(c:Call)(f:Nat)(vals:List Value):Prop :=
 ∃ x caps,c.callee=.value x/\a.eval x=.func (.func f) #[] caps/\vals=c.args.toList.map a.eval++caps.toList
theorem fK(h:Sat cx M N env s a.tmps w){c:Call}{f:Nat}{xs:List SV}(hc:dv s.sl c=some (f,xs)):∃ vals,CallVals a c f vals/\svms w M cx.R N env xs vals:=by
 unfold dv at hc
 split at hc
 case h_2=>cases hc
 rename_i x hx
 split at hc
 case h_2=>cases hc
 rename_i g caps he
 simp only[Option.some.injEq,Prod.mk.injEq]at hc
 obtain⟨rfl,rfl⟩:=hc
 have:=h.opnd x
 rw[he,svm]at this
 obtain⟨cs,h1,h2⟩:=this
 exact⟨_,⟨x,cs,hx,h1,rfl⟩,bS (Ep h _) h2⟩
theorem CallVals.inj{c:Call}{f g:Nat}{us vs:List Value}(h1:CallVals a c f us)(h2:CallVals a c g vs):us=vs:=by
 obtain⟨x,cs,e1,e2,rfl⟩:=h1
 obtain⟨y,ds,e3,e4,rfl⟩:=h2
 rw[e1]at e3;cases e3
 rw[e2]at e4;cases e4
 rfl
theorem gq(h:Sat cx M N env s a.tmps w){c:Call}{f:Nat}{vals:List Value}(hv:CallVals a c f vals){i:Nat}{v:Value}(hi:vals[i]?=some v):svm w M cx.R N env (mB s.sl c i) v:=by
 unfold mB
 split
 ·rename_i g xs hc
  obtain⟨vals',h1,h2⟩:=fK h hc
  have:=CallVals.inj hv h1
  subst this
  have hlen:=bb h2
  have hlt:i<xs.length:=by rw[<-hlen];exact(List.getElem?_eq_some_iff.1 hi).1
  obtain⟨u,hu,hm⟩:=ee h2 (show xs[i]?=some (cr xs i) by rw[ef,List.getElem?_eq_getElem hlt];rfl)
  rw[hi]at hu;simp only[Option.some.injEq]at hu;subst hu;exact hm
 ·exact i7 _
theorem dT{M R:Nat->Prop}{ag:Bool}{x:SV}{vs:List SV}{v:Value}(h:ei ag x=some vs)(hx:svm w M R N env x v):∃ us,svms w M R N env vs us/\isV ag us v:=by
 cases ag with
 | false =>
  simp only[ei,Option.some.injEq]at h;subst h
  exact⟨[v],by simp only[svms];exact⟨v,[],rfl,hx,rfl⟩,rfl⟩
 | true =>
  cases x<;>simp only[ei,Option.some.injEq,reduceCtorEq]at h
  subst h
  rw[svm]at hx;obtain⟨cs,rfl,h2⟩:=hx
  exact⟨cs.toList,h2,by simp[isV]⟩
def BkOk(w:World)(M R:Nat->Prop)(N:Nm)(env:List C):Par->Bk->Value->Prop
 | .ptr shs _,.ptr k vs off,v=>∃ b arr us,(N k).v=.pointer (some ⟨b,(N k).pre.length,none⟩)/\(N k).φ=[b]/\w.heap[b]?=some (.cells arr (N k).ty (0,0))/\arr.toList=(N k).pre++us++(N k).post/\svms w M R N env vs us/\off+shs.length<=vs.length ∧
   v=.pointer (some ⟨b,(N k).pre.length+off,none⟩)
 | .own ag shs _ true,.own keys,v=>∃ us,isV ag us v/\us.length=shs.length/\keys.length=shs.length/\∀(i k:Nat),keys[i]?=some (some k)->∃ e row u,shs[i]?=some (.arr e row)/\us[i]?=some u/\u=(N k).v
 | .ptr _ _,_,_=>False
 | .own _ _ _ true,_,_=>False
 | _,b,_=>b=.no
def im(w:World)(M R:Nat->Prop)(N:Nm)(env:List C):List Par->List Bk->List Value->Prop
 | [],bs,vs=>bs=[]/\vs=[]
 | p::ps,bs,vs=>∃ b bs' v vs',bs=b::bs'/\vs=v::vs'/\BkOk w M R N env p b v/\im w M R N env ps bs' vs'
theorem BkOk.mono{M M' R:Nat->Prop}(hM:∀ b,M b->M' b){p:Par}{bk:Bk}{v:Value}(h:BkOk w M R N env p bk v):BkOk w M' R N env p bk v:=by
 cases p with
 | ptr shs ks =>
  cases bk with
  | ptr k vs off =>
   obtain⟨b,arr,us,h1,h2,h3,h4,h5,h6⟩:=h
   exact⟨b,arr,us,h1,h2,h3,h4,svms.keep (fun b hb=>⟨hM b hb,rfl⟩) (fun _ _=>rfl) h5,h6⟩
  | _=>exact h
 | own ag shs ks back=>cases back<;>cases bk<;>exact h
 | _=>exact h
theorem jL:∀ {shs:List Sh} {xs:List SV},xs.length=shs.length->(dH shs xs).length=shs.length
 | [],xs,h=>by cases xs<;>simp_all [dH]
 | sh::shs,[],h=>by simp at h
 | .val::shs,x::xs,h=>by simp[dH,jL (shs:=shs) (xs:=xs) (by simpa using h)]
 | .arr e row::shs,x::xs,h=>by
  have:=jL (shs:=shs) (xs:=xs) (by simpa using h)
  cases x<;>simp[dH,this]
theorem jM:∀ {shs:List Sh} {xs:List SV} {i k:Nat},(dH shs xs)[i]?=some (some k)->∃ e row,shs[i]?=some (.arr e row)/\xs[i]?=some (.sl k)
 | [],xs,i,k,h=>by cases xs<;>simp[dH]at h
 | sh::shs,[],i,k,h=>by cases sh<;>simp[dH]at h
 | .val::shs,x::xs,i,k,h=>by
  simp only[dH]at h
  cases i with
  | zero=>simp at h
  | succ i=>simpa using jM (by simpa using h)
 | .arr e row::shs,x::xs,i,k,h=>by
  cases i with
  | zero =>
   cases x<;>simp[dH]at h
   subst h;exact⟨e,row,by simp,by simp⟩
  | succ i =>
   have:(dH shs xs)[i]?=some (some k):=by cases x<;>simpa [dH] using h
   simpa using jM this
end
end Dx
namespace Dx
open Go
section
variable {Φ:Phi} {cx:Ctx} {M M1 M2:Nat->Prop} {N:Nm} {env:List C} {s s1 s2:St} {tm:Array Value} {w:World} {o:Out} {a:Act} {X X1 X2 Y:List Nat}
theorem Handed.trans(g:Handed cx N env tm w M s Y M1 s1 X1)(j:Handed cx N env tm w M1 s1 (X1++Y) M2 s2 X2):Handed cx N env tm w M s Y M2 s2 (X1++X2):=by
 have perm:(X2++(X1++Y)).Perm ((X1++X2)++Y):=by
  rw[<-List.append_assoc];exact List.Perm.append_right Y List.perm_append_comm
 refine⟨j.sat,fun b hb=>j.sub b (g.sub b hb),fun b hb=>?_,fun k o hk=>?_,fun b hb=>j.free b (perm.mem_iff.2 hb),perm.nodup_iff.1 j.nodup,?_,?_,?_⟩
 ·rcases j.from' b hb with hm|⟨k,o,e1,e2⟩
  ·exact g.from' b hm
  ·obtain⟨o',e3⟩:=g.less k o e1;exact .inr ⟨k,o',e3,e2⟩
 ·obtain⟨o1,e1⟩:=j.less k o hk;exact g.less k o1 e1
 ·intro b hb;exact(List.mem_append.1 hb).elim (g.lt b) (j.lt b)
 ·intro b hb
  refine(List.mem_append.1 hb).elim (g.was b) (fun hb=>?_)
  obtain⟨k,o,e1,e2⟩:=j.was b hb
  obtain⟨o',e3⟩:=g.less k o e1
  exact⟨k,o',e3,e2⟩
 ·obtain⟨p1,p2,p3⟩:=g.same
  obtain⟨q1,q2,q3⟩:=j.same
  exact⟨q1.trans p1,q2.trans p2,q3.trans p3⟩
theorem Handed.take(g:Handed cx N env tm w M s Y M1 s1 X){k:Nat}{ob:SObj}(hk:ar s1.hp k=some ob):Handed cx N env tm w M s Y M1 {s1 with hp:=cw s1.hp k} ((N k).φ++X):=by
 obtain⟨ob',hk'⟩:=g.less k ob hk
 refine⟨g.sat.less fun _ _ hj=>(ay hj).1,g.sub,g.from',fun j o hj=>g.less j o (ay hj).1,?_,?_,?_,?_,g.same⟩
 ·intro b hb
  rw[List.append_assoc]at hb
  rcases List.mem_append.1 hb with hb|hb
  ·have:=g.sat.apart k _ b hk hb
   refine⟨this.1,this.2,fun j o hj hb'=>?_⟩
   obtain⟨q1,q2⟩:=ay hj
   exact q2 (g.sat.dist j k o _ b q1 hk hb' hb)
  ·have:=g.free b hb
   exact⟨this.1,this.2.1,fun j o hj=>this.2.2 j o (ay hj).1⟩
 ·rw[List.append_assoc]
  exact List.nodup_append.2 ⟨g.sat.nodup k _ hk,g.nodup,fun x hx y hy e=>(g.free y hy).2.2 k _ hk (e ▸ hx)⟩
 ·intro b hb
  exact(List.mem_append.1 hb).elim (g.sat.blt k _ b hk) (g.lt b)
 ·intro b hb
  exact(List.mem_append.1 hb).elim (fun hb=>⟨k,ob',hk',hb⟩) (g.was b)
theorem vQ(h:Sat cx M N env s a.tmps w){Z:Nat->Prop}(hM:∀ b,M b->Z b)(hR:∀ b,cx.R b->Z b)(hO:∀ k o b,ar s.hp k=some o->b∈(N k).φ->Z b){ks:List CK}{x:SV}{cs:List Cell}{v:Value}(hc:BN s ks x=some cs)(hx:svm w M cx.R N env x v):ES w Z ks (aK env cs) v:=by
 cases x<;>simp only[BN,reduceCtorEq]at hc
 case vptr t cells =>
  split at hc
  case h_2=>cases hc
  rename_i cs' c1 c2
  split at hc
  case h_2=>cases hc
  rename_i c3
  simp only[Option.some.injEq]at hc;subst hc
  have hl:=br c1
  rw[svm]at hx
  obtain⟨b,o,arr,T,fr,h1,h2,h3,h4⟩:=hx
  obtain⟨g1,g2⟩:=um h hM hR hO c2 h4
  have hlen:=bb h4
  rw[List.length_take]at hlen
  refine⟨bp c3,b,o,arr,T,fr,h1,?_,h3,by omega,cq g1 ?_⟩
  ·cases t with
   | true=>exact hM b h2
   | false=>exact h2.elim (hM b) (hR b)
  ·rw[cU,g2,List.take_take,Nat.min_self]
 case ptr k off =>
  split at hc
  case h_2=>cases hc
  rename_i vs hg
  split at hc
  case h_2=>cases hc
  rename_i cs' c1 c2
  split at hc
  case h_2=>cases hc
  rename_i c3
  simp only[Option.some.injEq]at hc;subst hc
  have hl:=mR c1
  rw[svm]at hx
  obtain⟨b,hb,hv⟩:=hx
  obtain⟨b',arr,us,q1,q2,q3,q4,q5⟩:=h.objs k _ hg
  rw[hb]at q1;simp only[Value.pointer.injEq,Option.some.injEq,Addr.mk.injEq,and_true]at q1;subst q1
  obtain⟨g1,g2⟩:=um h hM hR hO c2 (kO q5 off ks.length)
  have hlen:=bb q5
  have hal:arr.size=(N k).pre.length+us.length+(N k).post.length:=by rw[<-arr.length_toList,q4];simp[Nat.add_assoc]
  refine⟨bp c3,b,_,arr,_,_,hv,hO k _ b hg (by rw[q2];simp),q3,by rw[List.length_drop,arr.length_toList];omega,cq g1 ?_⟩
  rw[cU,g2,q4,<-List.drop_drop,List.append_assoc,List.drop_left,List.drop_append_of_le_length (by omega)]
  simp only[List.length_take,List.length_drop]
  rw[List.take_append_of_le_length (by rw[List.length_drop];omega),List.take_take]
  congr 1
  omega
theorem rS(h:Sat cx M N env s a.tmps w){Z:Nat->Prop}(hM:∀ b,M b->Z b)(hR:∀ b,cx.R b->Z b)(hO:∀ k o b,ar s.hp k=some o->b∈(N k).φ->Z b):∀ {kss:List (List CK)} {xs:List SV} {cs:List Cell} {vs:List Value},kl s kss xs=some cs->svms w M cx.R N env xs vs->uq w Z kss (aK env cs) vs
 | [],[],cs,vs,hc,hx=>by
  simp only[kl,Option.some.injEq]at hc;subst hc
  rw[svms]at hx
  exact⟨rfl,hx⟩
 | [],_::_,_,_,hc,_=>by simp[kl]at hc
 | _::_,[],_,_,hc,_=>by simp[kl]at hc
 | ks::kss,x::xs,cs,vs,hc,hx=>by
  simp only[kl]at hc
  split at hc
  case h_2=>cases hc
  rename_i c1 h1
  split at hc
  case h_2=>cases hc
  rename_i c2 h2
  simp only[Option.some.injEq]at hc;subst hc
  rw[svms]at hx;obtain⟨v,vs',rfl,k1,k2⟩:=hx
  exact⟨_,_,v,vs',bj _ _,rfl,vQ h hM hR hO h1 k1,rS h hM hR hO h2 k2⟩
theorem oE{c:Call}{f:Nat}{all:List Value}(hv:CallVals a c f all):∀(ps:List Par) {M:Nat->Prop} {s s':St} {i:Nat} {css:List (List Cell)} {bks:List Bk} {Y:List Nat},Sat cx M N env s a.tmps w->all.length=i+ps.length->il c s i ps=some (s',css,bks)->oq cx M N s.hp Y->Y.Nodup ->
  ∃ M' X,Handed cx N env a.tmps w M s Y M' s' X/\im w M' cx.R N env ps bks (all.drop i) ∧
   ∀(M2 Z:Nat->Prop) (cs:List Cell),(∀ b,M' b->M2 b)->Sat cx M2 N env s' a.tmps w->fJ c s' i ps css=some cs->(∀ b,M2 b->Z b)->(∀ b,cx.R b->Z b)->(∀ k o b,ar s'.hp k=some o->b∈(N k).φ->Z b)->oD w M2 Z ps (aK env cs) (all.drop i) X
 | [],M,s,s',i,css,bks,Y,h,hl,hc,hf,hn=>by
  simp only[il,Option.some.injEq,Prod.mk.injEq]at hc
  obtain⟨rfl,rfl,rfl⟩:=hc
  have hd:all.drop i=[]:=List.drop_of_length_le (by simp at hl;omega)
  rw[hd]
  refine⟨M,[],Handed.refl h hf hn,⟨rfl,rfl⟩,?_⟩
  intro M2 Z cs _ _ hr _ _ _
  simp only[fJ,Option.some.injEq]at hr;subst hr
  exact⟨rfl,rfl,rfl⟩
 | p::ps,M,s,s',i,css,bks,Y,h,hl,hc,hf,hn=>by
  have hlt:i<all.length:=by simp at hl;omega
  have hdrop:all.drop i=all[i]::all.drop (i+1):=List.drop_eq_getElem_cons hlt
  have hai:all[i]?=some all[i]:=List.getElem?_eq_getElem hlt
  have hl':all.length=(i+1)+ps.length:=by simp at hl;omega
  have nothing:        (il c s (i+1) ps).map (fun q=>(q.1,[]::q.2.1,Bk.no::q.2.2))=some (s',css,bks)->(∀ bk,bk=Bk.no->∀ M',BkOk w M' cx.R N env p bk all[i]) ->
    (∀(s:St) (M2 Z:Nat->Prop) (cs:List Cell) (css:List (List Cell)),Sat cx M2 N env s a.tmps w->(∀ b,M2 b->Z b)->(∀ b,cx.R b->Z b)->(∀ k o b,ar s.hp k=some o->b∈(N k).φ->Z b)->fJ c s i (p::ps) ([]::css)=some cs ->
     ∃ c1 c2,cs=c1++c2/\fJ c s (i+1) ps css=some c2/\Ce w M2 Z p (aK env c1) all[i] []) ->
    ∃ M' X,Handed cx N env a.tmps w M s Y M' s' X/\im w M' cx.R N env (p::ps) bks (all.drop i) ∧
     ∀(M2 Z:Nat->Prop) (cs:List Cell),(∀ b,M' b->M2 b)->Sat cx M2 N env s' a.tmps w->fJ c s' i (p::ps) css=some cs->(∀ b,M2 b->Z b)->(∀ b,cx.R b->Z b)->(∀ k o b,ar s'.hp k=some o->b∈(N k).φ->Z b)->oD w M2 Z (p::ps) (aK env cs) (all.drop i) X:=by
   intro hm hbk hps
   cases hq:il c s (i+1) ps with
   | none=>rw[hq]at hm;cases hm
   | some q =>
    obtain⟨s2,css2,bks2⟩:=q
    rw[hq]at hm
    simp only[Option.map_some,Option.some.injEq,Prod.mk.injEq]at hm
    obtain⟨rfl,rfl,rfl⟩:=hm
    obtain⟨M',X,g1,g2,g3⟩:=oE hv ps h hl' hq hf hn
    refine⟨M',X,g1,⟨_,_,_,_,rfl,hdrop,hbk _ rfl M',g2⟩,?_⟩
    intro M2 Z cs h1 h2 h3 h4 h5 h6
    obtain⟨c1,c2,rfl,e2,e3⟩:=hps s2 M2 Z cs css2 h2 h4 h5 h6 h3
    exact⟨_,_,_,_,[],X,bj _ _,hdrop,rfl,e3,g3 M2 Z c2 h1 h2 e2 h4 h5 h6⟩
  cases p with
  | ro ag ks =>
   simp only[il]at hc
   refine nothing hc (fun bk e M'=>by subst e;rfl) ?_
   intro s2 M2 Z cs css2 h2 h4 h5 h6 h3
   simp only[fJ]at h3
   split at h3
   case h_2=>cases h3
   rename_i us hus
   split at h3
   case h_2=>cases h3
   rename_i c1 hc1
   split at h3
   case h_2=>cases h3
   rename_i r hb hr
   simp only[Option.some.injEq]at h3;subst h3
   refine⟨c1,r,rfl,hr,rfl,bp hb,?_⟩
   obtain⟨uv,k1,k2⟩:=dT hus (gq h2 hv hai)
   obtain⟨k3,k4⟩:=um h2 h4 h5 h6 hc1 k1
   exact⟨uv,by rw[bb k1,<-k4,jK hb],k3,k2⟩
  | rptr ks =>
   simp only[il]at hc
   refine nothing hc (fun bk e M'=>by subst e;rfl) ?_
   intro s2 M2 Z cs css2 h2 h4 h5 h6 h3
   simp only[fJ]at h3
   split at h3
   case h_2=>cases h3
   rename_i c1 hc1
   split at h3
   case h_2=>cases h3
   rename_i r hr
   simp only[Option.some.injEq]at h3;subst h3
   exact⟨c1,r,rfl,hr,rfl,vQ h2 h4 h5 h6 hc1 (gq h2 hv hai)⟩
  | fn g kss =>
   simp only[il]at hc
   refine nothing hc (fun bk e M'=>by subst e;rfl) ?_
   intro s2 M2 Z cs css2 h2 h4 h5 h6 h3
   simp only[fJ]at h3
   split at h3
   case h_2=>cases h3
   rename_i g' caps hg'
   split at h3
   case h_2=>cases h3
   rename_i c1 hb hc1
   split at h3
   case h_2=>cases h3
   rename_i r hr
   simp only[Option.some.injEq]at h3;subst h3
   have:=br hb;subst this
   have hx:=gq h2 hv hai
   rw[hg',svm]at hx
   obtain⟨cs',e1,e2⟩:=hx
   exact⟨c1,r,rfl,hr,rfl,cs',e1,rS h2 h4 h5 h6 hc1 e2⟩
  | own ag shs ks back =>
   simp only[il]at hc
   split at hc
   case h_2=>cases hc
   rename_i us hus
   split at hc
   case h_2=>cases hc
   rename_i s1 cs1 hcon
   split at hc
   case h_2=>cases hc
   rename_i s2 css2 bks2 hb hq
   simp only[Option.some.injEq,Prod.mk.injEq]at hc
   obtain⟨rfl,rfl,rfl⟩:=hc
   obtain⟨uv,k1,k2⟩:=dT hus (gq h hv hai)
   obtain⟨M1,X1,g1,g2⟩:=eg shs h hcon k1 hf hn
   obtain⟨M',X2,j1,j2,j3⟩:=oE hv ps g1.sat hl' hq g1.free g1.nodup
   have hul:=bb k1
   have husl:=(vM hcon).2
   refine⟨M',X1++X2,g1.trans j1,⟨_,_,_,_,rfl,hdrop,?_,j2⟩,?_⟩
   ·cases back with
    | false=>rfl
    | true =>
     refine⟨uv,k2,by omega,jL husl,fun i k hk=>?_⟩
     obtain⟨e,row,e1,e2⟩:=jM hk
     obtain⟨u,e3,e4⟩:=ee k1 e2
     rw[svm]at e4
     exact⟨e,row,u,e1,e3,e4⟩
   ·intro M2 Z cs h1 h2 h3 h4 h5 h6
    simp only[fJ]at h3
    split at h3
    case h_2=>cases h3
    rename_i r hr
    simp only[Option.some.injEq]at h3;subst h3
    refine⟨_,_,_,_,X1,X2,bj _ _,hdrop,rfl,⟨bp hb,uv,?_,k2⟩,j3 M2 Z r h1 h2 hr h4 h5 h6⟩
    exact shR.mono (fun b hb=>⟨h1 b (j1.sub b hb),rfl⟩) _ _ _ _ (fun _ _=>rfl) g2
  | ptr shs ks =>
   simp only[il]at hc
   split at hc
   case h_2=>cases hc
   rename_i k off hx
   split at hc
   case h_2=>cases hc
   rename_i vs hg
   split at hc
   case h_2=>cases hc
   rename_i s1 cs1 hle hcon
   split at hc
   case h_2=>cases hc
   rename_i vs1 hg1
   split at hc
   case h_2=>cases hc
   rename_i s2 css2 bks2 hb hq
   simp only[Option.some.injEq,Prod.mk.injEq]at hc
   obtain⟨rfl,rfl,rfl⟩:=hc
   have hle:=mR hle
   have hav:=gq h hv hai
   rw[hx,svm]at hav
   obtain⟨b,hb0,hpv⟩:=hav
   obtain⟨b',arr,us,q1,q2,q3,q4,q5⟩:=h.objs k _ hg
   rw[hb0]at q1;simp only[Value.pointer.injEq,Option.some.injEq,Addr.mk.injEq,and_true]at q1;subst q1
   obtain⟨M1,X1,g1,g2⟩:=eg shs h hcon (kO q5 off shs.length) hf hn
   have g3:=g1.take hg1
   obtain⟨M',X2,j1,j2,j3⟩:=oE hv ps g3.sat hl' hq g3.free g3.nodup
   obtain⟨b2,arr2,us2,r1,r2,r3,r4,r5⟩:=g1.sat.objs k _ hg1
   have hvl:=bb q5
   have hvl2:=bb r5
   rw[hb0]at r1;simp only[Value.pointer.injEq,Option.some.injEq,Addr.mk.injEq,and_true]at r1;subst r1
   rw[q3]at r3;simp only[Option.some.injEq,Obj.cells.injEq,and_true]at r3
   subst r3
   have hus2:us2=us:=by
    rw[q4]at r4
    have:=List.append_cancel_right r4
    exact(List.append_cancel_left this).symm
   subst hus2
   refine⟨M',((N k).φ++X1)++X2,g3.trans j1,⟨_,_,_,_,rfl,hdrop,?_,j2⟩,?_⟩
   ·exact⟨b,arr,us2,hb0,q2,q3,q4,svms.keep (fun b hb=>⟨j1.sub b hb,rfl⟩) (fun _ _=>rfl) r5,by omega,hpv⟩
   ·intro M2 Z cs h1 h2 h3 h4 h5 h6
    simp only[fJ]at h3
    split at h3
    case h_2=>cases h3
    rename_i r hr
    simp only[Option.some.injEq]at h3;subst h3
    refine⟨_,_,_,_,(N k).φ++X1,X2,bj _ _,hdrop,rfl,⟨bp hb,b,(N k).pre++us2.take off,(us2.drop off).take shs.length,us2.drop (off+shs.length)++(N k).post,arr,_,X1,?_,q3,?_,?_,by rw[q2];rfl⟩,j3 M2 Z r h1 h2 hr h4 h5 h6⟩
    ·rw[hpv];congr 3
     rw[List.length_append,List.length_take];omega
    ·rw[q4]
     have:us2=us2.take off++((us2.drop off).take shs.length++us2.drop (off+shs.length)):=by
      rw[<-List.drop_drop,List.take_append_drop,List.take_append_drop]
     calc (N k).pre++us2++(N k).post=(N k).pre++(us2.take off++((us2.drop off).take shs.length++us2.drop (off+shs.length)))++(N k).post:=by rw[<-this]
      _=_:=by simp
    ·exact shR.mono (fun b hb=>⟨h1 b (j1.sub b hb),rfl⟩) _ _ _ _ (fun _ _=>rfl) g2
end
end Dx
namespace Dx
open Go
def retS:List SV->SV
 | [x]=>x
 | xs=>.tuple xs
def fY(nx nv:Nat)(r:Ret):SV×List (Nat×SObj)×Nat :=
 match r.ptr with
 | false=>match mkR true nx nv r.shs r.ks with
  | (svs,o1,nx1)=>(kN r.agg svs,o1,nx1)
 | true=>match mkR true (nx+1) nv r.shs r.ks with
  | (svs,o1,nx1)=>(.ptr nx 0,(nx,.cells svs)::o1,nx1)
def bX(nx nv:Nat):List Ret->List SV×List (Nat×SObj)×Nat×Nat
 | []=>([],[],nx,nv)
 | r::rs=>match fY nx nv r with
  | (x,o1,nx1)=>match bX nx1 (nv+r.ks.length) rs with
   | (xs,o2,nx2,nv2)=>(x::xs,o1++o2,nx2,nv2)
def eX(nv:Nat):List (Option Nat)->List Sh->List (Nat×SObj)
 | some k::keys,.arr e row::shs=>(k,.arr e row (.v nv))::eX (nv+1) keys shs
 | _::keys,_::shs=>eX (nv+1) keys shs
 | _,_=>[]
def cT(nx nv:Nat):List Par->List Bk->List (Nat×SObj)×Nat
 | .ptr shs ks::ps,.ptr k vs off::bs=>match mkR true nx nv shs ks with
  | (svs,o1,nx1)=>match cT nx1 (nv+ks.length) ps bs with
   | (o2,nx2)=>((k,.cells (vs.take off++svs++vs.drop (off+shs.length)))::o1++o2,nx2)
 | .own _ shs ks true::ps,.own keys::bs=>match cT nx (nv+ks.length) ps bs with
  | (o2,nx2)=>(eX nv keys shs++o2,nx2)
 | _::ps,_::bs=>cT nx nv ps bs
 | _,_=>([],nx)
def gr:List Par->List CK
 | []=>[]
 | .ptr _ ks::ps=>ks++gr ps
 | .own _ _ ks true::ps=>ks++gr ps
 | _::ps=>gr ps
def jN:List Ret->List CK
 | []=>[]
 | r::rs=>r.ks++jN rs
def bz:List (Option Nat)->List Nat
 | []=>[]
 | some k::r=>k::bz r
 | none::r=>bz r
def bl:List Bk->List Nat
 | []=>[]
 | .no::r=>bl r
 | .ptr k _ _::r=>k::bl r
 | .own keys::r=>bz keys++bl r
def bI:List Nat->Bool
 | []=>true
 | k::r=>match qb k r with
  | true=>false
  | false=>bI r
def ur(hp:List (Nat×SObj))(k:Nat):Bool:=match ar hp k with
 | none=>true
 | some _=>false
def kS(s:St):List Bk->Bool
 | []=>true
 | .ptr _ vs _::r=>SV.alls (fun k=>Nat.blt k s.nx) (fun i=>Nat.blt i s.nv) vs && kS s r
 | _::r=>kS s r
def bkB(s:St)(bks:List Bk):Bool:=bI (bl bks) && ((bl bks).all (fun k=>ur s.hp k && Nat.blt k s.nx) && kS s bks)
def BO(rd:List Nat)(hp':List (Nat×SObj)):List (Nat×SObj)->Bool
 | []=>true
 | (k,_)::r=>(!ur hp' k || ov rd k) && BO rd hp' r
def BP(s:St)(c:Call)(n:Nat):Bool:=match dv s.sl c with
 | some (_,xs)=>Nat.beq xs.length n
 | none=>false
def call(s:St)(c:Call)(fi:Nat)(con:Con)(rd:List Nat)(d:Option Tmp)(K:St->Tree):Tree :=
 match BP s c con.args.length,il c s 0 con.args with
 | true,some (s1,css,bks)=>match fJ c s1 0 con.args css with
  | some cells=>match s1.ok,bkB s1 bks,BO rd s1.hp s.hp with
   | true,true,true=>match bX s1.nx s1.nv con.res with
    | (xs,o1,nx1,nv1)=>match cT nx1 nv1 con.args bks with
     | (o2,nx2)=>.call fi cells (jN con.res++gr con.args) (K (ct {s1 with hp:=(o1++o2)++s1.hp,nx:=nx2,nv:=s1.nv+(jN con.res++gr con.args).length} d (retS xs)))
   | _,_,_=>.fail
  | none=>.fail
 | _,_=>.fail
section
variable {Φ:Phi} {cx:Ctx} {M:Nat->Prop} {N:Nm} {env:List C} {s:St} {tm:Array Value} {w:World} {o:Out} {a:Act}
theorem gV{t:Bool}{V:Nat->Bool}(hV:∀ i,V i=true):∀ {shs:List Sh} {ks:List CK} {nx nv n:Nat},(mkR t nx nv shs ks).2.2<=n->SV.alls (fun k=>Nat.blt k n) V (mkR t nx nv shs ks).1=true
 | [],ks,nx,nv,n,_=>by simp[mkR,SV.alls]
 | .val::shs,[],nx,nv,n,_=>by simp[mkR,SV.alls]
 | .arr _ _::shs,[],nx,nv,n,_=>by simp[mkR,SV.alls]
 | .val::shs,k::ks,nx,nv,n,h=>by
  simp only[mkR]at h ⊢
  have:=gV (t:=t) hV (shs:=shs) (ks:=ks) (nx:=nx) (nv:=nv+1) (n:=n)
  generalize mkR t nx (nv+1) shs ks=q at this h ⊢
  simp only[SV.alls,this h,Bool.and_true]
  cases k<;>first|exact hV _|rfl
 | .arr e row::shs,k::ks,nx,nv,n,h=>by
  simp only[mkR]at h ⊢
  have:=gV (t:=t) hV (shs:=shs) (ks:=ks) (nx:=nx+1) (nv:=nv+1) (n:=n)
  have hge:=eW (t:=t) (shs:=shs) (ks:=ks) (nx:=nx+1) (nv:=nv+1)
  generalize mkR t (nx+1) (nv+1) shs ks=q at this h hge ⊢
  have h':q.2.2<=n:=h
  simp only[SV.alls,this h,Bool.and_true]
  exact el (by omega)
theorem sU{t:Bool}:∀ {shs:List Sh} {ks:List CK} {nx nv k:Nat} {ob:SObj},ar (mkR t nx nv shs ks).2.1 k=some ob->∃ e row l,ob=.arr e row l
 | [],ks,nx,nv,k,ob,h=>by simp[mkR,ar]at h
 | .val::shs,[],nx,nv,k,ob,h=>by simp[mkR,ar]at h
 | .arr _ _::shs,[],nx,nv,k,ob,h=>by simp[mkR,ar]at h
 | .val::shs,k'::ks,nx,nv,k,ob,h=>by
  simp only[mkR]at h
  have:=sU (t:=t) (shs:=shs) (ks:=ks) (nx:=nx) (nv:=nv+1) (k:=k) (ob:=ob)
  generalize mkR t nx (nv+1) shs ks=q at this h
  exact this h
 | .arr e row::shs,k'::ks,nx,nv,k,ob,h=>by
  simp only[mkR]at h
  have:=sU (t:=t) (shs:=shs) (ks:=ks) (nx:=nx+1) (nv:=nv+1) (k:=k) (ob:=ob)
  generalize mkR t (nx+1) (nv+1) shs ks=q at this h
  rw[aq]at h
  split at h
  ·simp only[Option.some.injEq]at h;exact⟨_,_,_,h.symm⟩
  ·exact this h
structure News (w:World) (M R:Nat->Prop) (N:Nm) (env:List C) (objs:List (Nat×SObj)) (X:List Nat):Prop where
 obj:∀ k o,ar objs k=some o->obm w M R N env k o/\(N k).φ.Nodup/\∀ b∈(N k).φ,b∈X
 dist:∀ k k' o o' b,ar objs k=some o->ar objs k'=some o'->b∈(N k).φ->b∈(N k').φ->k=k'
theorem News.append{R:Nat->Prop}{o1 o2:List (Nat×SObj)}{X1 X2:List Nat}(h1:News w M R N env o1 X1)(h2:News w M R N env o2 X2)(hd:(X1++X2).Nodup):News w M R N env (o1++o2) (X1++X2):=by
 have hd':=(List.nodup_append.1 hd).2.2
 have cases':∀ k o,ar (o1++o2) k=some o->ar o1 k=some o\/ar o2 k=some o:=fun k o hg=>by
  rw[fF]at hg
  split at hg
  ·rename_i o' e;exact .inl (e.trans hg)
  ·exact .inr hg
 refine⟨fun k o hg=>?_,fun k k' o o' b hg hg' hb hb'=>?_⟩
 ·rcases cases' k o hg with g|g
  ·obtain⟨k1,k2,k3⟩:=h1.obj k o g;exact⟨k1,k2,fun b hb=>List.mem_append_left _ (k3 b hb)⟩
  ·obtain⟨k1,k2,k3⟩:=h2.obj k o g;exact⟨k1,k2,fun b hb=>List.mem_append_right _ (k3 b hb)⟩
 ·rcases cases' k o hg with g|g<;>rcases cases' k' o' hg' with g'|g'
  ·exact h1.dist k k' o o' b g g' hb hb'
  ·exact absurd rfl (hd' b ((h1.obj k o g).2.2 b hb) b ((h2.obj k' o' g').2.2 b hb'))
  ·exact absurd rfl (hd' b ((h1.obj k' o' g').2.2 b hb') b ((h2.obj k o g).2.2 b hb))
  ·exact h2.dist k k' o o' b g g' hb hb'
theorem News.nil{R:Nat->Prop}{X:List Nat}:News w M R N env [] X:=⟨fun k o hg=>by simp[ar]at hg,fun k k' o o' b hg=>by simp[ar]at hg⟩
theorem News.lift{R:Nat->Prop}{N':Nm}{objs:List (Nat×SObj)}{X:List Nat}(h:News w M R N env objs X)(harr:∀ k o,ar objs k=some o->∃ e row l,o=.arr e row l)(hN:∀ k o,ar objs k=some o->N' k=N k):News w M R N' env objs X:=by
 refine⟨fun k o hg=>?_,fun k k' o o' b hg hg' hb hb'=>?_⟩
 ·obtain⟨k1,k2,k3⟩:=h.obj k o hg
  obtain⟨e,row,l,rfl⟩:=harr k o hg
  rw[obm]at k1 ⊢
  rw[hN k _ hg]
  exact⟨k1,k2,k3⟩
 ·rw[hN k o hg]at hb;rw[hN k' o' hg']at hb'
  exact h.dist k k' o o' b hg hg' hb hb'
theorem iW{R:Nat->Prop}{ag:Bool}{svs:List SV}{us:List Value}{v:Value}(h:svms w M R N env svs us)(hv:isV ag us v):svm w M R N env (kN ag svs) v:=by
 cases ag with
 | true =>
  simp only[isV]at hv
  simp only[kN];rw[svm]
  exact⟨us.toArray,hv,by simpa using h⟩
 | false =>
  simp only[isV]at hv
  subst hv
  cases svs with
  | nil=>exact i7 _
  | cons x xs =>
   rw[svms]at h;obtain⟨u,us',e,h1,_⟩:=h
   simp only[List.cons.injEq]at e
   rw[e.1];exact h1
theorem lz{K V:Nat->Bool}{ag:Bool}{svs:List SV}(h:SV.alls K V svs=true):(kN ag svs).all K V=true:=by
 cases ag with
 | true=>exact h
 | false =>
  cases svs with
  | nil=>rfl
  | cons x xs =>
   have h':x.all K V=true/\SV.alls K V xs=true:=by simpa [SV.alls] using h
   exact h'.1
theorem gz{K V:Nat->Bool}:∀ {xs ys:List (Nat×SObj)},bq K V xs=true->bq K V ys=true->bq K V (xs++ys)=true
 | [],_,_,h=>h
 | (k,o)::r,ys,h,h'=>by
  have:K k=true/\o.all K V=true/\bq K V r=true:=by simpa [bq] using h
  simp[bq,this.1,this.2.1,gz this.2.2 h']
theorem sV{K K' V:Nat->Bool}(hK:∀ k,K k=true->K' k=true):∀ {hp:List (Nat×SObj)},(∀ k o,(k,o)∈hp->(o.all K V=true->o.all K' V=true))->bq K V hp=true->bq K' V hp=true
 | [],_,_=>rfl
 | (k,o)::r,ho,h=>by
  have h':K k=true/\o.all K V=true/\bq K V r=true:=by simpa [bq] using h
  simp[bq,hK k h'.1,ho k o List.mem_cons_self h'.2.1,sV hK (fun k o hm=>ho k o (List.mem_cons_of_mem _ hm)) h'.2.2]
mutual
theorem SV.all_K{K K' V:Nat->Bool}(hK:∀ k,K k=true->K' k=true):∀ x:SV,x.all K V=true->x.all K' V=true
 | .any,_|.nil,_|.nilptr,_|.blob,_=>rfl
 | .int _ a,h|.bool a,h|.str a,h|.view _ a,h=>h
 | .sl k,h|.ptr k _,h=>hK k h
 | .eptr k _ i _,h=>by
  have h':K k=true/\i.all V=true:=by simpa [SV.all] using h
  simp[SV.all,hK k h'.1,h'.2]
 | .fn _ vs,h|.agg vs,h|.tuple vs,h|.vptr _ vs,h=>SV.alls_K hK vs h
theorem SV.alls_K{K K' V:Nat->Bool}(hK:∀ k,K k=true->K' k=true):∀ xs:List SV,SV.alls K V xs=true->SV.alls K' V xs=true
 | [],_=>rfl
 | x::xs,h=>by
  have h':x.all K V=true/\SV.alls K V xs=true:=by simpa [SV.alls] using h
  simp[SV.alls,SV.all_K hK x h'.1,SV.alls_K hK xs h'.2]
end
theorem SObj.all_K{K K' V:Nat->Bool}(hK:∀ k,K k=true->K' k=true)(o:SObj)(h:o.all K V=true):o.all K' V=true:=by
 cases o with
 | cells vs=>exact SV.alls_K hK vs h
 | arr e row l=>exact h
 | foc e row l i vs =>
  have h':l.all V=true/\i.all V=true/\SV.alls K V vs=true:=by simpa [SObj.all] using h
  simp[SObj.all,h'.1,h'.2.1,SV.alls_K hK vs h'.2.2]
 | map es=>rfl
 | smap es=>rfl
 | bld T e a=>exact h
theorem mL{t:Bool}:∀ {shs:List Sh} {ks:List CK} {nx nv n:Nat},(mkR t nx nv shs ks).2.2<=n->bq (fun k=>Nat.blt k n) (fun _=>true) (mkR t nx nv shs ks).2.1=true
 | [],ks,nx,nv,n,_=>by simp[mkR,bq]
 | .val::shs,[],nx,nv,n,_=>by simp[mkR,bq]
 | .arr _ _::shs,[],nx,nv,n,_=>by simp[mkR,bq]
 | .val::shs,k::ks,nx,nv,n,h=>by
  simp only[mkR]at h ⊢
  have:=mL (t:=t) (shs:=shs) (ks:=ks) (nx:=nx) (nv:=nv+1) (n:=n)
  generalize mkR t nx (nv+1) shs ks=q at this h ⊢
  exact this h
 | .arr e row::shs,k::ks,nx,nv,n,h=>by
  simp only[mkR]at h ⊢
  have:=mL (t:=t) (shs:=shs) (ks:=ks) (nx:=nx+1) (nv:=nv+1) (n:=n)
  have hge:=eW (t:=t) (shs:=shs) (ks:=ks) (nx:=nx+1) (nv:=nv+1)
  generalize mkR t (nx+1) (nv+1) shs ks=q at this h hge ⊢
  obtain⟨svs,objs,nx'⟩:=q
  dsimp only at this h hge ⊢
  simp[bq,this h,el (show nx<n by omega),SObj.all,At.all]
theorem News.lift2{R:Nat->Prop}{N':Nm}{objs:List (Nat×SObj)}{X:List Nat}{n:Nat}(h:News w M R N env objs X)(ha:bq (fun k=>Nat.blt k n) (fun _=>true) objs=true)(hN:∀ k,k<n->N' k=N k):News w M R N' env objs X:=by
 refine⟨fun k o hg=>?_,fun k k' o o' b hg hg' hb hb'=>?_⟩
 ·have hk:=aD ha hg
  have e:=hN k (ap hk.1)
  obtain⟨k1,k2,k3⟩:=h.obj k o hg
  rw[e]
  exact⟨obm.mono (K:=fun k=>Nat.blt k n) (V:=fun _=>true) (fun _ hb=>⟨hb,rfl⟩) (fun _ _=>rfl) (fun k hk=>KI.same.of (hN k (ap hk))) (fun _ _=>rfl) e hk.2 (fun _ _=>rfl) k1,k2,k3⟩
 ·rw[hN k (ap (aD ha hg).1)]at hb
  rw[hN k' (ap (aD ha hg').1)]at hb'
  exact h.dist k k' o o' b hg hg' hb hb'
theorem News.lift3{R:Nat->Prop}{N':Nm}{objs:List (Nat×SObj)}{X:List Nat}{n:Nat}(h:News w M R N env objs X)(ha:bq (fun k=>Nat.blt k n) (fun _=>true) objs=true)(hN:∀ k,k<n->KI.same (N' k) (N k))(hk:∀ k o,ar objs k=some o->N' k=N k):News w M R N' env objs X:=by
 refine⟨fun k o hg=>?_,fun k k' o o' b hg hg' hb hb'=>?_⟩
 ·have hq:=aD ha hg
  have e:=hk k o hg
  obtain⟨k1,k2,k3⟩:=h.obj k o hg
  rw[e]
  exact⟨obm.mono (K:=fun k=>Nat.blt k n) (V:=fun _=>true) (fun _ hb=>⟨hb,rfl⟩) (fun _ _=>rfl) (fun k hk=>hN k (ap hk)) (fun _ _=>rfl) e hq.2 (fun _ _=>rfl) k1,k2,k3⟩
 ·rw[hk k o hg]at hb
  rw[hk k' o' hg']at hb'
  exact h.dist k k' o o' b hg hg' hb hb'
theorem vR{r:Ret}{nx nv:Nat}:nx<=(fY nx nv r).2.2:=by
 unfold fY
 split
 ·have h1:=eW (t:=true) (shs:=r.shs) (ks:=r.ks) (nx:=nx) (nv:=nv)
  generalize mkR true nx nv r.shs r.ks=q at h1 ⊢
  exact h1
 ·have h1:=eW (t:=true) (shs:=r.shs) (ks:=r.ks) (nx:=nx+1) (nv:=nv)
  generalize mkR true (nx+1) nv r.shs r.ks=q at h1 ⊢
  exact Nat.le_trans (Nat.le_succ _) h1
theorem lB:∀ {rs:List Ret} {nx nv:Nat},nx<=(bX nx nv rs).2.2.1
 | [],nx,nv=>by simp[bX]
 | r::rs,nx,nv=>by
  simp only[bX]
  have h1:=vR (r:=r) (nx:=nx) (nv:=nv)
  generalize fY nx nv r=q at h1 ⊢
  obtain⟨x,o1,nx1⟩:=q
  have h2:=lB (rs:=rs) (nx:=nx1) (nv:=nv+r.ks.length)
  generalize bX nx1 (nv+r.ks.length) rs=q2 at h2 ⊢
  exact Nat.le_trans h1 h2
theorem rT:∀ {rs:List Ret} {nx nv:Nat},(bX nx nv rs).2.2.2=nv+(jN rs).length
 | [],nx,nv=>by simp[bX,jN]
 | r::rs,nx,nv=>by
  simp only[bX,jN]
  generalize fY nx nv r=q
  obtain⟨x,o1,nx1⟩:=q
  have h2:=rT (rs:=rs) (nx:=nx1) (nv:=nv+r.ks.length)
  generalize bX nx1 (nv+r.ks.length) rs=q2 at h2 ⊢
  simp only[List.length_append]
  rw[<-Nat.add_assoc];exact h2
theorem CV{R:Nat->Prop}{r:Ret}{cs:List C}{v:Value}{X:List Nat}{env0:List C}(rest:List C){nx:Nat}{N:Nm}(hk:ak r.ks cs=true)(h:ij w M r cs v X)(hn:X.Nodup) :
  ∃ N',(∀ k,k<nx->N' k=N k)/\News w M R N' (env0++(cs++rest)) (fY nx env0.length r).2.1 X/\svm w M R N' (env0++(cs++rest)) (fY nx env0.length r).1 v ∧
   (∀ k o,ar (fY nx env0.length r).2.1 k=some o->nx<=k/\k<(fY nx env0.length r).2.2)/\bq (fun k=>Nat.blt k (fY nx env0.length r).2.2) (fun _=>true) (fY nx env0.length r).2.1=true ∧
   (∀ n,(fY nx env0.length r).2.2<=n->(fY nx env0.length r).1.all (fun k=>Nat.blt k n) (fun _=>true)=true):=by
 have hkl:=aJ hk
 unfold ij at h
 unfold fY
 split at h
 ·rename_i hp
  try rw[hp]
  obtain⟨us,h1,h2⟩:=h
  obtain⟨N1,g⟩:=jc (R:=R) (env0:=env0) rest (nx:=nx) (N:=N) hk h1 hn
  have hge:=eW (t:=true) (shs:=r.shs) (ks:=r.ks) (nx:=nx) (nv:=env0.length)
  have hall:=fun n=>gV (t:=true) (V:=fun _=>true) (fun _=>rfl) (shs:=r.shs) (ks:=r.ks) (nx:=nx) (nv:=env0.length) (n:=n)
  have hhp:=fun n=>mL (t:=true) (shs:=r.shs) (ks:=r.ks) (nx:=nx) (nv:=env0.length) (n:=n)
  generalize mkR true nx env0.length r.shs r.ks=q at g hge hall hhp ⊢
  obtain⟨svs,o1,nx1⟩:=q
  dsimp only at g hge hall hhp ⊢
  exact⟨N1,g.old,⟨g.obj,g.dist⟩,iW g.svs h2,g.key,hhp nx1 (Nat.le_refl _),fun n hle=>lz (hall n hle)⟩
 ·rename_i hp
  try rw[hp]
  obtain⟨b,pre,us,post,arr,T,X',hv,hh,ha,h1,rfl⟩:=h
  have hn':=List.nodup_cons.1 hn
  let N0:Nm:=ip N nx ⟨v,pre,post,T,[b]⟩
  obtain⟨N1,g⟩:=jc (R:=R) (env0:=env0) rest (nx:=nx+1) (N:=N0) hk h1 hn'.2
  have hge:=eW (t:=true) (shs:=r.shs) (ks:=r.ks) (nx:=nx+1) (nv:=env0.length)
  have hall:=fun n=>gV (t:=true) (V:=fun _=>true) (fun _=>rfl) (shs:=r.shs) (ks:=r.ks) (nx:=nx+1) (nv:=env0.length) (n:=n)
  have hhp:=fun n=>mL (t:=true) (shs:=r.shs) (ks:=r.ks) (nx:=nx+1) (nv:=env0.length) (n:=n)
  generalize mkR true (nx+1) env0.length r.shs r.ks=q at g hge hall hhp ⊢
  obtain⟨svs,o1,nx1⟩:=q
  dsimp only at g hge hall hhp ⊢
  have hnx:N1 nx=⟨v,pre,post,T,[b]⟩:=by rw[g.old nx (Nat.lt_succ_self _)];exact aR N nx _
  refine⟨N1,fun k hk'=>(g.old k (by omega)).trans (aO N _ hk'),⟨?_,?_⟩,?_,?_,?_,fun n hle=>el (by omega)⟩
  ·intro k o hg
   rw[aq]at hg
   split at hg
   ·rename_i e;subst e
    simp only[Option.some.injEq]at hg;subst hg
    rw[hnx]
    refine⟨?_,by simp,fun b' hb'=>by simp at hb';subst hb';exact List.mem_cons_self⟩
    rw[obm,hnx]
    exact⟨b,arr,us,hv,rfl,hh,ha,g.svs⟩
   ·obtain⟨k1,k2,k3⟩:=g.obj k o hg
    exact⟨k1,k2,fun b' hb'=>List.mem_cons_of_mem _ (k3 b' hb')⟩
  ·intro k k' o o' b' hg hg' hb hb'
   rw[aq]at hg hg'
   split at hg<;>split at hg'
   ·omega
   ·rename_i e1 e2;subst e1
    rw[hnx]at hb;simp at hb;subst hb
    exact absurd ((g.obj k' o' hg').2.2 _ hb') hn'.1
   ·rename_i e1 e2;subst e2
    rw[hnx]at hb';simp at hb';subst hb'
    exact absurd ((g.obj k o hg).2.2 _ hb) hn'.1
   ·exact g.dist k k' o o' b' hg hg' hb hb'
  ·rw[svm,hnx]
   exact⟨b,hv,by simpa using hv⟩
  ·intro k o hg
   rw[aq]at hg
   split at hg
   ·rename_i e;subst e;exact⟨Nat.le_refl _,by omega⟩
   ·have:=g.key k o hg;exact⟨by omega,this.2⟩
  ·simp[bq,hhp nx1 (Nat.le_refl _),el (show nx<nx1 by omega),SObj.all,hall nx1 (Nat.le_refl _)]
theorem jh:∀ {ks:List CK} {cs:List C} {ls:List CK} {ds:List C},ak ks cs=true->ak ls ds=true->ak (ks++ls) (cs++ds)=true:=by
 intro ks
 induction ks with
 | nil=>intro cs ls ds h1 h2;have:=aJ h1;have:cs=[]:=List.eq_nil_of_length_eq_zero this;subst this;exact h2
 | cons k ks ih =>
  intro cs ls ds h1 h2
  cases cs with
  | nil=>simp[ak]at h1
  | cons c cs =>
   simp only[ak,List.cons_append]at h1 ⊢
   split at h1
   ·exact ih h1 h2
   ·cases h1
theorem rU{R:Nat->Prop}:∀ {rs:List Ret} {cs:List C} {vs:List Value} {X:List Nat} {env0:List C} (rest:List C) {nx:Nat} {N:Nm},jJ w M rs cs vs X->X.Nodup ->
  ∃ N',(∀ k,k<nx->N' k=N k)/\News w M R N' (env0++(cs++rest)) (bX nx env0.length rs).2.1 X/\svms w M R N' (env0++(cs++rest)) (bX nx env0.length rs).1 vs ∧
   (∀ k o,ar (bX nx env0.length rs).2.1 k=some o->nx<=k/\k<(bX nx env0.length rs).2.2.1)/\SV.alls (fun k=>Nat.blt k (bX nx env0.length rs).2.2.1) (fun _=>true) (bX nx env0.length rs).1=true/\ak (jN rs) cs=true ∧
   bq (fun k=>Nat.blt k (bX nx env0.length rs).2.2.1) (fun _=>true) (bX nx env0.length rs).2.1=true
 | [],cs,vs,X,env0,rest,nx,N,h,hn=>by
  obtain⟨rfl,rfl,rfl⟩:=h
  exact⟨N,fun _ _=>rfl,News.nil,by simp[bX,svms],fun k o hg=>by simp[bX,ar]at hg,rfl,rfl,rfl⟩
 | r::rs,cs,vs,X,env0,rest,nx,N,h,hn=>by
  obtain⟨c1,c2,v,vs',X1,X2,rfl,rfl,rfl,hk,hone,hr⟩:=h
  have hn':=List.nodup_append.1 hn
  have hkl:=aJ hk
  obtain⟨N1,g1,g2,g3,g4,g5,g6⟩:=CV (R:=R) (env0:=env0) (c2++rest) (nx:=nx) (N:=N) hk hone hn'.1
  have hge:=vR (r:=r) (nx:=nx) (nv:=env0.length)
  simp only[bX]
  generalize fY nx env0.length r=q at g2 g3 g4 g5 g6 hge ⊢
  obtain⟨x,o1,nx1⟩:=q
  dsimp only at g2 g3 g4 g5 g6 hge ⊢
  obtain⟨N2,j1,j2,j3,j4,j5,j6,j7⟩:=rU (R:=R) (env0:=env0++c1) rest (nx:=nx1) (N:=N1) hr hn'.2.1
  have e1:(env0++c1).length=env0.length+r.ks.length:=by simp[hkl]
  have e2:env0++c1++(c2++rest)=env0++(c1++c2++rest):=by simp
  rw[e1]at j2 j3 j4 j5 j7
  rw[e2]at j2 j3
  have e3:env0++(c1++(c2++rest))=env0++(c1++c2++rest):=by simp
  rw[e3]at g2 g3
  have hge2:=lB (rs:=rs) (nx:=nx1) (nv:=env0.length+r.ks.length)
  generalize bX nx1 (env0.length+r.ks.length) rs=q2 at j2 j3 j4 j5 j7 hge2 ⊢
  obtain⟨xs,o2,nx2,nv2⟩:=q2
  dsimp only at j2 j3 j4 j5 j7 hge2 ⊢
  have wide:bq (fun k=>Nat.blt k nx2) (fun _=>true) o1=true:=sV (fun k hk=>el (by have:=ap hk;omega)) (fun k o _ ho=>SObj.all_K (fun k hk=>el (by have:=ap hk;omega)) o ho) g5
  refine⟨N2,fun k hk'=>(j1 k (by omega)).trans (g1 k hk'),(g2.lift2 g5 fun k hk=>j1 k hk).append j2 hn,?_,fun k o hg=>?_,?_,jh hk j6,gz wide j7⟩
  ·rw[svms]
   refine⟨v,vs',rfl,?_,j3⟩
   exact svm.mono (K:=fun k=>Nat.blt k nx1) (V:=fun _=>true) (fun _ hb=>⟨hb,rfl⟩) (fun _ _=>rfl) (fun k hk'=>KI.same.of (j1 k (ap hk'))) (fun _ _=>rfl) _ _ (g6 nx1 (Nat.le_refl _)) g3
  ·rw[fF]at hg
   split at hg
   ·rename_i o' e
    have:=g4 k o' e
    exact⟨this.1,by omega⟩
   ·have:=j4 k o hg
    exact⟨by omega,this.2⟩
  ·simp only[SV.alls,j5,Bool.and_true]
   exact g6 nx2 hge2
end
end Dx
namespace Dx
open Go
section
variable {Φ:Phi} {cx:Ctx} {M:Nat->Prop} {N:Nm} {env:List C} {s:St} {tm:Array Value} {w:World} {o:Out} {a:Act}
theorem FP{ag:Bool}{us vs:List Value}{v:Value}(h1:isV ag us v)(h2:isV ag vs v):us=vs:=by
 cases ag with
 | true =>
  simp only[isV]at h1 h2
  rw[h1]at h2
  simpa using h2
 | false=>simp only[isV]at h1 h2;rw[h1,h2]
theorem fQ{k:Nat}{r:List Nat}(h:bI (k::r)=true):k∉r/\bI r=true:=by
 simp only[bI]at h
 split at h
 ·cases h
 ·rename_i e
  exact⟨fun hm=>(by rw[memN_iff.2 hm]at e;cases e),h⟩
theorem gN:∀ {l r:List Nat},bI (l++r)=true->bI l=true/\bI r=true/\∀ k∈l,k∉r
 | [],r,h=>⟨rfl,h,by simp⟩
 | k::l,r,h=>by
  obtain⟨h1,h2⟩:=fQ h
  obtain⟨g1,g2,g3⟩:=gN h2
  refine⟨?_,g2,fun j hj=>?_⟩
  ·show bI (k::l)=true
   simp only[bI]
   cases hm:qb k l with
   | true=>exact absurd (List.mem_append_left _ (memN_iff.1 hm)) h1
   | false=>exact g1
  ·rcases List.mem_cons.1 hj with rfl|hj
   ·exact fun hr=>h1 (List.mem_append_right _ hr)
   ·exact g3 j hj
theorem lC{R:Nat->Prop}:∀ {shs:List Sh} {keys:List (Option Nat)} {cs:List C} {us:List Value} {X:List Nat} {env0:List C} (rest:List C) {N:Nm},shR w M shs cs us X->X.Nodup->bI (bz keys)=true ->
  (∀(i k:Nat),keys[i]?=some (some k)->∃ e row u,shs[i]?=some (.arr e row)/\us[i]?=some u/\u=(N k).v) ->
  ∃ N',(∀ k,KI.same (N' k) (N k))/\(∀ k,k∉bz keys->N' k=N k)/\News w M R N' (env0++(cs++rest)) (eX env0.length keys shs) X ∧
   (∀ k o,ar (eX env0.length keys shs) k=some o->k∈bz keys/\∃ e row l,o=.arr e row l)
 | [],keys,cs,us,X,env0,rest,N,h,hn,hd,hk=>by
  have:eX env0.length keys []=[]:=by cases keys with|nil=>rfl|cons x xs=>cases x<;>rfl
  rw[this]
  exact⟨N,fun _=>KI.same.rfl' _,fun _ _=>rfl,News.nil,fun k o hg=>by simp[ar]at hg⟩
 | sh::shs,[],cs,us,X,env0,rest,N,h,hn,hd,hk=>by
  exact⟨N,fun _=>KI.same.rfl' _,fun _ _=>rfl,by simpa [eX] using News.nil,fun k o hg=>by simp[eX,ar]at hg⟩
 | sh::shs,none::keys,cs,us,X,env0,rest,N,h,hn,hd,hk=>by
  rw[shR]at h
  obtain⟨c,cs',v,vs',X1,X2,rfl,rfl,rfl,h1,h2⟩:=h
  obtain⟨N',g1,g2,g3,g4⟩:=lC (R:=R) (keys:=keys) (env0:=env0++[c]) rest (N:=N) h2 (List.nodup_append.1 hn).2.1 hd (fun i k hik=>by
   have:=hk (i+1) k (by simpa using hik)
   simpa using this)
  have e1:(env0++[c]).length=env0.length+1:=by simp
  rw[e1]at g3 g4
  have e2:env0++[c]++(cs'++rest)=env0++(c::cs'++rest):=by simp
  rw[e2]at g3
  have e3:eX env0.length (none::keys) (sh::shs)=eX (env0.length+1) keys shs:=by cases sh<;>rfl
  rw[e3]
  exact⟨N',g1,g2,⟨fun k o hg=>by obtain⟨k1,k2,k3⟩:=g3.obj k o hg;exact⟨k1,k2,fun b hb=>List.mem_append_right _ (k3 b hb)⟩,g3.dist⟩,g4⟩
 | sh::shs,some k::keys,cs,us,X,env0,rest,N,h,hn,hd,hk=>by
  rw[shR]at h
  obtain⟨c,cs',v,vs',X1,X2,rfl,rfl,rfl,h1,h2⟩:=h
  have hn':=List.nodup_append.1 hn
  obtain⟨hd1,hd2⟩:=fQ (show bI (k::bz keys)=true from hd)
  obtain⟨e,row,u,f1,f2,f3⟩:=hk 0 k (by simp)
  simp only[List.getElem?_cons_zero,Option.some.injEq]at f1 f2
  subst f1;subst f2
  let N1:Nm:=fun k'=>if k'=k then {N k with φ:=X1} else N k'
  have hN1k:N1 k={N k with φ:=X1}:=if_pos rfl
  have hN1:∀ k',k'≠k->N1 k'=N k':=fun k' hne=>if_neg hne
  have hs1:∀ k',KI.same (N1 k') (N k'):=fun k'=>by
   by_cases e:k'=k
   ·subst e;rw[hN1k];exact⟨rfl,rfl,rfl,rfl⟩
   ·rw[hN1 k' e];exact KI.same.rfl' _
  obtain⟨N',g1,g2,g3,g4⟩:=lC (R:=R) (env0:=env0++[c]) rest (N:=N1) h2 hn'.2.1 hd2 (fun i k' hik=>by
   obtain⟨e',row',u',f1,f2,f4⟩:=hk (i+1) k' (by simpa using hik)
   exact⟨e',row',u',by simpa using f1,by simpa using f2,f4.trans (hs1 k').1.symm⟩)
  have e1:(env0++[c]).length=env0.length+1:=by simp
  rw[e1]at g3 g4
  have e2:env0++[c]++(cs'++rest)=env0++(c::cs'++rest):=by simp
  rw[e2]at g3
  have hNk:N' k={N k with φ:=X1}:=(g2 k hd1).trans hN1k
  simp only[eX]
  refine⟨N',fun k'=>⟨(g1 k').1.trans (hs1 k').1,(g1 k').2.1.trans (hs1 k').2.1,(g1 k').2.2.1.trans (hs1 k').2.2.1,(g1 k').2.2.2.trans (hs1 k').2.2.2⟩,fun k' hk'=>?_,?_,fun k' o hg=>?_⟩
  ·have hm:k'≠k/\k'∉bz keys:=by simpa [bz] using hk'
   rw[g2 k' hm.2,hN1 k' hm.1]
  ·refine News.append (o1:=[(k,.arr e row (.v env0.length))]) ⟨fun k' o hg=>?_,fun k1 k2 o1 o2 b hg hg' _ _=>?_⟩ g3 hn
   ·rw[aq]at hg
    split at hg
    case isFalse=>simp[ar]at hg
    rename_i e';subst e'
    simp only[Option.some.injEq]at hg;subst hg
    rw[obm,hNk]
    refine⟨?_,hn'.1,fun b hb=>hb⟩
    have:(At.v env0.length).den (env0++(c::cs'++rest))=c:=by
     have:=bD env0 (c::cs'++rest) 0;simpa [At.den,aa] using this
    rw[this]
    show shC w M (.arr e row) (.list c.toList) (N k').v X1
    rw[<-f3]
    rw[shC]at h1 ⊢
    obtain⟨es,vals,X',h1,h2⟩:=h1
    exact⟨es,vals,X',by rw[h1];rfl,h2⟩
   ·rw[aq]at hg hg'
    split at hg
    ·split at hg'
     ·omega
     ·simp[ar]at hg'
    ·simp[ar]at hg
  ·rw[aq]at hg
   split at hg
   ·rename_i e';subst e';simp only[Option.some.injEq]at hg;subst hg;exact⟨List.mem_cons_self,_,_,_,rfl⟩
   ·obtain⟨q1,q2⟩:=g4 k' o hg;exact⟨List.mem_cons_of_mem _ q1,q2⟩
theorem gO{w':World}{M' R:Nat->Prop}{envA:List C}{nx0 nv0:Nat}(hM:∀ b,M b->M' b/\w'.heap[b]?=w.heap[b]?)(hR:∀ b,R b->w'.heap[b]?=w.heap[b]?) :
  ∀ {ps:List Par} {bks:List Bk} {vals:List Value} {cs:List C} {X:List Nat} {env0:List C} (rest:List C) {nx:Nat} {N:Nm},jg w w' M' ps vals cs X->im w M R N envA ps bks vals->X.Nodup->bI (bl bks)=true->nx0<=nx->(∀ k∈bl bks,k<nx0) ->
  (∀ k vs off,Bk.ptr k vs off∈bks->SV.alls (fun k=>Nat.blt k nx0) (fun i=>Nat.blt i nv0) vs=true)->(∀ i,i<nv0->aa (env0++(cs++rest)) i=aa envA i) ->
  ∃ N',(∀ k,k<nx->KI.same (N' k) (N k))/\(∀ k,k<nx->k∉bl bks->N' k=N k)/\News w' M' R N' (env0++(cs++rest)) (cT nx env0.length ps bks).1 X/\ak (gr ps) cs=true
 | [],bks,vals,cs,X,env0,rest,nx,N,h,hb,hn,hd,hnx,hks,hvs,he=>by
  obtain⟨rfl,rfl,rfl⟩:=h
  obtain⟨rfl,_⟩:=hb
  exact⟨N,fun _ _=>KI.same.rfl' _,fun _ _ _=>rfl,by simpa [cT] using News.nil,rfl⟩
 | p::ps,bks,vals,cs,X,env0,rest,nx,N,h,hb,hn,hd,hnx,hks,hvs,he=>by
  obtain⟨v,vs',c1,c2,X1,X2,rfl,rfl,rfl,h1,h2⟩:=h
  obtain⟨bk,bks',v',vs'',rfl,e,hb1,hb2⟩:=hb
  simp only[List.cons.injEq]at e
  obtain⟨rfl,rfl⟩:=e
  have hn':=List.nodup_append.1 hn
  have key:∀ {ks:List CK} {cs:List C} {ls:List CK} {ds:List C},ak ks cs=true->ak ls ds=true->ak (ks++ls) (cs++ds)=true:=by
   intro ks
   induction ks with
   | nil=>intro cs ls ds h1 h2;have:=aJ h1;have:cs=[]:=List.eq_nil_of_length_eq_zero this;subst this;exact h2
   | cons k ks ih =>
    intro cs ls ds h1 h2
    cases cs with
    | nil=>simp[ak]at h1
    | cons c cs =>
     simp only[ak,List.cons_append]at h1 ⊢
     split at h1
     ·exact ih h1 h2
     ·cases h1
  have nothing:bk=.no->c1=[]->X1=[]->gr (p::ps)=gr ps->(cT nx env0.length (p::ps) (.no::bks')).1=(cT nx env0.length ps bks').1 ->
    ∃ N',(∀ k,k<nx->KI.same (N' k) (N k))/\(∀ k,k<nx->k∉bl (bk::bks')->N' k=N k)/\News w' M' R N' (env0++(c1++c2++rest)) (cT nx env0.length (p::ps) (bk::bks')).1 (X1++X2)/\ak (gr (p::ps)) (c1++c2)=true:=by
   rintro rfl rfl rfl e1 e2
   obtain⟨N',g1,g2,g3,g4⟩:=gO hM hR (env0:=env0) rest (nx:=nx) (N:=N) h2 hb2 hn'.2.1 hd hnx hks (fun k vs off hm=>hvs k vs off (List.mem_cons_of_mem _ hm)) (by simpa using he)
   refine⟨N',g1,g2,?_,by rw[e1];simpa using g4⟩
   rw[e2]
   simpa using g3
  cases p with
  | ro ag ks=>simp only[BkOk]at hb1;obtain⟨rfl,rfl⟩:=h1;exact nothing hb1 rfl rfl rfl rfl
  | rptr ks=>simp only[BkOk]at hb1;obtain⟨rfl,rfl⟩:=h1;exact nothing hb1 rfl rfl rfl rfl
  | fn f kss=>simp only[BkOk]at hb1;obtain⟨rfl,rfl⟩:=h1;exact nothing hb1 rfl rfl rfl rfl
  | own ag shs ks back =>
   cases back with
   | false=>simp only[BkOk]at hb1;obtain⟨rfl,rfl⟩:=h1;exact nothing hb1 rfl rfl rfl rfl
   | true =>
    cases bk with
    | no=>exact hb1.elim
    | ptr _ _ _=>exact hb1.elim
    | own keys =>
     obtain⟨hk1,us,hv1,hsh⟩:=h1
     obtain⟨us',hv2,hl1,hl2,hkeys⟩:=hb1
     have:=FP hv1 hv2
     subst this
     obtain⟨d1,d2,d3⟩:=gN (show bI (bz keys++bl bks')=true from hd)
     obtain⟨N1,g1,g2,g3,g4⟩:=lC (R:=R) (env0:=env0) (c2++rest) (N:=N) hsh hn'.1 d1 hkeys
     have hkl:=aJ hk1
     have e1:(env0++c1).length=env0.length+ks.length:=by simp[hkl]
     have e2:env0++c1++(c2++rest)=env0++(c1++c2++rest):=by simp
     have e3:env0++(c1++(c2++rest))=env0++(c1++c2++rest):=by simp
     have hb2':im w M R N1 envA ps bks' vs':=by
      clear h2 nothing hks hvs hd
      have lift:∀ {ps:List Par} {bs:List Bk} {vs:List Value},(∀ k∈bl bs,k∉bz keys)->im w M R N envA ps bs vs->im w M R N1 envA ps bs vs:=by
       intro ps
       induction ps with
       | nil=>intro bs vs _ h;exact h
       | cons p ps ih =>
        intro bs vs hns h
        obtain⟨b,bs',u,us',rfl,rfl,k1,k2⟩:=h
        refine⟨b,bs',u,us',rfl,rfl,?_,ih (fun k hk=>hns k (by cases b<;>simp[bl,hk])) k2⟩
        cases p with
        | ptr shs ks =>
         cases b with
         | ptr k vs off =>
          obtain⟨b0,arr,us0,q1,q2,q3,q4,q5,q6⟩:=k1
          have:N1 k=N k:=g2 k (hns k (by simp[bl]))
          rw[BkOk,this]
          exact⟨b0,arr,us0,q1,q2,q3,q4,svms.mono (K:=fun _=>true) (V:=fun _=>true) (fun _ hb=>⟨hb,rfl⟩) (fun _ _=>rfl) (fun k _=>g1 k) (fun _ _=>rfl) _ _ (SV.alls_true _) q5,q6⟩
         | _=>exact k1
        | own ag shs ks back =>
         cases back with
         | false=>cases b<;>exact k1
         | true =>
          cases b with
          | own keys' =>
           obtain⟨us0,q1,q2,q3,q4⟩:=k1
           exact⟨us0,q1,q2,q3,fun i k hk=>by obtain⟨e,row,u,r1,r2,r3⟩:=q4 i k hk;exact⟨e,row,u,r1,r2,r3.trans (g1 k).1.symm⟩⟩
          | _=>exact k1
        | _=>cases b<;>exact k1
      exact lift (fun k hk hm=>d3 k hm hk) hb2
     obtain⟨N2,j1,j2,j3,j4⟩:=gO hM hR (env0:=env0++c1) rest (nx:=nx) (N:=N1) h2 hb2' hn'.2.1 d2 hnx (fun k hk=>hks k (List.mem_append_right _ hk)) (fun k vs off hm=>hvs k vs off (List.mem_cons_of_mem _ hm)) (by rw[e2];exact he)
     rw[e1,e2]at j3
     rw[e3]at g3
     refine⟨N2,fun k hk=>?_,fun k hk hkn=>?_,?_,?_⟩
     ·have q1:=j1 k hk
      have q2:=g1 k
      exact⟨q1.1.trans q2.1,q1.2.1.trans q2.2.1,q1.2.2.1.trans q2.2.2.1,q1.2.2.2.trans q2.2.2.2⟩
     ·have hkn':k∉bz keys/\k∉bl bks':=by simpa [bl] using hkn
      rw[j2 k hk hkn'.2,g2 k hkn'.1]
     ·simp only[cT]
      have n1:News w' M' R N2 (env0++(c1++c2++rest)) (eX env0.length keys shs) X1:=g3.lift (fun k o hg=>(g4 k o hg).2) fun k o hg=>by
       have hm:=(g4 k o hg).1
       exact j2 k (Nat.lt_of_lt_of_le (hks k (List.mem_append_left _ hm)) hnx) (d3 k hm)
      exact n1.append j3 hn
     ·exact key hk1 j4
  | ptr shs ks =>
   cases bk with
   | no=>exact hb1.elim
   | own _=>exact hb1.elim
   | ptr k vs off =>
    obtain⟨hk1,b,pre,us,us',post,arr,arr',ty,X',hv1,hh1,ha1,hul,hh2,ha2,hsh,rfl⟩:=h1
    obtain⟨b2,arr2,us2,q1,q2,q3,q4,q5,q6,q7⟩:=hb1
    have hvv:=hv1.symm.trans q7
    simp only[Value.pointer.injEq,Option.some.injEq,Addr.mk.injEq,and_true]at hvv
    obtain⟨rfl,hpl⟩:=hvv
    rw[hh1]at q3
    simp only[Option.some.injEq,Obj.cells.injEq,and_true]at q3
    obtain⟨rfl,rfl⟩:=q3
    have hvl:=bb q5
    have ha1':=ha1.symm.trans q4
    have hpre:pre=(N k).pre++us2.take off:=by
     have:=congrArg (List.take pre.length) ha1'
     rw[List.append_assoc,List.take_left,hpl,List.append_assoc,List.take_append,List.take_of_length_le (Nat.le_add_right _ _),Nat.add_sub_cancel_left,List.take_append_of_le_length (by omega)]at this
     exact this
    have hpost:post=us2.drop (off+shs.length)++(N k).post:=by
     have:=congrArg (List.drop (pre.length+us.length)) ha1'
     rw[<-List.length_append,List.drop_left,List.length_append,hpl,hul,List.append_assoc,Nat.add_assoc,<-List.drop_drop,List.drop_left,List.drop_append_of_le_length (by omega)]at this
     exact this
    have hkk:=fQ (show bI (k::bl bks')=true from hd)
    have hklt:k<nx0:=hks k (by simp[bl])
    have hX':=List.nodup_cons.1 (show (b::X').Nodup from hn'.1)
    obtain⟨N1,g⟩:=jc (R:=R) (env0:=env0) (c2++rest) (nx:=nx) (N:=N) hk1 hsh hX'.2
    have hkl:=aJ hk1
    have e1:(env0++c1).length=env0.length+ks.length:=by simp[hkl]
    have e2:env0++c1++(c2++rest)=env0++(c1++c2++rest):=by simp
    have e3:env0++(c1++(c2++rest))=env0++(c1++c2++rest):=by simp
    rw[e3]at g
    have hge:=eW (t:=true) (shs:=shs) (ks:=ks) (nx:=nx) (nv:=env0.length)
    have hall:=fun n=>gV (t:=true) (V:=fun _=>true) (fun _=>rfl) (shs:=shs) (ks:=ks) (nx:=nx) (nv:=env0.length) (n:=n)
    have harr:=fun k ob=>sU (t:=true) (shs:=shs) (ks:=ks) (nx:=nx) (nv:=env0.length) (k:=k) (ob:=ob)
    simp only[cT]
    generalize mkR true nx env0.length shs ks=q at g hge hall harr ⊢
    obtain⟨svs,o1,nx1⟩:=q
    dsimp only at g hge hall harr ⊢
    have hb2':im w M R N1 envA ps bks' vs':=by
     clear h2 nothing hd
     have hks':∀ k∈bl bks',k<nx:=fun k hk=>Nat.lt_of_lt_of_le (hks k (by simp[bl,hk])) hnx
     have hvs':∀ k vs off,Bk.ptr k vs off∈bks'->SV.alls (fun k=>Nat.blt k nx0) (fun i=>Nat.blt i nv0) vs=true:=fun k vs off hm=>hvs k vs off (List.mem_cons_of_mem _ hm)
     clear hks hvs
     have lift:∀ {ps:List Par} {bs:List Bk} {vs:List Value},(∀ k∈bl bs,k<nx)->(∀ k vs off,Bk.ptr k vs off∈bs->SV.alls (fun k=>Nat.blt k nx0) (fun i=>Nat.blt i nv0) vs=true)->im w M R N envA ps bs vs->im w M R N1 envA ps bs vs:=by
      intro ps
      induction ps with
      | nil=>intro bs vs _ _ h;exact h
      | cons p ps ih =>
       intro bs vs hns hvs h
       obtain⟨b,bs',u,us',rfl,rfl,k1,k2⟩:=h
       refine⟨b,bs',u,us',rfl,rfl,?_,ih (fun k hk=>hns k (by cases b<;>simp[bl,hk])) (fun k vs off hm=>hvs k vs off (List.mem_cons_of_mem _ hm)) k2⟩
       cases p with
       | ptr shs ks =>
        cases b with
        | ptr k vs off =>
         obtain⟨b0,arr,us0,q1,q2,q3,q4,q5,q6⟩:=k1
         have:N1 k=N k:=g.old k (hns k (by simp[bl]))
         rw[BkOk,this]
         exact⟨b0,arr,us0,q1,q2,q3,q4,svms.mono (K:=fun k=>Nat.blt k nx0) (V:=fun i=>Nat.blt i nv0) (fun _ hb=>⟨hb,rfl⟩) (fun _ _=>rfl) (fun k hk=>KI.same.of (g.old k (Nat.lt_of_lt_of_le (ap hk) hnx))) (fun _ _=>rfl) _ _ (hvs k vs off List.mem_cons_self) q5,q6⟩
        | _=>exact k1
       | own ag shs ks back =>
        cases back with
        | false=>cases b<;>exact k1
        | true =>
         cases b with
         | own keys' =>
          obtain⟨us0,q1,q2,q3,q4⟩:=k1
          refine⟨us0,q1,q2,q3,fun i k hk=>?_⟩
          obtain⟨e,row,u,r1,r2,r3⟩:=q4 i k hk
          have hm:k∈bz keys':=by
           clear q1 q2 q3 q4 r1 r2 r3 k2 ih hns hvs
           induction keys' generalizing i with
           | nil=>simp at hk
           | cons x xs ihx =>
            cases i with
            | zero=>simp at hk;subst hk;simp[bz]
            | succ i =>
             have:=ihx i (by simpa using hk)
             cases x<;>simp[bz,this]
          exact⟨e,row,u,r1,r2,by rw[g.old k (hns k (by simp[bl,hm]))];exact r3⟩
         | _=>exact k1
       | _=>cases b<;>exact k1
     exact lift hks' hvs' hb2
    obtain⟨N2,j1,j2,j3,j4⟩:=gO hM hR (env0:=env0++c1) rest (nx:=nx1) (N:=N1) h2 hb2' hn'.2.1 hkk.2 (Nat.le_trans hnx hge) (fun k' hk'=>hks k' (by simp[bl,hk'])) (fun k vs off hm=>hvs k vs off (List.mem_cons_of_mem _ hm)) (by rw[e2];exact he)
    rw[e1,e2]at j3
    have hsame:∀ k',k'<nx->KI.same (N2 k') (N k'):=fun k' hk'=>by
     have:=j1 k' (by omega)
     rw[g.old k' hk']at this;exact this
    have hN2k:N2 k=N k:=by rw[j2 k (by omega) hkk.1,g.old k (by omega)]
    generalize cT nx1 (env0.length+ks.length) ps bks'=q2' at j3 ⊢
    obtain⟨o2,nx2⟩:=q2'
    dsimp only at j3 ⊢
    refine⟨N2,hsame,fun k' hk' hkn=>?_,?_,key hk1 j4⟩
    ·have hkn':k'≠k/\k'∉bl bks':=by simpa [bl] using hkn
     rw[j2 k' (by omega) hkn'.2,g.old k' hk']
    ·have n1:News w' M' R N2 (env0++(c1++c2++rest)) o1 X':=(News.lift ⟨g.obj,g.dist⟩ harr fun k' o hg=>j2 k' (g.key k' o hg).2 fun hm=>by
      have:=hks k' (by simp[bl,hm]);have:=(g.key k' o hg).1;omega)
     have hsv:svms w' M' R N2 (env0++(c1++c2++rest)) svs us':=svms.mono (K:=fun k=>Nat.blt k nx1) (V:=fun _=>true) (fun _ hb=>⟨hb,rfl⟩) (fun _ _=>rfl) (fun k hk'=>j1 k (ap hk')) (fun _ _=>rfl) _ _ (hall nx1 (Nat.le_refl _)) g.svs
     have hold:svms w' M' R N2 (env0++(c1++c2++rest)) vs us2:=svms.mono (K:=fun k=>Nat.blt k nx0) (V:=fun i=>Nat.blt i nv0) hM hR (fun k hk=>hsame k (Nat.lt_of_lt_of_le (ap hk) hnx)) (fun i hi=>he i (ap hi)) _ _ (hvs k vs off List.mem_cons_self) q5
     have hus':=bb hsv
     have hsvl:svs.length=shs.length:=by rw[<-hus'];exact(cD hsh).2
     have n2:News w' M' R N2 (env0++(c1++c2++rest)) [(k,.cells (vs.take off++svs++vs.drop (off+shs.length)))] [b]:=by
      refine⟨fun k' o hg=>?_,fun k1 k2 o1 o2 b hg hg' _ _=>?_⟩
      ·rw[aq]at hg
       split at hg
       case isFalse=>simp[ar]at hg
       rename_i e';subst e'
       simp only[Option.some.injEq]at hg;subst hg
       rw[obm,hN2k]
       refine⟨⟨b,arr',us2.take off++us'++us2.drop (off+shs.length),q1,q2,hh2,?_,bS (bS (dN off hold) hsv) (dM _ hold)⟩,by rw[q2];simp,by rw[q2];simp⟩
       rw[ha2,hpre,hpost];simp
      ·rw[aq]at hg hg'
       split at hg
       ·split at hg'
        ·omega
        ·simp[ar]at hg'
       ·simp[ar]at hg
     have n3:=(n2.append n1 hn'.1).append j3 hn
     simpa using n3
end
end Dx
namespace Dx
open Go
section
variable {Φ:Phi} {cx:Ctx} {M:Nat->Prop} {N:Nm} {env:List C} {s:St} {tm:Array Value} {w:World} {o:Out} {a:Act} {P:Program} {op:Oper}
theorem BF{P:Program}{f:FuncId}{fn:Func}(hf:P.funcs[f]?=some fn)(hn:(fn.name== "runtime.NumGoroutine")=false)(hb:fn.body.isNone=false)(args:Array Value)(w:World):(callFunc f args).run P w=.ok (.enter f args) w:=by
 have h1:¬ fn.name= "runtime.NumGoroutine":=by simpa using hn
 have h2:¬ fn.body=none:=fun h=>by simp[h]at hb
 simp[callFunc,hf,h1,h2]
theorem AE{R:Nat->Prop}{xs:List SV}{vs:List Value}(h:svms w M R N env xs vs):svm w M R N env (retS xs) (vP vs):=by
 have other:∀(xs:List SV) (vs:List Value),svms w M R N env xs vs->svm w M R N env (.tuple xs) (.tuple vs.toArray):=fun xs vs h=>by
  rw[svm];exact⟨_,rfl,by simpa using h⟩
 match xs,vs,h with
 | [],vs,h=>rw[svms]at h;subst h;exact other [] [] (by simp[svms])
 | [x],vs,h =>
  rw[svms]at h
  obtain⟨v,vs',rfl,h1,h2⟩:=h
  rw[svms]at h2;subst h2
  exact h1
 | x::y::xs,vs,h =>
  have h0:=h
  rw[svms]at h
  obtain⟨v,vs',rfl,h1,h2⟩:=h
  rw[svms]at h2
  obtain⟨u,us',rfl,h3,h4⟩:=h2
  exact other _ _ h0
theorem CW{hp:List (Nat×SObj)}{k:Nat}(h:ur hp k=true):ar hp k=none:=by
 unfold ur at h
 split at h
 ·assumption
 ·cases h
theorem vS{s:St}:∀ {bks:List Bk},kS s bks=true->∀ k vs off,Bk.ptr k vs off∈bks->SV.alls (fun k=>Nat.blt k s.nx) (fun i=>Nat.blt i s.nv) vs=true
 | [],_,k,vs,off,hm=>by simp at hm
 | b::r,h,k,vs,off,hm=>by
  rcases List.mem_cons.1 hm with rfl|hm
  ·simp only[kS,Bool.and_eq_true]at h;exact h.1
  ·refine vS ?_ k vs off hm
   cases b<;>simp only[kS,Bool.and_eq_true]at h<;>first|exact h|exact h.2
theorem vT{rd:List Nat}{hp':List (Nat×SObj)}:∀ {hp:List (Nat×SObj)},BO rd hp' hp=true->∀ {k:Nat} {o:SObj},ar hp k=some o->ar hp' k=none->ov rd k=true
 | [],_,k,o,hg,_=>by simp[ar]at hg
 | (k',o')::r,h,k,o,hg,hno=>by
  simp only[BO,Bool.and_eq_true]at h
  rw[aq]at hg
  split at hg
  ·rename_i e;subst e
   have:ur hp' k=true:=by unfold ur;rw[hno]
   simpa [this] using h.1
  ·exact vT h.2 hg hno
theorem BG{c:Call}(ho:op.op=.call c){f:Nat}{xs:List SV}{con:Con}{fi:Nat}{rd:List Nat}{K:St->Tree}(hH:Has P f con (Φ fi))(hf:dv s.sl c=some (f,xs))
  (hn:den Φ (call s c fi con rd op.dst K) env=some o) (hs:Sat cx M N env s a.tmps w) (Q:Exit->Act->World->Prop):op.wp P a w (gh Φ K o cx rd M N s w a.defers) Q:=by
 unfold call at hn
 split at hn
 case h_2=>cases hn
 rename_i s1 css bks hna hp1
 split at hn
 case h_2=>cases hn
 rename_i cells hp2
 split at hn
 case h_2=>cases hn
 rename_i hok1 hbk hgone
 obtain⟨all,hv,hall⟩:=fK hs hf
 have hal:all.length=con.args.length:=by
  have h1:Nat.beq xs.length con.args.length=true:=by simpa [BP,hf] using hna
  rw[bb hall];exact br h1
 obtain⟨M1,X,g1,g2,g3⟩:=oE (Y:=[]) hv con.args hs (by omega) hp1 (fun b hb=>by simp at hb) (by simp)
 rw[List.drop_zero]at g2 g3
 have hfree:oq cx M1 N s1.hp X:=fun b hb=>g1.free b (List.mem_append_left _ hb)
 have hXn:X.Nodup:=(List.nodup_append.1 g1.nodup).1
 have hRlt:∀ b,cx.R b->b<w.heap.size:=fun b hb=>Nat.lt_of_lt_of_le (hs.rlt b hb) hs.size
 have hpar:=g3 M1 (fun b=>b<w.heap.size/\b∉X) cells (fun _ hb=>hb) g1.sat hp2 (fun b hb=>⟨g1.sat.mlt b hb,fun hm=>(hfree b hm).1 hb⟩) (fun b hb=>⟨hRlt b hb,fun hm=>(hfree b hm).2.1 hb⟩) (fun k o b hg hb=>⟨g1.sat.blt k o b hg hb,fun hm=>(hfree b hm).2.2 k o hg hb⟩)
 generalize hq1:bX s1.nx s1.nv con.res=q1 at hn
 obtain⟨rxs,o1,nx1,nv1⟩:=q1
 dsimp only at hn
 generalize hq2:cT nx1 nv1 con.args bks=q2 at hn
 obtain⟨o2,nx2⟩:=q2
 dsimp only at hn
 rw[den]at hn
 obtain⟨rs,hrs,hks,hn⟩:=ot hn
 have hcalls:=hH.walk w M1 (aK env cells) all X (fun b hb=>⟨g1.sat.mlt b hb,fun hm=>(hfree b hm).1 hb⟩) hpar hXn g1.lt rs hrs
 have hrun:(execOp a.eval op).run P w=.ok (.enter f all.toArray) w:=by
  obtain⟨x,caps,e1,e2,rfl⟩:=hv
  have e3:#[]++c.args.map a.eval++caps=((c.args.toList.map a.eval)++caps.toList).toArray:=by simp
  have hen:=hH.enters (#[]++c.args.map a.eval++caps) w
  rw[<-e3]
  simp only[execOp,ho,resolve,e1,Deferred.ofValue,e2,pure_bind,invoke]
  exact hen
 unfold Oper.wp
 rw[hrun,Oper.upon_enter]
 refine Calls.mono hcalls ?_
 rintro e w' ⟨M',rvs,r1,r2,X1,X2,rfl,rfl,f1,f2,f3,f4,f5,f6,f7,f8,f9,f10,f11⟩
 have hlen:(r1++r2).length=(jN con.res++gr con.args).length:=aJ hks
 have hMM:∀ b,M1 b->M' b/\w'.heap[b]?=w.heap[b]?:=fun b hb=>⟨f6 b hb,f5 b (g1.sat.mlt b hb) fun hm=>(hfree b hm).1 hb⟩
 have hRR:∀ b,cx.R b->w'.heap[b]?=w.heap[b]?:=fun b hb=>f5 b (hRlt b hb) fun hm=>(hfree b hm).2.1 hb
 have hXR:∀ b∈X,¬ cx.R b:=fun b hb=>(hfree b hb).2.1
 have hM'R:∀ b,M' b->M1 b\/¬ cx.R b:=fun b hb=>by
  rcases (f7 b hb).2 with h|h|h
  ·exact .inl h
  ·exact .inr fun hr=>by have:=hRlt b hr;omega
  ·exact .inr (hXR b h)
 have hX12:∀ b∈X1++X2,∀ k o,ar s1.hp k=some o->b∉(N k).φ:=fun b hb k o hg hb'=>by
  rcases (f11 b hb).2.2 with h|h
  ·have:=g1.sat.blt k o b hg hb';omega
  ·exact(hfree b h).2.2 k o hg hb'
 have hs1:Sat cx M' N env s1 a.tmps w':=by
  refine g1.sat.step (K:=fun _=>true) (V:=fun _=>true) (hp:=s1.hp) (nx:=s1.nx) (nv:=s1.nv) f1 f2 f3 f4 hMM hRR (fun b hb=>(f7 b hb).1) hM'R (fun _ _=>KI.same.rfl' _) (fun _ _=>rfl) (SV.alls_true _) (fun _ _=>rfl) g1.sat.nv ?_ (fun k o b hg hb=>Nat.lt_of_lt_of_le (g1.sat.blt k o b hg hb) f4) g1.sat.nodup ?_ g1.sat.dist
  ·intro k o' hg
   exact obm.mono (K:=fun _=>true) (V:=fun _=>true) hMM hRR (fun _ _=>KI.same.rfl' _) (fun _ _=>rfl) rfl (SObj.all_true _) (fun b hb=>f5 b (g1.sat.blt k o' b hg hb) fun hm=>(hfree b hm).2.2 k o' hg hb) (g1.sat.objs k o' hg)
  ·intro k o' b hg hb
   refine⟨fun hm=>?_,(g1.sat.apart k o' b hg hb).2⟩
   rcases (f7 b hm).2 with h|h|h
   ·exact(g1.sat.apart k o' b hg hb).1 h
   ·have:=g1.sat.blt k o' b hg hb;omega
   ·exact(hfree b h).2.2 k o' hg hb
 have hs2:=hs1.more hok1 (r1++r2)
 have hnv:s1.nv=env.length:=g1.sat.nv
 have hnd:=List.nodup_append.1 f10
 obtain⟨N1,a1,a2,a3,a4,a5,a6,a7⟩:=rU (R:=cx.R) (env0:=env) (r2++[]) (nx:=s1.nx) (N:=N) f8 hnd.1
 rw[<-hnv,hq1]at a2 a3 a4 a5 a7
 dsimp only at a2 a3 a4 a5 a7
 have hnv1:nv1=(env++r1).length:=by
  have:=rT (rs:=con.res) (nx:=s1.nx) (nv:=s1.nv)
  rw[hq1]at this
  dsimp only at this
  rw[this,List.length_append,<-hnv,aJ a6]
 have hnx1:s1.nx<=nx1:=by
  have:=lB (rs:=con.res) (nx:=s1.nx) (nv:=s1.nv)
  rw[hq1]at this;exact this
 have hbk':bI (bl bks)=true/\(∀ k∈bl bks,ar s1.hp k=none/\k<s1.nx)/\kS s1 bks=true:=by
  unfold bkB at hbk
  simp only[Bool.and_eq_true,List.all_eq_true]at hbk
  exact⟨hbk.1,fun k hk=>⟨CW (hbk.2.1 k hk).1,ap (hbk.2.1 k hk).2⟩,hbk.2.2⟩
 have g2':im w M1 cx.R N1 env con.args bks all:=by
  have lift:∀ {ps:List Par} {bs:List Bk} {vs:List Value},(∀ k∈bl bs,k<s1.nx)->kS s1 bs=true->im w M1 cx.R N env ps bs vs->im w M1 cx.R N1 env ps bs vs:=by
   intro ps
   induction ps with
   | nil=>intro bs vs _ _ h;exact h
   | cons p ps ih =>
    intro bs vs hns hold h
    obtain⟨b,bs',u,us',rfl,rfl,k1,k2⟩:=h
    refine⟨b,bs',u,us',rfl,rfl,?_,ih (fun k hk=>hns k (by cases b<;>simp[bl,hk])) (by cases b<;>simp only[kS,Bool.and_eq_true]at hold<;>first|exact hold|exact hold.2) k2⟩
    cases p with
    | ptr shs ks =>
     cases b with
     | ptr k vs off =>
      obtain⟨b0,arr,us0,q1,q2,q3,q4,q5,q6⟩:=k1
      have:N1 k=N k:=a1 k (hns k (by simp[bl]))
      rw[BkOk,this]
      simp only[kS,Bool.and_eq_true]at hold
      exact⟨b0,arr,us0,q1,q2,q3,q4,svms.mono (K:=fun k=>Nat.blt k s1.nx) (V:=fun i=>Nat.blt i s1.nv) (fun _ hb=>⟨hb,rfl⟩) (fun _ _=>rfl) (fun k hk=>KI.same.of (a1 k (ap hk))) (fun _ _=>rfl) _ _ hold.1 q5,q6⟩
     | _=>exact k1
    | own ag shs ks back =>
     cases back with
     | false=>cases b<;>exact k1
     | true =>
      cases b with
      | own keys' =>
       obtain⟨us0,q1,q2,q3,q4⟩:=k1
       refine⟨us0,q1,q2,q3,fun i k hk=>?_⟩
       obtain⟨e,row,u,r1,r2,r3⟩:=q4 i k hk
       have hm:k∈bz keys':=by
        clear q1 q2 q3 q4 r1 r2 r3 k2 ih hns hold
        induction keys' generalizing i with
        | nil=>simp at hk
        | cons x xs ihx =>
         cases i with
         | zero=>simp at hk;subst hk;simp[bz]
         | succ i =>
          have:=ihx i (by simpa using hk)
          cases x<;>simp[bz,this]
       exact⟨e,row,u,r1,r2,by rw[a1 k (hns k (by simp[bl,hm]))];exact r3⟩
      | _=>exact k1
    | _=>cases b<;>exact k1
  exact lift (fun k hk=>(hbk'.2.1 k hk).2) hbk'.2.2 g2
 obtain⟨N2,b1,b2,b3,b4⟩:=gO (nx0:=s1.nx) (nv0:=s1.nv) hMM hRR (env0:=env++r1) [] (nx:=nx1) (N:=N1) f9 g2' hnd.2.1 hbk'.1 hnx1 (fun k hk=>(hbk'.2.1 k hk).2) (vS hbk'.2.2) (fun i hi=>by
  rw[List.append_nil,List.append_assoc];exact cp (by omega))
 rw[<-hnv1,hq2]at b3
 have eA:env++(r1++(r2++[]))=env++(r1++r2):=by simp
 have eB:env++r1++(r2++[])=env++(r1++r2):=by simp
 rw[eA]at a2 a3
 rw[eB]at b3
 have hsame:∀ k,k<s1.nx->KI.same (N2 k) (N k):=fun k hk=>by
  have:=b1 k (by omega)
  rw[a1 k hk]at this;exact this
 have n1:News w' M' cx.R N2 (env++(r1++r2)) o1 X1:=a2.lift3 a7 (fun k hk=>b1 k hk) fun k o hg=>b2 k (a4 k o hg).2 fun hm=>by
  have:=(hbk'.2.1 k hm).2;have:=(a4 k o hg).1;omega
 have n2:=n1.append b3 f10
 have hjoin:=hs2.joinO (N':=N2) (objs:=o1++o2) (nx:=nx2) (X:=X1++X2) (St.ok_more hok1 _) (fun k hk=>hsame k (ap hk)) (fun k o hg=>?_) n2.obj (fun b hb=>?_) n2.dist
 ·refine⟨_,env++(r1++r2),M',N2,hn,?_,(aX a op.dst (vP rvs)).2,fun b hb=>(hMM b (g1.sub b hb)).2,fun k hk vs hg=>?_⟩
  ·rw[(aX a op.dst (vP rvs)).1]
   rw[<-hlen]
   refine hjoin.put op.dst (AE ?_)
   exact svms.mono (K:=fun k=>Nat.blt k nx1) (V:=fun _=>true) (fun _ hb=>⟨hb,rfl⟩) (fun _ _=>rfl) (fun k hk=>b1 k (ap hk)) (fun _ _=>rfl) _ _ a5 a3
  ·have hthere:∃ o',ar s1.hp k=some o':=by
    cases hq:ar s1.hp k with
    | some o'=>exact⟨o',rfl⟩
    | none=>exact absurd hk (sP (vT hgone hg hq))
   obtain⟨o',ho'⟩:=hthere
   refine⟨hsame k (ap (aD (St.ok_parts hok1).2.1 ho').1),fun b hb=>f5 b (hs.blt k _ b hg hb) fun hm=>?_⟩
   exact(hfree b hm).2.2 k o' ho' hb
 ·have hlt:=(aD (St.ok_parts hok1).2.1 hg).1
  have hk:=ap hlt
  rw[b2 k (by omega) fun hm=>by have:=(hbk'.2.1 k hm).1;rw[this]at hg;cases hg]
  exact a1 k hk
 ·have:=f11 b hb
  refine⟨this.1,fun hr=>?_,this.2.1,hX12 b hb⟩
  rcases this.2.2 with h|h
  ·have:=hRlt b hr;omega
  ·exact hXR b h hr
def Er:List SV->Option (List Cell)
 | []=>some []
 | x::xs=>match (match x with
   | .int k a=>some (ci k a)
   | .bool a=>some (cb a)
   | .str a=>some (Dx.cs a)
   | .view _ a=>some (cl a)
   | .nil=>some (cl .e)
   | .blob=>some ⟨.hole,.e⟩
   | _=>none:Option Cell),Er xs with
  | some c,some cs=>some (c::cs)
  | _,_=>none
def qU(s:St)(c:Call)(i:Nat):List Par->Option (List Cell)
 | []=>some []
 | .ro a ks::ps=>match ei a (mB s.sl c i)with
  | some vs=>match Er vs with
   | some cs=>match cg ks cs,qU s c (i+1) ps with
    | true,some r=>some (cs++r)
    | _,_=>none
   | none=>none
  | none=>none
 | .own a shs ks false::ps=>match ei a (mB s.sl c i),bL shs && Nat.beq shs.length ks.length with
  | some vs,true=>match Er vs with
   | some cs=>match cg ks cs,qU s c (i+1) ps with
    | true,some r=>some (cs++r)
    | _,_=>none
   | none=>none
  | _,_=>none
 | _=>none
def ut:List Ret->Bool
 | []=>true
 | r::rs=>match bL r.shs && !r.ptr with
  | true=>ut rs
  | false=>false
def iJ(nv:Nat):List Ret->List SV
 | []=>[]
 | r::rs=>kN r.agg (cR false r.ks nv)::iJ (nv+r.ks.length) rs
def EU(s:St)(c:Call)(fi:Nat)(con:Con)(d:Option Tmp)(K:St->Tree):Tree :=
 match BP s c con.args.length && (ut con.res && s.ok),qU s c 0 con.args with
 | true,some cells=>.call fi cells (jN con.res) (K (ct {s with nv:=s.nv+(jN con.res).length} d (retS (iJ s.nv con.res))))
 | _,_=>.fail
theorem sW{R:Nat->Prop}:∀ {xs:List SV} {cs:List Cell} {vs:List Value},Er xs=some cs->svms w M R N env xs vs->repRow w (fun b=>M b\/R b) (aK env cs) vs/\cs.length=xs.length
 | [],cs,vs,hc,hx=>by
  simp only[Er,Option.some.injEq]at hc;subst hc
  exact⟨cZ _,rfl⟩
 | x::xs,cs,vs,hc,hx=>by
  rw[svms]at hx
  obtain⟨v,vs',rfl,h1,h2⟩:=hx
  simp only[Er]at hc
  split at hc
  case h_2=>cases hc
  rename_i c cs' hc1 hc2
  simp only[Option.some.injEq]at hc;subst hc
  obtain⟨h3,h4⟩:=sW hc2 h2
  refine⟨?_,by simp[h4]⟩
  simp only[aK]
  rw[repRow]
  refine⟨v,vs',rfl,?_,h3⟩
  cases x<;>simp only[Option.some.injEq,reduceCtorEq]at hc1<;>subst hc1<;>rw[svm]at h1
  ·simp only[Cell.den,ci];rw[repC];exact h1
  ·simp only[Cell.den,cb];rw[repC];exact h1
  ·simp only[Cell.den,Dx.cs];rw[repC];exact h1
  ·rename_i t l
   exact repC.mono (fun b hb=>⟨by cases t with
    | true=>exact .inl hb
    | false=>exact hb,rfl⟩) _ _ h1
  ·subst h1;simp only[Cell.den,cl,At.den,C.toList];rw[repC];exact⟨none,0,rfl,by simp,by simp,.inl rfl⟩
  ·simp only[Cell.den];rw[repC];exact h1
theorem pg{c:Call}{f:Nat}{all:List Value}(hv:CallVals a c f all)(hs:Sat cx M N env s a.tmps w){Z:Nat->Prop}(hZ:∀ b,M b\/cx.R b->Z b):∀(ps:List Par) {i:Nat} {cs:List Cell},all.length=i+ps.length->qU s c i ps=some cs->oD w (fun b=>M b\/cx.R b) Z ps (aK env cs) (all.drop i) []
 | [],i,cs,hl,hc=>by
  simp only[qU,Option.some.injEq]at hc;subst hc
  rw[List.drop_of_length_le (by simp at hl;omega)]
  exact⟨rfl,rfl,rfl⟩
 | p::ps,i,cs,hl,hc=>by
  have hlt:i<all.length:=by simp at hl;omega
  have hdrop:all.drop i=all[i]::all.drop (i+1):=List.drop_eq_getElem_cons hlt
  have harg:=gq hs hv (i:=i) (List.getElem?_eq_getElem hlt)
  rw[hdrop]
  cases p with
  | ro ag ks =>
   simp only[qU]at hc
   split at hc
   case h_2=>cases hc
   rename_i vs hvs
   split at hc
   case h_2=>cases hc
   rename_i c1 h1
   split at hc
   case h_2=>cases hc
   rename_i r hk hr
   simp only[Option.some.injEq]at hc;subst hc
   obtain⟨us,g1,g2⟩:=dT hvs harg
   obtain⟨g3,g4⟩:=sW h1 g1
   have ih:=pg hv hs hZ ps (i:=i+1) (by simp at hl;omega) hr
   rw[bj]
   refine⟨_,_,_,_,[],[],rfl,rfl,rfl,⟨rfl,bp hk,us,?_,repRow.mono (fun b hb=>⟨hZ b hb,rfl⟩) _ _ g3,g2⟩,ih⟩
   rw[bb g1,<-g4,jK hk]
  | own ag shs ks back =>
   cases back with
   | true=>cases hc
   | false =>
    simp only[qU]at hc
    split at hc
    case h_2=>cases hc
    rename_i vs hvs hav
    split at hc
    case h_2=>cases hc
    rename_i c1 h1
    split at hc
    case h_2=>cases hc
    rename_i r hk hr
    simp only[Option.some.injEq]at hc;subst hc
    simp only[Bool.and_eq_true]at hav
    obtain⟨us,g1,g2⟩:=dT hvs harg
    obtain⟨g3,g4⟩:=sW h1 g1
    have ih:=pg hv hs hZ ps (i:=i+1) (by simp at hl;omega) hr
    have e1:=br hav.2
    have e2:=jK hk
    have e3:=bb g1
    rw[bj]
    exact⟨_,_,_,_,[],[],rfl,rfl,rfl,⟨bp hk,us,fI hav.1 g3 (by rw[cU];omega) (by omega),g2⟩,ih⟩
  | ptr shs ks=>cases hc
  | rptr ks=>cases hc
  | fn g kss=>cases hc
theorem l6{M' R:Nat->Prop}(hM:∀ b,M' b->MR M R false b):∀ {rs:List Ret} {cs:List C} {vs:List Value} {X:List Nat} {env0:List C} (rest:List C),ut rs=true->jJ w M' rs cs vs X->svms w M R N (env0++(cs++rest)) (iJ env0.length rs) vs
 | [],cs,vs,X,env0,rest,_,h=>by
  obtain⟨rfl,rfl,rfl⟩:=h
  simp[iJ,svms]
 | r::rs,cs,vs,X,env0,rest,hl,h=>by
  obtain⟨c1,c2,v,vs',X1,X2,rfl,rfl,rfl,hk,hone,hr⟩:=h
  simp only[ut]at hl
  split at hl
  case h_2=>cases hl
  rename_i h0
  simp only[Bool.and_eq_true,Bool.not_eq_true']at h0
  unfold ij at hone
  rw[h0.2]at hone
  obtain⟨us,g1,g2⟩:=hone
  have hkl:=aJ hk
  have g3:=iI h0.1 g1
  have g4:=cD g1
  have ih:=l6 hM (env0:=env0++c1) rest hl hr
  have e1:(env0++c1).length=env0.length+r.ks.length:=by simp[hkl]
  have e2:env0++c1++(c2++rest)=env0++(c1++c2++rest):=by simp
  rw[e1,e2]at ih
  simp only[iJ]
  rw[svms]
  refine⟨v,vs',rfl,iW ?_ g2,ih⟩
  have:=cE (w:=w) (M:=M) (R:=R) (t:=false) (N:=N) (env:=env0) (c2++rest) hk (repRow.mono (fun b hb=>⟨hM b hb,rfl⟩) _ _ g3)
  rw[List.take_of_length_le (by omega)]at this
  rw[List.append_assoc];exact this
theorem l7{M':Nat->Prop}:∀ {rs:List Ret} {cs:List C} {vs:List Value} {X:List Nat},jJ w M' rs cs vs X->ak (jN rs) cs=true
 | [],cs,vs,X,h=>by obtain⟨rfl,rfl,rfl⟩:=h;rfl
 | r::rs,cs,vs,X,h=>by
  obtain⟨c1,c2,v,vs',X1,X2,rfl,rfl,rfl,hk,hone,hr⟩:=h
  exact jh hk (l7 hr)
theorem yG{c:Call}(ho:op.op=.call c){f:Nat}{xs:List SV}{con:Con}{fi:Nat}{rd:List Nat}{K:St->Tree}(hH:Has P f con (Φ fi))(hf:dv s.sl c=some (f,xs))
  (hn:den Φ (EU s c fi con op.dst K) env=some o) (hs:Sat cx M N env s a.tmps w) (Q:Exit->Act->World->Prop):op.wp P a w (gh Φ K o cx rd M N s w a.defers) Q:=by
 unfold EU at hn
 split at hn
 case h_2=>cases hn
 rename_i cells hchk hp
 simp only[Bool.and_eq_true]at hchk
 obtain⟨hna,hlo,hok⟩:=hchk
 obtain⟨all,hv,hall⟩:=fK hs hf
 have hal:all.length=con.args.length:=by
  have h1:Nat.beq xs.length con.args.length=true:=by simpa [BP,hf] using hna
  rw[bb hall];exact br h1
 rw[den]at hn
 obtain⟨rs,hrs,hks,hn⟩:=ot hn
 have hRlt:∀ b,cx.R b->b<w.heap.size:=fun b hb=>Nat.lt_of_lt_of_le (hs.rlt b hb) hs.size
 have hlt:∀ b,M b\/cx.R b->b<w.heap.size:=fun b hb=>hb.elim (hs.mlt b) (hRlt b)
 have hpar:=pg (Z:=fun b=>b<w.heap.size/\b∉([]:List Nat)) hv hs (fun b hb=>⟨hlt b hb,by simp⟩) con.args (i:=0) (by omega) hp
 rw[List.drop_zero]at hpar
 have hcalls:=hH.walk w (fun b=>M b\/cx.R b) (aK env cells) all [] (fun b hb=>⟨hlt b hb,by simp⟩) hpar (by simp) (by simp) rs hrs
 have hrun:(execOp a.eval op).run P w=.ok (.enter f all.toArray) w:=by
  obtain⟨x,caps,e1,e2,rfl⟩:=hv
  have e3:#[]++c.args.map a.eval++caps=((c.args.toList.map a.eval)++caps.toList).toArray:=by simp
  have hen:=hH.enters (#[]++c.args.map a.eval++caps) w
  rw[<-e3]
  simp only[execOp,ho,resolve,e1,Deferred.ofValue,e2,pure_bind,invoke]
  exact hen
 unfold Oper.wp
 rw[hrun,Oper.upon_enter]
 refine Calls.mono hcalls ?_
 rintro e w' ⟨M',rvs,r1,r2,X1,X2,rfl,rfl,f1,f2,f3,f4,f5,f6,f7,f8,f9,f10,f11⟩
 have hr1:=aJ (l7 f8)
 have hlen:=aJ hks
 have hr2:r2=[]:=by
  rw[List.length_append]at hlen
  exact List.eq_nil_of_length_eq_zero (by omega)
 subst hr2
 rw[List.append_nil]at hn hks
 let M2:Nat->Prop:=fun b=>M' b/\(M b\/¬ cx.R b)
 have hMM:∀ b,M b->M2 b/\w'.heap[b]?=w.heap[b]?:=fun b hb=>⟨⟨f6 b (.inl hb),.inl hb⟩,f5 b (hs.mlt b hb) (by simp)⟩
 have hRR:∀ b,cx.R b->w'.heap[b]?=w.heap[b]?:=fun b hb=>f5 b (hRlt b hb) (by simp)
 have hs1:Sat cx M2 N env s a.tmps w':=by
  refine hs.step (K:=fun _=>true) (V:=fun _=>true) (hp:=s.hp) (nx:=s.nx) (nv:=s.nv) f1 f2 f3 f4 hMM hRR (fun b hb=>(f7 b hb.1).1) (fun b hb=>hb.2) (fun _ _=>KI.same.rfl' _) (fun _ _=>rfl) (SV.alls_true _) (fun _ _=>rfl) hs.nv ?_ (fun k o b hg hb=>Nat.lt_of_lt_of_le (hs.blt k o b hg hb) f4) hs.nodup ?_ hs.dist
  ·intro k o' hg
   exact obm.mono (K:=fun _=>true) (V:=fun _=>true) hMM hRR (fun _ _=>KI.same.rfl' _) (fun _ _=>rfl) rfl (SObj.all_true _) (fun b hb=>f5 b (hs.blt k o' b hg hb) (by simp)) (hs.objs k o' hg)
  ·intro k o' b hg hb
   refine⟨fun hm=>?_,(hs.apart k o' b hg hb).2⟩
   have hap:=hs.apart k o' b hg hb
   rcases (f7 b hm.1).2 with h|h|h
   ·exact h.elim hap.1 hap.2
   ·have:=hs.blt k o' b hg hb;omega
   ·simp at h
 have hs2:=hs1.more hok r1
 rw[hr1]at hs2
 refine⟨_,env++r1,M2,N,hn,?_,(aX a op.dst (vP rvs)).2,fun b hb=>(hMM b hb).2,fun k hk vs hg=>⟨KI.same.rfl' _,fun b hb=>f5 b (hs.blt k _ b hg hb) (by simp)⟩⟩
 rw[(aX a op.dst (vP rvs)).1]
 refine hs2.put op.dst (AE ?_)
 have:=l6 (M:=M2) (R:=cx.R) (N:=N) (fun b hb=>by
  show M2 b\/cx.R b
  by_cases hr:cx.R b
  ·exact .inr hr
  ·exact .inl ⟨hb,.inr hr⟩) (env0:=env) [] hlo f8
 rw[List.append_nil]at this
 rw[hs.nv]
 exact this
end
end Dx
namespace Dx
open Go
structure Env where
 T:Tab
 eqn:Nat->Option Nat
 R:Rows
 E:Nat->List (Nat×Con)
 tr:Bool
 B:Nat->Option (Bool×Nat×Nat)
structure Bmv (w w':World) (X X':List Nat):Prop where
 os:w'.os=w.os
 tape:w'.tape=w.tape
 output:w'.output=w.output
 size:w.heap.size<=w'.heap.size
 old:∀ k,k<w.heap.size->k∉X->w'.heap[k]?=w.heap[k]?
 new:∀ k∈X',k∈X\/w.heap.size<=k
 lt:∀ k∈X',k<w'.heap.size
def yH(P:Program)(f:Nat)(q:Bool×Nat×Nat):Prop :=
 (∀ args w,(callFunc f args).run P w=.ok (.enter f args) w)/\match q with
 | (true,T,e)=>∀(w:World) (v:Value) (s:ByteArray) (X:List Nat) (t:ByteArray),bldR w T e v s X->s.size+t.size<=aY->Calls P f #[v,.string t] w fun en w'=>∃ X',(∃ r,en=.returned r)/\Bmv w w' X X'/\bldR w' T e v (s++t) X'
 | (false,T,e)=>∀(w:World) (v:Value) (s:ByteArray) (X:List Nat),bldR w T e v s X->Calls P f #[v] w fun en w'=>∃ X',en=.returned (.string s)/\Bmv w w' X X'/\bldR w' T e v s X'
structure EnvOk (P:Program) (G:Env) (Φ:Phi):Prop where
 tab:bK P G.T
 eq:Cd P G.eqn
 has:∀ f c,c∈G.E f->Has P f c.2 (Φ c.1)
 mixed:P.follows .mixedOrders=true
 bld:∀ f q,G.B f=some q->yH P f q
def EV(s:St)(i:TI)(sz off:Nat)(row:List Sh)(ii jj:At)(vs:List SV)(d:Option Tmp)(K:St->Tree):Tree :=
 match Nat.beq row.length sz,Nat.ble (off+i.sz) sz,i.agg,Nat.beq i.sz 1 with
 | true,true,true,_=>fH .eqI [ci .i64 jj,ci .i64 ii] (K (ct s d (.agg ((vs.drop off).take i.sz))))
 | true,true,false,true=>fH .eqI [ci .i64 jj,ci .i64 ii] (K (ct s d (cr vs off)))
 | _,_,_,_=>.fail
def EW(T:Tab)(s:St)(t k e:Nat)(row:List Sh)(l:At)(kk:IntKind)(h:At)(d:Option Tmp)(K:St->Tree):Tree :=
 match T t with
 | some i=>match i.d with
  | .slice e'=>match T e' with
   | some _=>match s.ok && eH e with
    | true=>fH .upto [ci kk h,cl l] (ou s .take [cl l,ci kk h] fun a s2=>match s2.ok with
     | true=>K (ct {s2 with hp:=[(s2.nx,.arr e row a)]++cw s2.hp k,nx:=s2.nx+1} d (.sl s2.nx))
     | false=>.fail)
    | false=>.fail
   | none=>.fail
  | _=>.fail
 | none=>.fail
def z2(T:Tab)(s:St)(t k e:Nat)(row:List Sh)(l:At)(kk:IntKind)(h:At)(d:Option Tmp)(K:St->Tree):Tree :=
 match T t with
 | some i=>match i.d with
  | .slice e'=>match T e' with
   | some ie=>match s.ok && eH e,Nat.beq ie.sz row.length with
    | true,true=>fH .upto [ci kk h,cl l] (ou s .drop [cl l,ci kk h] fun a s2=>match s2.ok with
     | true=>K (ct {s2 with hp:=[(s2.nx,.arr (BIG+e) row a)]++cw s2.hp k,nx:=s2.nx+1} d (.sl s2.nx))
     | false=>.fail)
    | _,_=>.fail
   | none=>.fail
  | _=>.fail
 | none=>.fail
def cvB(T:Tab)(s:St)(src dst k:Nat)(d:Option Tmp)(K:St->Tree):Tree :=
 match T src,T dst,ar s.hp k with
 | some i,some j,some (.arr _ [.val] l)=>match i.d,j.d with
  | .slice e,.str=>match T e with
   | some ie=>match ie.d with
    | .int .u8=>fH (.rowsk [.int .u8]) [cl l] (ou s .ofBytes [cl l] fun a s2=>K (ct s2 d (.str a)))
    | _=>.fail
   | none=>.fail
  | _,_=>.fail
 | _,_,_=>.fail
def BQ(s:St)(l:At)(neg:Bool)(d:Option Tmp)(K:St->Tree):Tree :=
 ou s .isNil [cl l] fun p s1=>.ite p (un (K (ct s1 d (.bool (.b (!neg))))) (K (ct s1 d (.bool (.b neg))))) (K (ct s1 d (.bool (.b neg))))
def BR(T:Tab)(s:St)(t:Nat)(x:SV)(neg:Bool)(d:Option Tmp)(K:St->Tree):Tree :=
 match T t with
 | some i=>match i.d with
  | .slice _=>match x with
   | .nil=>K (ct s d (.bool (.b (!neg))))
   | .view _ l=>BQ s l neg d K
   | .sl k=>match ar s.hp k with
    | some (.arr _ _ l)=>BQ s l neg d K
    | _=>.fail
   | _=>.fail
  | _=>.fail
 | none=>.fail
def isF:SV->Bool
 | .view false _=>true
 | _=>false
def anyF:List SV->Bool
 | []=>false
 | x::xs=>match isF x with
  | true=>true
  | false=>anyF xs
def EX:List Par->List SV->Bool
 | .own _ _ _ _::ps,x::xs=>anyF x.cells || EX ps xs
 | _::ps,_::xs=>EX ps xs
 | _,_=>false
def EY:List Par->List SV->Bool
 | .fn f _::ps,x::xs=>match x with
  | .fn g _=>match Nat.beq f g with
   | true=>EY ps xs
   | false=>false
  | _=>false
 | _::ps,_::xs=>EY ps xs
 | _,_=>true
def lb(xs:List SV):List (Nat×Con)->Option (Nat×Con)
 | []=>none
 | c::cs=>match EY c.2.args xs with
  | true=>some c
  | false=>lb xs cs
theorem iA{xs:List SV}:∀ {cs:List (Nat×Con)} {c:Nat×Con},lb xs cs=some c->c∈cs
 | [],c,h=>by simp[lb]at h
 | d::cs,c,h=>by
  simp only[lb]at h
  split at h
  ·simp only[Option.some.injEq]at h;subst h;exact List.mem_cons_self
  ·exact List.mem_cons_of_mem _ (iA h)
def qd:List SV->Option (List Int)
 | []=>some []
 | .int .i64 (.n z)::r=>match qd r with
  | some l=>some (z::l)
  | none=>none
 | _::_=>none
def II(T:Tab)(t:Nat):Option Nat :=
 match T t with
 | some i=>match i.d with
  | .map kt e=>match T kt with
   | some ik=>match ik.d with
    | .int .i64=>some e
    | _=>none
   | none=>none
  | _=>none
 | none=>none
def noKey(z:Int)(es:List (Int×List Int)):Bool:=es.all fun p=>!decide (p.1=z)
def sX(T:Tab)(rd:List Nat)(s:St)(t:Nat)(m k x:SV)(d:Option Tmp)(K:St->Tree):Tree :=
 match d,m,k,x with
 | none,.sl key,.int .i64 (.n z),.agg vs=>match ar s.hp key,qd vs,II T t with
  | some (.map es),some l,some _=>match ov rd key,noKey z es with
   | true,true=>K {s with hp:=(key,.map (es++[(z,l)]))::cw s.hp key}
   | _,_=>.fail
  | _,_,_=>.fail
 | _,_,_,_=>.fail
def twoB(es:List (Int×List Int)):Bool:=es.all fun p=>decide (p.2.length=2)
def mS(i:Nat)(es:List (Int×List Int)):List (Int×Int):=es.map fun p=>(p.1,p.2.getD i 0)
def sY(T:Tab)(s:St)(t:Nat)(m k:SV)(d:Option Tmp)(K:St->Tree):Tree :=
 match m,k,II T t with
 | .sl key,.int .i64 n,some e=>match ar s.hp key,T e with
  | some (.map es),some ie=>match ie.zero,twoB es,s.ok with
   | [.int .i64 (.n 0),.int .i64 (.n 0)],true,true =>
    .letp (.tab (mS 0 es)) [ci .i64 n] (.letp (.tab (mS 1 es)) [ci .i64 n] (.letp (.has (es.map (·.1))) [ci .i64 n]
     (K (ct {s with nv:=s.nv+3} d (.tuple [.agg [.int .i64 (.v s.nv),.int .i64 (.v (s.nv+1))],.bool (.v (s.nv+2))])))))
   | _,_,_=>.fail
  | _,_=>.fail
 | _,_,_=>.fail
def Cf(T:Tab)(t:Nat):Option Nat :=
 match T t with
 | some i=>match i.d with
  | .map kt e=>match T kt with
   | some ik=>match ik.d with
    | .str=>some e
    | _=>none
   | none=>none
  | _=>none
 | none=>none
def KN(z:ByteArray)(es:List (ByteArray×Int)):Bool:=es.all fun p=>!decide (p.1=z)
def z3:SObj->Option (List (ByteArray×Int))
 | .map []=>some []
 | .smap es=>some es
 | _=>none
def pi(T:Tab)(rd:List Nat)(s:St)(t:Nat)(m k x:SV)(d:Option Tmp)(K:St->Tree):Tree :=
 match d,m,k,x with
 | none,.sl key,.str (.s z),.int .i64 (.n n)=>match ar s.hp key,Cf T t with
  | some o,some _=>match z3 o with
   | some es=>match ov rd key,KN z es with
    | true,true=>K {s with hp:=(key,.smap (es++[(z,n)]))::cw s.hp key}
    | _,_=>.fail
   | none=>.fail
  | _,_=>.fail
 | _,_,_,_=>.fail
def pj(T:Tab)(s:St)(t:Nat)(m k:SV)(d:Option Tmp)(K:St->Tree):Tree :=
 match m,k,Cf T t with
 | .sl key,.str n,some _=>match ar s.hp key,s.ok with
  | some (.smap es),true =>
   .letp (.tabS es) [cs n] (.letp (.hasS (es.map (·.1))) [cs n] (.ite (.v (s.nv+1))
    (K (ct {s with nv:=s.nv+2} d (.tuple [.int .i64 (.v s.nv),.bool (.b true)])))
    (K (ct {s with nv:=s.nv+2} d (.tuple [.any,.bool (.b false)])))))
  | _,_=>.fail
 | _,_,_=>.fail
def bldT(s:St)(q:Bool×Nat×Nat)(xs:List SV)(d:Option Tmp)(K:St->Tree):Tree :=
 match q,xs with
 | (true,T,e),[.ptr k 0,.str b]=>match ar s.hp k,s.ok with
  | some (.bld T' e' a),true=>match Nat.beq T T',Nat.beq e e' with
   | true,true=>fH .catOk [cs a,cs b] (ou s .cat [cs a,cs b] fun c s2=>K (ct {s2 with hp:=(k,.bld T' e' c)::cw s2.hp k} d .any))
   | _,_=>.fail
  | _,_=>.fail
 | (false,T,e),[.ptr k 0]=>match ar s.hp k,s.ok with
  | some (.bld T' e' a),true=>match Nat.beq T T',Nat.beq e e' with
   | true,true=>K (ct {s with hp:=(k,.bld T' e' a)::cw s.hp k} d (.str a))
   | _,_=>.fail
  | _,_=>.fail
 | _,_=>.fail
def dOp(G:Env)(op:Oper)(s:St)(rd:List Nat)(K:St->Tree):Tree :=
 match op.op with
 | .store t x y=>match op.dst,G.T t with
  | none,some i=>match opnd s.sl x with
   | .ptr k off=>match ar s.hp k,ov rd k with
    | some (.cells vs),true=>sQ s i.sz k off vs (opnd s.sl y) K
    | _,_=>.fail
   | .eptr k sz j off=>match ar s.hp k,ov rd k with
    | some (.foc e row l ii vs),true=>match Nat.beq sz row.length with
     | true=>EN s i.sz k off e row l ii j vs (opnd s.sl y) K
     | false=>.fail
    | some (.arr e row l),true=>match Nat.beq sz row.length with
     | true=>EO s i.sz k off e row l j (opnd s.sl y) K
     | false=>.fail
    | _,_=>.fail
   | _=>.fail
  | _,_=>.fail
 | .buildSlice t len parts=>sT G.T G.R s t len (parts.toList.map fun p=>(p.1,opnd s.sl p.2)) op.dst K
 | .insert t m k x=>match Cf G.T t with
  | some _=>pi G.T rd s t (opnd s.sl m) (opnd s.sl k) (opnd s.sl x) op.dst K
  | none=>sX G.T rd s t (opnd s.sl m) (opnd s.sl k) (opnd s.sl x) op.dst K
 | .lookup t m ix true=>match Cf G.T t with
  | some e=>match G.T e with
   | some _=>pj G.T s t (opnd s.sl m) (opnd s.sl ix) op.dst K
   | none=>.fail
  | none=>sY G.T s t (opnd s.sl m) (opnd s.sl ix) op.dst K
 | .makeSlice t x y=>z1 G.T G.R s t (opnd s.sl x) (opnd s.sl y) op.dst K
 | .load t x=>match opnd s.sl x with
  | .eptr k sz j off=>match ar s.hp k,G.T t with
   | some (.foc _ row _ ii vs),some i=>EV s i sz off row ii j vs op.dst K
   | _,_=>(nf G.T G.eqn s (.load t x)).tree s op.dst K
  | _=>(nf G.T G.eqn s (.load t x)).tree s op.dst K
 | .slice t x lo hi mx=>match lo,hi,mx,opnd s.sl x with
  | none,some h,none,.sl k=>match ar s.hp k,opnd s.sl h with
   | some (.arr e row l),.int kk n=>EW G.T s t k e row l kk n op.dst K
   | _,_=>.fail
  | some h,none,none,.sl k=>match ar s.hp k,opnd s.sl h with
   | some (.arr e row l),.int kk n=>z2 G.T s t k e row l kk n op.dst K
   | _,_=>.fail
  | _,_,_,_=>(nf G.T G.eqn s (.slice t x lo hi mx)).tree s op.dst K
 | .convert src dst x=>match opnd s.sl x with
  | .sl k=>cvB G.T s src dst k op.dst K
  | _=>(nf G.T G.eqn s (.convert src dst x)).tree s op.dst K
 | .binOp bop t x y u=>match opnd s.sl y,bop with
  | .nil,.eql=>BR G.T s t (opnd s.sl x) false op.dst K
  | .nil,.neq=>BR G.T s t (opnd s.sl x) true op.dst K
  | _,_=>(nf G.T G.eqn s (.binOp bop t x y u)).tree s op.dst K
 | .call c=>match c.callee with
  | .builtin .append=>match c.args.toList,c.argTypes.toList with
   | [x,y],[t,t']=>match Nat.beq t t' with
    | true=>app G.T rd s t op.dst x y K
    | false=>.fail
   | _,_=>.fail
  | .value _=>match dv s.sl c with
   | some (f,xs)=>match G.B f with
    | some q=>bldT s q xs op.dst K
    | none=>match lb xs (G.E f)with
     | some (fi,con)=>match EX con.args xs with
      | true=>EU s c fi con op.dst K
      | false=>call s c fi con rd op.dst K
     | none=>.fail
   | none=>.fail
  | _=>(nf G.T G.eqn s (.call c)).tree s op.dst K
 | o=>(nf G.T G.eqn s o).tree s op.dst K
section
variable {Φ:Phi} {cx:Ctx} {M:Nat->Prop} {N:Nm} {env:List C} {s:St} {tm:Array Value} {w:World} {o:Out} {a:Act} {P:Program} {op:Oper} {T:Tab}
theorem CX(hT:bK P T){t:Nat}{i:TI}(hi:T t=some i){x:Operand}(ho:op.op=.load t x){k sz off e:Nat}{row:List Sh}{l ii jj:At}{vs:List SV}{K:St->Tree}{rd:List Nat}
  (hn:den Φ (EV s i sz off row ii jj vs op.dst K) env=some o) (hs:Sat cx M N env s a.tmps w) (hx:opnd s.sl x=.eptr k sz jj off) (hg:ar s.hp k=some (.foc e row l ii vs)) (Q:Exit->Act->World->Prop):op.wp P a w (gh Φ K o cx rd M N s w a.defers) Q:=by
 have hxv:=hs.opnd x
 rw[hx,svm]at hxv;obtain⟨g,n0,cap0,j0,hb,hj0,hjn,hv⟩:=hxv
 obtain⟨vals,X1,X2,j,es,f1,f2,hjl,f4,h3,g1,g2,g3,g4,h5,h6⟩:=hs.objs k _ hg
 have main:∀ {t:Tree},Nat.beq row.length sz=true->Nat.ble (off+i.sz) sz=true->(i.agg=false->i.sz=1)->den Φ (fH .eqI [ci .i64 jj,ci .i64 ii] t) env=some o ->
   den Φ t env=some o/\∃ val,(execOp a.eval op).run P w=.ok (.value val) w/\(i.agg=true->svm w M cx.R N env (.agg ((vs.drop off).take i.sz)) val)/\(i.agg=false->svm w M cx.R N env (cr vs off) val):=by
  intro t c1 c2 hone hm0
  have e1:=br c1;subst e1
  have e2:=mR c2
  obtain⟨hc,hm1⟩:=b9 hm0
  refine⟨hm1,?_⟩
  have hjj:j0=j:=by
   have:(jj.den env).toInt=(ii.den env).toInt:=by simpa [Prim.den,aK,Cell.den,ci] using hc
   omega
  subst hjj
  rw[hb]at h3
  rcases h3.2 with ⟨p1,_⟩|⟨g',cap,cur,p1,p0,p2,p3,p4,p5,p6⟩
  ·simp at p1
  simp only[Value.slice.injEq,Option.some.injEq,Addr.mk.injEq,and_true]at p1
  obtain⟨rfl,rfl,rfl⟩:=p1
  have hle1:(j0+1)*row.length<=es.length*row.length:=Nat.mul_le_mul_right _ hjl
  have hle2:es.length*row.length<=cap0*row.length:=Nat.mul_le_mul_right _ p3
  rw[Nat.add_mul,Nat.one_mul]at hle1
  obtain⟨val,r1,r2,r3⟩:=jD hT hi (o:=j0*row.length+off) p2 (by omega) hone
  have hrow:∀ n,off+n<=row.length->((vals.drop (j0*row.length)).take row.length |>.drop off).take n=(cur.toList.drop (j0*row.length+off)).take n:=by
   intro n hn'
   rw[<-p6,List.drop_take,List.take_take,List.drop_take,List.drop_take,List.drop_drop,List.take_take]
   congr 1;omega
  refine⟨val,by simp[execOp,ho,hv,r1],fun hag=>?_,fun hag=>?_⟩
  ·rw[svm,r2 hag]
   refine⟨_,rfl,?_⟩
   have:=dN i.sz (dM off g2)
   rw[hrow i.sz e2]at this
   exact this
  ·have h1:=hone hag
   have hoff:off<vs.length:=by omega
   obtain⟨u,hu,hm⟩:=ee g2 (show vs[off]?=some (cr vs off) by rw[ef,List.getElem?_eq_getElem hoff];rfl)
   have h4:=r3 hag
   have h7:=hrow 1 (by omega)
   have h8:(((vals.drop (j0*row.length)).take row.length).drop off).take 1=[u]:=by
    have hlt:=(List.getElem?_eq_some_iff.1 hu).1
    rw[List.drop_eq_getElem_cons hlt]
    simp only[List.take_succ_cons,List.take_zero,List.cons.injEq,and_true]
    rw[List.getElem?_eq_getElem hlt]at hu;simpa using hu
   rw[h8]at h7
   have hlt:j0*row.length+off<cur.toList.length:=by rw[cur.length_toList];omega
   rw[List.drop_eq_getElem_cons hlt]at h7
   simp only[List.take_succ_cons,List.take_zero,List.cons.injEq,and_true]at h7
   rw[List.getElem?_eq_getElem hlt]at h4
   simp only[Option.some.injEq]at h4
   rw[<-h4,<-h7];exact hm
 unfold EV at hn
 split at hn
 case h_3=>cases hn
 ·rename_i c1 c2 c3
  obtain⟨hn,val,r1,r2,_⟩:=main c1 c2 (fun h=>by rw[c3]at h;cases h) hn
  exact gL hs r1 (r2 c3) hn Q
 ·rename_i c1 c2 c3 c4
  obtain⟨hn,val,r1,_,r2⟩:=main c1 c2 (fun _=>br c4) hn
  exact gL hs r1 (r2 c3) hn Q
theorem yI{t e:Nat}(ht:P.underlying t=some (.slice e))(A:Option Addr)(n c:Nat)(w:World):(Op.equal t (.slice A n c) (.slice none 0 0)).run P w=.ok A.isNone w:=by
 unfold Op.equal Op.maxDepth
 rw[show (10000:Nat)=9999+1 from rfl,Op.equalIn]
 cases A<;>simp[run_underlying ht]
theorem pl{l:At}{neg:Bool}{K:St->Tree}{rd:List Nat}(hn:den Φ (BQ s l neg op.dst K) env=some o)(hs:Sat cx M N env s a.tmps w){A:Option Addr}(hA:A=none->(l.den env).toList=[])
  (hr:(execOp a.eval op).run P w=.ok (.value (.bool (A.isNone != neg))) w) (Q:Exit->Act->World->Prop):op.wp P a w (gh Φ K o cx rd M N s w a.defers) Q:=by
 unfold BQ at hn
 obtain⟨p,s1,ds,k1,k2,k3,k4,_⟩:=cF hn hs
 rw[den]at k1
 have hp:(p.den (env++ds)).toBool=(l.den env).toList.isEmpty:=k3.2.1
 rw[hp]at k1
 have fin:∀ b:Bool,den Φ (K (ct s1 op.dst (.bool (.b b)))) (env++ds)=some o->(A.isNone != neg)=b->op.wp P a w (gh Φ K o cx rd M N s w a.defers) Q:=by
  intro b hb he
  refine gL k2 hr ?_ hb Q
  rw[svm,he];rfl
 cases hl:(l.den env).toList.isEmpty with
 | true =>
  rw[hl]at k1
  simp only[ae]at k1
  obtain⟨h1,h2⟩:=lZ k1
  cases A with
  | none=>exact fin _ h1 (by cases neg<;>rfl)
  | some ad=>exact fin _ h2 (by cases neg<;>rfl)
 | false =>
  rw[hl]at k1
  simp only[ae]at k1
  cases A with
  | none=>rw[hA rfl]at hl;cases hl
  | some ad=>exact fin _ k1 (by cases neg<;>rfl)
theorem vU(hT:bK P T){bop:BinOp}{t u:Nat}{x y:Operand}(ho:op.op=.binOp bop t x y u){neg:Bool}(hbop:bop=.eql/\neg=false\/bop=.neq/\neg=true){K:St->Tree}{rd:List Nat}
  (hn:den Φ (BR T s t (opnd s.sl x) neg op.dst K) env=some o) (hs:Sat cx M N env s a.tmps w) (hy:opnd s.sl y=.nil) (Q:Exit->Act->World->Prop):op.wp P a w (gh Φ K o cx rd M N s w a.defers) Q:=by
 unfold BR at hn
 split at hn
 case h_2=>cases hn
 rename_i i hi
 obtain⟨inf,d,z,h1,h2,h3,h4,h5,h6,h7,h8,h9⟩:=hT t i hi
 split at hn
 case h_2=>cases hn
 rename_i e hd
 rw[hd]at h9
 have h9:d=.slice e:=h9
 subst h9
 have hyv:=hs.opnd y
 rw[hy,svm]at hyv
 have hxv:=hs.opnd x
 have run:∀ A n c,a.eval x=.slice A n c->(execOp a.eval op).run P w=.ok (.value (.bool (A.isNone != neg))) w:=by
  intro A n c he
  have hq:=yI (P:=P) h2 A n c w
  rcases hbop with ⟨rfl,rfl⟩|⟨rfl,rfl⟩<;>simp[execOp,ho,he,hyv,eqGuard,binOp,hq]
 split at hn
 ·rename_i he
  rw[he,svm]at hxv
  refine gL hs (run _ _ _ hxv) ?_ hn Q
  rw[svm];cases neg<;>rfl
 ·rename_i tt l he
  rw[he,svm,repC]at hxv
  obtain⟨A,c,hv,_,_,hrep⟩:=hxv
  refine pl hn hs (A:=A) (fun hA=>?_) (run _ _ _ hv) Q
  rcases hrep with h|⟨b,o',sz,arr,T',fr,h,_⟩
  ·exact h
  ·rw[hA]at h;cases h
 ·rename_i k he
  split at hn
  case h_2=>cases hn
  rename_i e' row l hg
  rw[he,svm]at hxv
  obtain⟨es,vals,X',g1,g2,g3,_⟩:=(show shC _ _ _ _ _ _ from hs.objs k _ hg)
  cases g1
  rcases g3.slice with ⟨q1,q2⟩|⟨g,o',cap,e0,cur,q1,_⟩
  ·exact pl hn hs (A:=none) (fun _=>List.eq_nil_of_length_eq_zero q2) (run _ _ _ (hxv.trans q1)) Q
  ·exact pl hn hs (A:=some ⟨g,o',none⟩) (fun h=>by cases h) (run _ _ _ (hxv.trans q1)) Q
 ·cases hn
theorem CY(hT:bK P T){t:Nat}{x h:Operand}(ho:op.op=.slice t x none (some h) none){k e:Nat}{row:List Sh}{l:At}{kk:IntKind}{n:At}{K:St->Tree}{rd:List Nat}
  (hn:den Φ (EW T s t k e row l kk n op.dst K) env=some o) (hs:Sat cx M N env s a.tmps w) (hx:opnd s.sl x=.sl k) (hh:opnd s.sl h=.int kk n) (hg:ar s.hp k=some (.arr e row l)) (Q:Exit->Act->World->Prop):op.wp P a w (gh Φ K o cx rd M N s w a.defers) Q:=by
 unfold EW at hn
 split at hn
 case h_2=>cases hn
 rename_i i hi
 obtain⟨inf,d,z,h1,h2,h3,h4,h5,h6,h7,h8,h9⟩:=hT t i hi
 split at hn
 case h_2=>cases hn
 rename_i e' hd
 rw[hd]at h9
 have h9:d=.slice e':=h9
 subst h9
 split at hn
 case h_2=>cases hn
 rename_i ie hie
 obtain⟨inf',d',z',q1,q2,q3,q4,q5,q6,q7,q8,q9⟩:=hT e' ie hie
 split at hn
 case h_2=>cases hn
 rename_i hok
 have hsm:=(oh hok).2
 have hok:=(oh hok).1
 obtain⟨hc0,hn⟩:=b9 hn
 obtain⟨j,hj,hjl⟩:=pc hc0
 have hxv:=hs.opnd x
 rw[hx,svm]at hxv
 have hnv:=cJ hs hh
 have hob:shC w M (.arr e row) (.list (l.den env).toList) (N k).v (N k).φ:=hs.objs k _ hg
 rw[shC]at hob
 obtain⟨es,vals,X',g1,g2,g3,g4,g5,g6⟩:=hob
 have g3:=g3.own hsm
 cases g1
 obtain⟨av,s2,ds,k1,k2,k3,k4,k5,k6,k7,k8⟩:=cF hn hs
 split at k1
 case h_2=>cases k1
 rename_i hok2
 have hpd:(av.den (env++ds)).toList=(l.den env).toList.take j:=by
  rw[k3.2.2.2]
  simp[Prim.den,aK,Cell.den,ci,cl,hj]
 generalize hes:(l.den env).toList=es at hjl g2 g3 g4 g6 hpd
 obtain⟨A,c,hv,hcc,hrow⟩:∃ A c,(N k).v=.slice A es.length c/\es.length<=c/\(w.ownsRow 0 e row.length (.slice A j c) j (vals.take (j*row.length))):=by
  have hl:=g3.1
  have hle:j*row.length<=es.length*row.length:=Nat.mul_le_mul_right _ hjl
  rcases g3.2 with ⟨p1,p2⟩|⟨g,cap,cur,p1,p0,p3,p4,p5,p6,p7⟩
  ·have hj0:j=0:=by omega
   subst hj0
   exact⟨none,0,by rw[p1,p2],by omega,by simp,.inl ⟨rfl,rfl⟩⟩
  ·refine⟨_,cap,p1,p4,by rw[List.length_take];omega,.inr ⟨g,cap,cur,rfl,p0,p3,by omega,p5,p6,?_⟩⟩
   rw[<-p7,List.take_take,Nat.min_eq_left hle]
 have hrun:=om (P:=P) (A:=A) (len:=es.length) (cap:=c) (k:=kk) (h:=(n.den env).toInt) h2 q1 (by omega) (by omega)
 rw[Ay A,ite_self,hj,Int.toNat_natCast]at hrun
 have hrun':(execOp a.eval op).run P w=.ok (.value (.slice A j c)) w:=by
  simp[execOp,ho,hxv,hv,hnv,hj,hrun w]
 have hsp:es=es.take j++es.drop j:=(List.take_append_drop _ _).symm
 rw[hsp]at g4
 obtain⟨X1,X2,rfl,g7,g8⟩:=co g4
 have hX1:rowsP (shR w M row) row.length (es.take j) (vals.take (j*row.length)) X1:=by
  refine cH g7 ?_
  have:(es.take j).length=j:=by rw[List.length_take];omega
  rw[this,List.take_take,Nat.min_self]
 let ki:KI:=⟨.slice A j c,[],[],0,(blk (N k).v).toList++X1⟩
 have hsub:∀ b∈ki.φ,b∈(N k).φ:=fun b hb=>by
  rw[g2]
  rcases List.mem_append.1 hb with h|h
  ·exact List.mem_append_left _ h
  ·exact List.mem_append_right _ (List.mem_append_left _ h)
 have hnd:ki.φ.Nodup:=by
  have:=hs.nodup k _ hg
  rw[g2,<-List.append_assoc]at this
  exact(List.nodup_append.1 this).1
 obtain⟨o1,o2,o3⟩:=St.ok_parts hok2
 have hg2:ar s2.hp k=some (.arr e row l):=by rw[k5];exact hg
 have hkl:k<s2.nx:=ap (aD o2 hg2).1
 let s3:St:={s2 with hp:=cw s2.hp k}
 have hs3:Sat cx M N (env++ds) s3 a.tmps w:=k2.less fun _ _ hj=>(ay hj).1
 have hjoin:=hs3.joinO (N':=ip N s2.nx ki) (objs:=[(s2.nx,.arr e row av)]) (nx:=s2.nx+1) (X:=ki.φ) (St.ok_rem hok2 k)
  (fun k' hk'=>KI.same.of (aO N ki (ap hk'))) (fun k' o' hg'=>aO N ki (ap (aD o2 (ay hg').1).1))
  (fun k' o' hg'=>by
   rw[aq]at hg'
   split at hg'
   case isFalse=>cases hg'
   rename_i ek;subst ek
   simp only[Option.some.injEq]at hg';subst hg'
   rw[aR]
   refine⟨?_,hnd,fun b hb=>hb⟩
   rw[obm,aR,shC,hpd]
   refine⟨_,vals.take (j*row.length),X1,rfl,?_,?_,hX1,g5,by rw[List.length_take];omega⟩
   ·show (blk (N k).v).toList++X1=(blk (.slice A j c)).toList++X1
    rw[hv];cases A<;>rfl
   ·have:(es.take j).length=j:=by rw[List.length_take];omega
    rw[this];exact .inl hrow)
  (fun b hb=>by
   have hb':=hsub b hb
   have hap:=hs.apart k _ b hg hb'
   refine⟨hap.1,hap.2,hs.blt k _ b hg hb',fun k' o' hg' hb2=>?_⟩
   obtain⟨p1,p2⟩:=ay hg'
   rw[k5]at p1
   exact p2 (hs.dist k' k o' _ b p1 hg hb2 hb'))
  (fun k1' k2' o1' o2' b h1 h2 _ _=>by
   rw[aq]at h1 h2
   split at h1
   ·split at h2
    ·omega
    ·cases h2
   ·cases h1)
 refine du hrun' ⟨_,env++ds,M,ip N s2.nx ki,k1,?_,(aX a op.dst _).2,fun _ _=>rfl,fun k' _ vs' hg'=>⟨KI.same.of (aO N ki ?_),fun _ _=>rfl⟩⟩
 ·rw[(aX a op.dst _).1]
  refine hjoin.put op.dst ?_
  rw[svm,aR]
 ·rw[<-k5]at hg'
  exact ap (aD o2 hg').1
theorem BH(hT:bK P T){t:Nat}{x h:Operand}(ho:op.op=.slice t x (some h) none none){k e:Nat}{row:List Sh}{l:At}{kk:IntKind}{n:At}{K:St->Tree}{rd:List Nat}
  (hn:den Φ (z2 T s t k e row l kk n op.dst K) env=some o) (hs:Sat cx M N env s a.tmps w) (hx:opnd s.sl x=.sl k) (hh:opnd s.sl h=.int kk n) (hg:ar s.hp k=some (.arr e row l)) (Q:Exit->Act->World->Prop):op.wp P a w (gh Φ K o cx rd M N s w a.defers) Q:=by
 unfold z2 at hn
 split at hn
 case h_2=>cases hn
 rename_i i hi
 obtain⟨inf,d,z,h1,h2,h3,h4,h5,h6,h7,h8,h9⟩:=hT t i hi
 split at hn
 case h_2=>cases hn
 rename_i e' hd
 rw[hd]at h9
 have h9:d=.slice e':=h9
 subst h9
 split at hn
 case h_2=>cases hn
 rename_i ie hie
 obtain⟨inf',d',z',q1,q2,q3,q4,q5,q6,q7,q8,q9⟩:=hT e' ie hie
 split at hn
 case h_2=>cases hn
 rename_i hok hrl
 have hrl:=br hrl
 have hsm:=(oh hok).2
 have hok:=(oh hok).1
 obtain⟨hc0,hn⟩:=b9 hn
 obtain⟨j,hj,hjl⟩:=pc hc0
 have hxv:=hs.opnd x
 rw[hx,svm]at hxv
 have hnv:=cJ hs hh
 have hob:shC w M (.arr e row) (.list (l.den env).toList) (N k).v (N k).φ:=hs.objs k _ hg
 rw[shC]at hob
 obtain⟨es,vals,X',g1,g2,g3,g4,g5,g6⟩:=hob
 have g3:=g3.own hsm
 cases g1
 obtain⟨av,s2,ds,k1,k2,k3,k4,k5,k6,k7,k8⟩:=cF hn hs
 split at k1
 case h_2=>cases k1
 rename_i hok2
 have hpd:(av.den (env++ds)).toList=(l.den env).toList.drop j:=by
  rw[k3.2.2.2]
  simp[Prim.den,aK,Cell.den,ci,cl,hj]
 generalize hes:(l.den env).toList=es at hjl g2 g3 g4 g6 hpd
 have hl:=g3.1
 have hle:j*row.length<=es.length*row.length:=Nat.mul_le_mul_right _ hjl
 obtain⟨A,c,hv,hcc,hrow⟩:∃ A c,(N k).v=.slice A es.length c/\es.length<=c/\Ow w (BIG+e) row.length (.slice (if c=j then A else A.map (·.add (j*inf'.size))) (es.length-j) (c-j)) (es.length-j) (vals.drop (j*row.length)):=by
  have hdl:(vals.drop (j*row.length)).length=(es.length-j)*row.length:=by rw[List.length_drop,hl,Nat.sub_mul]
  rcases g3.2 with ⟨p1,p2⟩|⟨g,cap,cur,p1,p0,p3,p4,p5,p6,p7⟩
  ·have hj0:j=0:=by omega
   subst hj0
   exact⟨none,0,by rw[p1,p2],by omega,.inr ⟨e,rfl,hdl,.inl ⟨by simp[p2],by omega⟩⟩⟩
  ·have hcl:j*row.length<=cap*row.length:=Nat.mul_le_mul_right _ (by omega)
   refine⟨_,cap,p1,p4,.inr ⟨e,rfl,hdl,.inr ?_⟩⟩
   by_cases hcj:cap=j
   ·refine⟨g,0,cap-j,e,cur,by rw[if_pos hcj],p3,by omega,by omega,by rw[hcj];simp,?_⟩
    have:es.length=j:=by omega
    rw[this,Nat.sub_self,Nat.zero_mul,List.take_zero,List.drop_eq_nil_of_le (by rw[hl,this];exact Nat.le_refl _)]
   ·refine⟨g,j*row.length,cap-j,e,cur,?_,p3,by omega,by omega,by rw[Nat.sub_mul,p6];omega,?_⟩
    ·rw[if_neg hcj,<-hrl,q3]
     simp only[Option.map_some,add_zero,Nat.zero_add]
    ·rw[<-p7,List.drop_take,Nat.sub_mul]
 have hrun:=oo (P:=P) (A:=A) (len:=es.length) (cap:=c) (k:=kk) (l:=(n.den env).toInt) h2 q1 (by omega) (by omega)
 rw[hj,Int.toNat_natCast]at hrun
 have hrun':(execOp a.eval op).run P w=.ok (.value (.slice (if c=j then A else A.map (·.add (j*inf'.size))) (es.length-j) (c-j))) w:=by
  simp[execOp,ho,hxv,hv,hnv,hj,hrun w]
 have hsp:es=es.take j++es.drop j:=(List.take_append_drop _ _).symm
 rw[hsp]at g4
 obtain⟨X1,X2,rfl,g7,g8⟩:=co g4
 have hX1:rowsP (shR w M row) row.length (es.drop j) (vals.drop (j*row.length)) X2:=by
  have:(es.take j).length=j:=by rw[List.length_take];omega
  rw[this]at g8;exact g8
 let ki:KI:=⟨.slice (if c=j then A else A.map (·.add (j*inf'.size))) (es.length-j) (c-j),[],[],0,(blk (N k).v).toList++X2⟩
 have hsub:∀ b∈ki.φ,b∈(N k).φ:=fun b hb=>by
  rw[g2]
  rcases List.mem_append.1 hb with h|h
  ·exact List.mem_append_left _ h
  ·exact List.mem_append_right _ (List.mem_append_right _ h)
 have hnd:ki.φ.Nodup:=by
  have:=hs.nodup k _ hg
  rw[g2]at this
  obtain⟨n1,n2,n3⟩:=List.nodup_append.1 this
  exact List.nodup_append.2 ⟨n1,(List.nodup_append.1 n2).2.1,fun x hx y hy=>n3 x hx y (List.mem_append_right _ hy)⟩
 obtain⟨o1,o2,o3⟩:=St.ok_parts hok2
 have hg2:ar s2.hp k=some (.arr e row l):=by rw[k5];exact hg
 have hkl:k<s2.nx:=ap (aD o2 hg2).1
 let s3:St:={s2 with hp:=cw s2.hp k}
 have hs3:Sat cx M N (env++ds) s3 a.tmps w:=k2.less fun _ _ hj=>(ay hj).1
 have hjoin:=hs3.joinO (N':=ip N s2.nx ki) (objs:=[(s2.nx,.arr (BIG+e) row av)]) (nx:=s2.nx+1) (X:=ki.φ) (St.ok_rem hok2 k)
  (fun k' hk'=>KI.same.of (aO N ki (ap hk'))) (fun k' o' hg'=>aO N ki (ap (aD o2 (ay hg').1).1))
  (fun k' o' hg'=>by
   rw[aq]at hg'
   split at hg'
   case isFalse=>cases hg'
   rename_i ek;subst ek
   simp only[Option.some.injEq]at hg';subst hg'
   rw[aR]
   refine⟨?_,hnd,fun b hb=>hb⟩
   rw[obm,aR,shC,hpd]
   refine⟨_,vals.drop (j*row.length),X2,rfl,?_,?_,hX1,g5,by rw[List.length_drop];omega⟩
   ·show (blk (N k).v).toList++X2=(blk (.slice (if c=j then A else A.map (·.add (j*inf'.size))) (es.length-j) (c-j))).toList++X2
    rw[hv]
    have:blk (.slice (if c=j then A else A.map (·.add (j*inf'.size))) (es.length-j) (c-j))=blk (.slice A es.length c):=by
     split
     ·cases A<;>rfl
     ·cases A with
      | none=>rfl
      | some q =>
       show some (q.add (j*inf'.size)).block=some q.block
       unfold Addr.add;split<;>rfl
    rw[this]
   ·rw[List.length_drop];exact hrow)
  (fun b hb=>by
   have hb':=hsub b hb
   have hap:=hs.apart k _ b hg hb'
   refine⟨hap.1,hap.2,hs.blt k _ b hg hb',fun k' o' hg' hb2=>?_⟩
   obtain⟨p1,p2⟩:=ay hg'
   rw[k5]at p1
   exact p2 (hs.dist k' k o' _ b p1 hg hb2 hb'))
  (fun k1' k2' o1' o2' b h1 h2 _ _=>by
   rw[aq]at h1 h2
   split at h1
   ·split at h2
    ·omega
    ·cases h2
   ·cases h1)
 refine du hrun' ⟨_,env++ds,M,ip N s2.nx ki,k1,?_,(aX a op.dst _).2,fun _ _=>rfl,fun k' _ vs' hg'=>⟨KI.same.of (aO N ki ?_),fun _ _=>rfl⟩⟩
 ·rw[(aX a op.dst _).1]
  refine hjoin.put op.dst ?_
  rw[svm,aR]
 ·rw[<-k5]at hg'
  exact ap (aD o2 hg').1
theorem KO(hT:bK P T){src dst k:Nat}{x:Operand}(ho:op.op=.convert src dst x){K:St->Tree}{rd:List Nat}
  (hn:den Φ (cvB T s src dst k op.dst K) env=some o) (hs:Sat cx M N env s a.tmps w) (hx:opnd s.sl x=.sl k) (Q:Exit->Act->World->Prop):op.wp P a w (gh Φ K o cx rd M N s w a.defers) Q:=by
 unfold cvB at hn
 split at hn
 case h_2=>cases hn
 rename_i i j e0 l hi hj hg
 obtain⟨_,d,_,_,h2,_,_,_,_,_,_,h9⟩:=hT src i hi
 obtain⟨_,d',_,_,h2',_,_,_,_,_,_,h9'⟩:=hT dst j hj
 split at hn
 case h_2=>cases hn
 rename_i e e1 e2
 rw[e1]at h9;rw[e2]at h9'
 have h9:d=.slice e:=h9
 have h9':d'=.string:=h9'
 subst h9;subst h9'
 split at hn
 case h_2=>cases hn
 rename_i ie hie
 obtain⟨_,d2,_,_,g2,_,_,_,_,_,_,g9⟩:=hT e ie hie
 split at hn
 case h_2=>cases hn
 rename_i hu
 rw[hu]at g9
 have g9:d2=.int .u8:=g9
 subst g9
 obtain⟨hc,hn⟩:=b9 hn
 have hc:(l.den env).toList.all (ak [.int .u8])=true:=hc
 have hxv:=hs.opnd x
 rw[hx,svm]at hxv
 have hob:shC w M (.arr e0 [.val]) (.list (l.den env).toList) (N k).v (N k).φ:=hs.objs k _ hg
 have hrep:=shC.rep (Z:=fun _=>True) (fun _ _=>trivial) _ _ _ _ (fun _ _=>trivial) hob
 obtain⟨at',s2,ds,k1,k2,k3,_⟩:=cF hn hs
 have hval:(at'.den (env++ds)).toStr=⟨((l.den env).toList.map fun r=>UInt8.ofNat (aa r 0).toInt.toNat).toArray⟩:=by rw[k3.2.2.1];rfl
 have hrun:(execOp a.eval op).run P w=.ok (.value (.string (at'.den (env++ds)).toStr)) w:=by
  rw[hval]
  generalize (l.den env).toList=es at hc hrep
  rw[repC]at hrep
  obtain⟨A,c,hv,_,_,hr⟩:=hrep
  rw[hv]at hxv
  rcases hr with h0|⟨b,o',sz,arr,ty,fr,rfl,_,hh,hsz,hrows⟩
  ·subst h0
   cases A with
   | none =>
    have:=run_convert_bytes_nil (P:=P) (w:=w) src e h2 g2 0 c dst h2'
    simp[execOp,ho,hxv,this]
    rfl
   | some ad =>
    have:=run_convert_bytes_string (P:=P) w src dst e (some ad) 0 c h2 g2 h2'
    simp[execOp,ho,hxv,this,Conv.bytesToString,loadCells,loadCellsFrom]
    rfl
  ·have hcell:∀ i,i<es.length->w.cell? ⟨b,o'+i,none⟩=some (.int .u8 ((es.map fun r=>(aa r 0).toInt).getD i 0)):=by
    intro i hi
    have hgi:es[i]?=some es[i]:=List.getElem?_eq_getElem hi
    obtain⟨q1,q2⟩:=fE hrows hgi
    have hk:=(List.all_eq_true.1 hc) es[i] (List.getElem_mem hi)
    have hl1:=aJ hk
    match hq:es[i],hk,hl1 with
    | [cc],hk,_ =>
     rw[hq]at q1 q2
     have hsz1:sz=1:=by simpa using q1.symm
     subst hsz1
     rw[repRow]at q2
     obtain⟨v,vs',hv1,hv2,_⟩:=q2
     have hcc:∃ n,cc=.int .u8 n:=by
      cases cc with
      | int kk n =>
       have:=cQ (a:=.u8) (b:=kk) (by
        simp only[ak,fG]at hk
        split at hk
        ·assumption
        ·cases hk)
       exact⟨n,by rw[<-this]⟩
      | _=>simp[ak,fG]at hk
     obtain⟨n,rfl⟩:=hcc
     rw[repC]at hv2
     rw[cell_of_row w b (o'+i) arr ty fr hh]
     have h1:(arr.toList.drop o')[i]?=some v:=by
      have:=congrArg (fun z:List Value=>z[0]?) hv1
      simpa using this
     rw[List.getElem?_drop]at h1
     have h3:arr[o'+i]?=some v:=by simpa using h1
     rw[h3,hv2,List.getD,List.getElem?_map,hgi,hq]
     rfl
   have:=run_convert_bytes_arg (P:=P) w src e h2 g2 b o' es.length c (es.map fun r=>(aa r 0).toInt) (by simp) hcell dst h2'
   simp only[execOp,ho,hxv,Sem.run_bind,this,Result.andThen_ok,Sem.run_pure]
   simp[strOfNums,List.map_map,Function.comp_def]
 refine du hrun ⟨_,env++ds,M,N,k1,?_,(aX a op.dst _).2,fun _ _=>rfl,fun k' _ vs' hg'=>⟨KI.same.rfl' _,fun _ _=>rfl⟩⟩
 rw[(aX a op.dst _).1]
 exact k2.put op.dst (by rw[svm])
theorem AF(hT:bK P T){t e:Nat}(h:II T t=some e):∃ kt,P.underlying t=some (.map kt e)/\P.underlying kt=some (.int .i64):=by
 unfold II at h
 split at h
 case h_2=>cases h
 rename_i i hi
 split at h
 case h_2=>cases h
 rename_i kt e' hd
 split at h
 case h_2=>cases h
 rename_i ik hik
 split at h
 case h_2=>cases h
 rename_i hd2
 simp only[Option.some.injEq]at h;subst h
 obtain⟨inf,d,z,h1,h2,h3,h4,h5,h6,h7,h8,h9⟩:=hT t i hi
 obtain⟨inf',d',z',q1,q2,q3,q4,q5,q6,q7,q8,q9⟩:=hT kt ik hik
 rw[hd]at h9
 rw[hd2]at q9
 have h9:d=.map kt e':=h9
 have q9:d'=.int .i64:=q9
 subst h9;subst q9
 exact⟨kt,h2,q2⟩
theorem rV{M:Nat->Prop}{R:Nat->Prop}{N:Nm}:∀ {vs:List SV} {l:List Int} {us:List Value},qd vs=some l->svms w M R N env vs us->us=l.map (Value.int .i64)
 | [],l,us,h,hs=>by simp only[qd,Option.some.injEq]at h;subst h;rw[svms]at hs;exact hs
 | x::r,l,us,h,hs=>by
  rw[svms]at hs
  obtain⟨v,vs',rfl,h1,h2⟩:=hs
  unfold qd at h
  split at h
  ·rename_i e;cases e
  ·rename_i z r' e
   simp only[List.cons.injEq]at e
   obtain⟨rfl,rfl⟩:=e
   split at h
   case h_2=>cases h
   rename_i l' hl
   simp only[Option.some.injEq]at h;subst h
   rw[svm]at h1
   rw[List.map_cons,rV hl h2,h1];rfl
  ·cases h
theorem iB(n:Int):∀(es:List (Int×List Int)) (l:List MapEntry) (i:Nat),l.map (fun e=>(e.key,e.val))=es.map Cc ->
  Instr.findNow (.int .i64) (.int .i64 n) l i=some (match es.findIdx? fun p=>n==p.1 with
   | some j=>(es[j]?).map fun p=>(i+j,(Cc p).2)
   | none=>none)
 | [],l,i,h=>by
  cases l with
  | nil=>rfl
  | cons e l=>cases h
 | p::es,[],i,h=>by cases h
 | p::es,e::l,i,h=>by
  simp only[List.map_cons,List.cons.injEq]at h
  obtain⟨h1,h2⟩:=h
  have hk:e.key=.int .i64 p.1:=congrArg Prod.fst h1
  have hv:e.val=(Cc p).2:=congrArg Prod.snd h1
  unfold Instr.findNow
  rw[hk]
  have hs:Instr.sameNow (.int .i64) (.int .i64 n) (.int .i64 p.1)=some (n==p.1):=by simp[Instr.sameNow]
  rw[hs]
  by_cases hn:n==p.1
  ·rw[hn,hv]
   simp[List.findIdx?_cons,hn]
  ·have hn':(n==p.1)=false:=by simpa using hn
   rw[hn']
   dsimp only
   rw[iB n es l (i+1) h2]
   simp only[List.findIdx?_cons,hn']
   cases hj:es.findIdx? fun p=>n==p.1 with
   | none=>rfl
   | some j=>simp[Nat.add_assoc,Nat.add_comm 1 j]
theorem yJ(hT:bK P T){t:Nat}{m k x:Operand}(ho:op.op=.insert t m k x){K:St->Tree}{rd:List Nat}
  (hn:den Φ (sX T rd s t (opnd s.sl m) (opnd s.sl k) (opnd s.sl x) op.dst K) env=some o) (hs:Sat cx M N env s a.tmps w) (Q:Exit->Act->World->Prop):op.wp P a w (gh Φ K o cx rd M N s w a.defers) Q:=by
 have hmv:=hs.opnd m
 have hkv:=hs.opnd k
 have hxv:=hs.opnd x
 unfold sX at hn
 split at hn
 case h_2=>cases hn
 rename_i key z vs hd hm hk hx
 split at hn
 case h_2=>cases hn
 rename_i es l e hg hl hke
 split at hn
 case h_2=>cases hn
 rename_i hw hno
 rw[hm,svm]at hmv
 rw[hk,svm]at hkv
 rw[hx,svm]at hxv
 obtain⟨cs,hxv,hcs⟩:=hxv
 have hcs:=rV hl hcs
 obtain⟨kt,u1,u2⟩:=AF hT hke
 obtain⟨b,ents,clock,g1,g2,g3,g4⟩:=hs.objs key _ hg
 have hkv:a.eval k=.int .i64 z:=hkv
 have hmv:a.eval m=.map (some b):=hmv.trans g1
 have hfi:es.findIdx? (fun p=>z==p.1)=none:=by
  rw[List.findIdx?_eq_none_iff]
  intro p hp
  have:=List.all_eq_true.1 hno p hp
  simp only[Bool.not_eq_true',decide_eq_false_iff_not]at this
  simpa using fun h=>this h.symm
 have hfind:=iB z es ents.toList 0 g4
 rw[hfi]at hfind
 have hrun:(execOp a.eval op).run P w=.ok .skip {w with heap:=w.heap.setIfInBounds b (.map (ents.push {key:=.int .i64 z,val:=.agg cs,born:=clock}) (clock+1))}:=by
  simp[execOp,ho,Instr.mapUpdate,run_underlying u1,hmv,hkv,hxv,MapKept.run_getObj_map g3,MapKept.run_checkKey u2 (k:=.int .i64 z) rfl,MapKept.run_findKey u2 hfind,MapKept.run_setObj_map _ g3]
 have hbl:b<w.heap.size:=hs.blt key _ b hg (by rw[g2];simp)
 have hoth:∀ b',b'≠b->({w with heap:=w.heap.setIfInBounds b (.map (ents.push {key:=.int .i64 z,val:=.agg cs,born:=clock}) (clock+1))}:World).heap[b']?=w.heap[b']?:=fun b' hb'=>by
  simp[Array.getElem?_setIfInBounds,Ne.symm hb']
 refine fl hrun ⟨_,env,M,N,hn,?_,(aX a op.dst undef).2,Fr.write hs hw hg (by rw[g2];simp) fun b' hb'=>hoth b' hb'⟩
 rw[(aX a op.dst undef).1,hd]
 refine hs.write hg (by rw[g2];simp:b∈(N key).φ) rfl rfl rfl (by simp) (fun b' hb' _=>hoth b' hb') ?_
 refine⟨b,ents.push {key:=.int .i64 z,val:=.agg cs,born:=clock},clock+1,g1,g2,by simp[Array.getElem?_setIfInBounds,hbl],?_⟩
 rw[Array.toList_push,List.map_append,g4,List.map_append]
 simp only[List.map_cons,List.map_nil,Cc]
 rw[<-hcs,Array.toArray_toList]
theorem pm(n:Int)(i:Nat):∀ es:List (Int×List Int),ic (mS i es) n=match es.findIdx? fun p=>n==p.1 with
   | some j=>((es[j]?).map fun p=>p.2.getD i 0).getD 0
   | none=>0
 | []=>rfl
 | p::es=>by
  have ih:=pm n i es
  simp only[mS,List.map_cons,ic,List.findIdx?_cons]
  by_cases h:n==p.1
  ·simp[h]
  ·have h':(n==p.1)=false:=by simpa using h
   rw[h']
   simp only[mS]at ih
   simp only[Bool.false_eq_true,if_false,ih]
   cases hj:es.findIdx? fun p=>n==p.1 with
   | none=>rfl
   | some j=>simp
theorem KP{l:List Int}(h:l.length=2):l=[l.getD 0 0,l.getD 1 0]:=by
 match l,h with
 | [x,y],_=>rfl
theorem yK(hT:bK P T){t:Nat}{m ix:Operand}(ho:op.op=.lookup t m ix true){K:St->Tree}{rd:List Nat}
  (hn:den Φ (sY T s t (opnd s.sl m) (opnd s.sl ix) op.dst K) env=some o) (hs:Sat cx M N env s a.tmps w) (Q:Exit->Act->World->Prop):op.wp P a w (gh Φ K o cx rd M N s w a.defers) Q:=by
 have hmv:=hs.opnd m
 have hkv:=hs.opnd ix
 unfold sY at hn
 split at hn
 case h_2=>cases hn
 rename_i key n e hm hk hke
 split at hn
 case h_2=>cases hn
 rename_i es ie hg hie
 split at hn
 case h_2=>cases hn
 rename_i hz htwo hok
 rw[hm,svm]at hmv
 rw[hk,svm]at hkv
 obtain⟨kt,u1,u2⟩:=AF hT hke
 obtain⟨b,ents,clock,g1,g2,g3,g4⟩:=hs.objs key _ hg
 have hmv:a.eval m=.map (some b):=hmv.trans g1
 obtain⟨inf,d,z,q1,q2,q3,q4,q5,q6,q7,q8,q9⟩:=hT e ie hie
 have hzz:z=.agg #[.int .i64 0,.int .i64 0]:=by
  rw[hz]at q8
  have hlen:=congrArg List.length q8
  simp at hlen
  have hag:∃ cs,z=.agg cs:=by
   cases z<;>first|exact⟨_,rfl⟩|(simp[Value.cells]at hlen)
  obtain⟨cs,rfl⟩:=hag
  have hc:∀ v:Value,.int .i64 (.n 0)=bu v->v=.int .i64 0:=by
   intro v hv
   unfold bu at hv
   split at hv<;>cases hv
   rfl
  obtain⟨l⟩:=cs
  simp only[Value.cells]at q8 hlen
  match l,q8 with
  | [x,y],q8 =>
   simp only[List.map_cons,List.map_nil,List.cons.injEq,and_true]at q8
   rw[hc x q8.1,hc y q8.2]
 have hfind:=iB (n.den env).toInt es ents.toList 0 g4
 generalize hnn:(n.den env).toInt=nn at *
 have hall:∀ p∈es,p.2.length=2:=fun p hp=>of_decide_eq_true (List.all_eq_true.1 htwo p hp)
 have hrun:(execOp a.eval op).run P w=.ok (.value (.tuple #[.agg #[.int .i64 (ic (mS 0 es) nn),.int .i64 (ic (mS 1 es) nn)],.bool ((es.map (·.1)).any fun k=>nn==k)])) w:=by
  have hany:((es.map (·.1)).any fun k=>nn==k)=(es.findIdx? fun p=>nn==p.1).isSome:=by
   rw[List.any_map]
   cases hj:es.findIdx? fun p=>nn==p.1 with
   | none =>
    rw[List.findIdx?_eq_none_iff]at hj
    simpa using hj
   | some j =>
    have hlt:j<es.length:=(List.findIdx?_eq_some_iff_findIdx_eq.1 hj).1
    have hq:=(List.findIdx?_eq_some_iff_findIdx_eq.1 hj).2
    refine List.any_eq_true.2 ⟨es[j],List.getElem_mem hlt,?_⟩
    have:=List.findIdx_getElem (xs:=es) (p:=fun p=>nn==p.1) (w:=by rw[hq];exact hlt)
    simpa [hq] using this
  rw[hany,pm,pm]
  cases hj:es.findIdx? fun p=>nn==p.1 with
  | none =>
   rw[hj]at hfind
   simp[execOp,ho,Instr.lookup,run_underlying u1,hmv,hkv,MapKept.run_getObj_map g3,MapKept.run_checkKey u2 (k:=.int .i64 nn) rfl,MapKept.run_findKey u2 hfind,zeroValue,typeInfo,q1,q6,hzz]
  | some j =>
   rw[hj]at hfind
   have hlt:j<es.length:=(List.findIdx?_eq_some_iff_findIdx_eq.1 hj).1
   have hp:=hall _ (List.getElem_mem hlt)
   have h2:=KP hp
   simp only[List.getElem?_eq_getElem hlt,Option.map_some]at hfind
   have hm2:(Cc es[j]).2=.agg #[.int .i64 (es[j].2.getD 0 0),.int .i64 (es[j].2.getD 1 0)]:=by
    unfold Cc
    dsimp only
    rw[h2];rfl
   rw[hm2]at hfind
   simp[execOp,ho,Instr.lookup,run_underlying u1,hmv,hkv,MapKept.run_getObj_map g3,MapKept.run_checkKey u2 (k:=.int .i64 nn) rfl,MapKept.run_findKey u2 hfind,List.getElem?_eq_getElem hlt]
 rw[den,den,den]at hn
 have hnl:s.nv=env.length:=hs.nv
 have hcell:∀ ds:List C,(ci .i64 n).den (env++ds)=.int .i64 nn:=fun ds=>by
  have hno:n.all (fun i=>Nat.blt i s.nv)=true:=by
   have:=pb hok ix
   rw[hk]at this;exact this
  have hV:∀ i,Nat.blt i s.nv=true->aa (env++ds) i=aa env i:=fun i hi=>cp (by rw[<-hs.nv];exact ap hi)
  simp only[Cell.den,ci,At.den_all hV n hno,hnn]
 have hc0:=hcell []
 rw[List.append_nil]at hc0
 simp only[aK,hc0,List.append_assoc,hcell,List.cons_append,List.nil_append]at hn
 refine gL (hs.more hok [(Prim.tab (mS 0 es)).den [.int .i64 nn],(Prim.tab (mS 1 es)).den [.int .i64 nn],(Prim.has (es.map (·.1))).den [.int .i64 nn]]) hrun ?_ hn Q
 rw[svm]
 refine⟨_,rfl,?_⟩
 rw[svms]
 refine⟨_,_,rfl,?_,?_⟩
 ·rw[svm]
  refine⟨_,rfl,?_⟩
  rw[svms]
  refine⟨_,_,rfl,?_,?_⟩
  ·rw[svm,hnl]
   have:=bD env [(Prim.tab (mS 0 es)).den [.int .i64 nn],(Prim.tab (mS 1 es)).den [.int .i64 nn],(Prim.has (es.map (·.1))).den [.int .i64 nn]] 0
   simp only[At.den];rw[show env.length=env.length+0 from rfl,this];rfl
  ·rw[svms]
   refine⟨_,_,rfl,?_,by rw[svms]⟩
   rw[svm,hnl]
   have:=bD env [(Prim.tab (mS 0 es)).den [.int .i64 nn],(Prim.tab (mS 1 es)).den [.int .i64 nn],(Prim.has (es.map (·.1))).den [.int .i64 nn]] 1
   simp only[At.den];rw[this];rfl
 ·rw[svms]
  refine⟨_,_,rfl,?_,by rw[svms]⟩
  rw[svm,hnl]
  have:=bD env [(Prim.tab (mS 0 es)).den [.int .i64 nn],(Prim.tab (mS 1 es)).den [.int .i64 nn],(Prim.has (es.map (·.1))).den [.int .i64 nn]] 2
  simp only[At.den];rw[this];rfl
theorem AG(hT:bK P T){t e:Nat}(h:Cf T t=some e):∃ kt,P.underlying t=some (.map kt e)/\P.underlying kt=some .string:=by
 unfold Cf at h
 split at h
 case h_2=>cases h
 rename_i i hi
 split at h
 case h_2=>cases h
 rename_i kt e' hd
 split at h
 case h_2=>cases h
 rename_i ik hik
 split at h
 case h_2=>cases h
 rename_i hd2
 simp only[Option.some.injEq]at h;subst h
 obtain⟨inf,d,z,h1,h2,h3,h4,h5,h6,h7,h8,h9⟩:=hT t i hi
 obtain⟨inf',d',z',q1,q2,q3,q4,q5,q6,q7,q8,q9⟩:=hT kt ik hik
 rw[hd]at h9
 rw[hd2]at q9
 have h9:d=.map kt e':=h9
 have q9:d'=.string:=q9
 subst h9;subst q9
 exact⟨kt,h2,q2⟩
theorem gA(n:ByteArray):∀(es:List (ByteArray×Int)) (l:List MapEntry) (i:Nat),l.map (fun e=>(e.key,e.val))=es.map yv ->
  Instr.findNow .string (.string n) l i=some (match es.findIdx? fun p=>decide (n=p.1)with
   | some j=>(es[j]?).map fun p=>(i+j,(yv p).2)
   | none=>none)
 | [],l,i,h=>by
  cases l with
  | nil=>rfl
  | cons e l=>cases h
 | p::es,[],i,h=>by cases h
 | p::es,e::l,i,h=>by
  simp only[List.map_cons,List.cons.injEq]at h
  obtain⟨h1,h2⟩:=h
  have hk:e.key=.string p.1:=congrArg Prod.fst h1
  have hv:e.val=(yv p).2:=congrArg Prod.snd h1
  unfold Instr.findNow
  rw[hk]
  have hs:Instr.sameNow .string (.string n) (.string p.1)=some (decide (n=p.1)):=by
   simp only[Instr.sameNow,Option.some.injEq]
   exact Bool.eq_iff_iff.2 (by simp[MapKept.bytes_beq])
  rw[hs]
  by_cases hn:n=p.1
  ·have hn':decide (n=p.1)=true:=by simpa using hn
   rw[hn',hv]
   simp[List.findIdx?_cons,hn']
  ·have hn':decide (n=p.1)=false:=by simpa using hn
   rw[hn']
   dsimp only
   rw[gA n es l (i+1) h2]
   simp only[List.findIdx?_cons,hn']
   cases hj:es.findIdx? fun p=>decide (n=p.1)with
   | none=>rfl
   | some j=>simp[Nat.add_assoc,Nat.add_comm 1 j]
theorem BI{R:Nat->Prop}{key:Nat}{ob:SObj}{es:List (ByteArray×Int)}(h:z3 ob=some es)(ho:obm w M R N env key ob):obm w M R N env key (.smap es):=by
 unfold z3 at h
 split at h
 ·simp only[Option.some.injEq]at h;subst h
  exact ho
 ·simp only[Option.some.injEq]at h;subst h
  exact ho
 ·cases h
theorem uX(hT:bK P T){t:Nat}{m k x:Operand}(ho:op.op=.insert t m k x){K:St->Tree}{rd:List Nat}
  (hn:den Φ (pi T rd s t (opnd s.sl m) (opnd s.sl k) (opnd s.sl x) op.dst K) env=some o) (hs:Sat cx M N env s a.tmps w) (Q:Exit->Act->World->Prop):op.wp P a w (gh Φ K o cx rd M N s w a.defers) Q:=by
 have hmv:=hs.opnd m
 have hkv:=hs.opnd k
 have hxv:=hs.opnd x
 unfold pi at hn
 split at hn
 case h_2=>cases hn
 rename_i key z n hd hm hk hx
 split at hn
 case h_2=>cases hn
 rename_i ob e hg hke
 split at hn
 case h_2=>cases hn
 rename_i es hes
 split at hn
 case h_2=>cases hn
 rename_i hw hno
 rw[hm,svm]at hmv
 rw[hk,svm]at hkv
 rw[hx,svm]at hxv
 obtain⟨kt,u1,u2⟩:=AG hT hke
 obtain⟨b,ents,clock,g1,g2,g3,g4⟩:=BI hes (hs.objs key _ hg)
 have hkv:a.eval k=.string z:=hkv
 have hxv:a.eval x=.int .i64 n:=hxv
 have hmv:a.eval m=.map (some b):=hmv.trans g1
 have hfi:es.findIdx? (fun p=>decide (z=p.1))=none:=by
  rw[List.findIdx?_eq_none_iff]
  intro p hp
  have:=List.all_eq_true.1 hno p hp
  simp only[Bool.not_eq_true',decide_eq_false_iff_not]at this
  simpa using fun h=>this h.symm
 have hfind:=gA z es ents.toList 0 g4
 rw[hfi]at hfind
 have hrun:(execOp a.eval op).run P w=.ok .skip {w with heap:=w.heap.setIfInBounds b (.map (ents.push {key:=.string z,val:=.int .i64 n,born:=clock}) (clock+1))}:=by
  simp[execOp,ho,Instr.mapUpdate,run_underlying u1,hmv,hkv,hxv,MapKept.run_getObj_map g3,MapKept.run_checkKey u2 (k:=.string z) trivial,MapKept.run_findKey u2 hfind,MapKept.run_setObj_map _ g3]
 have hbl:b<w.heap.size:=hs.blt key _ b hg (by rw[g2];simp)
 have hoth:∀ b',b'≠b->({w with heap:=w.heap.setIfInBounds b (.map (ents.push {key:=.string z,val:=.int .i64 n,born:=clock}) (clock+1))}:World).heap[b']?=w.heap[b']?:=fun b' hb'=>by
  simp[Array.getElem?_setIfInBounds,Ne.symm hb']
 refine fl hrun ⟨_,env,M,N,hn,?_,(aX a op.dst undef).2,Fr.write hs hw hg (by rw[g2];simp) fun b' hb'=>hoth b' hb'⟩
 rw[(aX a op.dst undef).1,hd]
 refine hs.write hg (by rw[g2];simp:b∈(N key).φ) rfl rfl rfl (by simp) (fun b' hb' _=>hoth b' hb') ?_
 refine⟨b,ents.push {key:=.string z,val:=.int .i64 n,born:=clock},clock+1,g1,g2,by simp[Array.getElem?_setIfInBounds,hbl],?_⟩
 rw[Array.toList_push,List.map_append,g4,List.map_append]
 rfl
theorem vV(n:ByteArray):∀ es:List (ByteArray×Int),uj es n=match es.findIdx? fun p=>decide (n=p.1)with
   | some j=>((es[j]?).map fun p=>p.2).getD 0
   | none=>0
 | []=>rfl
 | p::es=>by
  have ih:=vV n es
  obtain⟨k,v⟩:=p
  simp only[uj,List.findIdx?_cons]
  by_cases h:n=k
  ·simp[h]
  ·have h':decide (n=k)=false:=by simpa using h
   rw[if_neg h,h']
   simp only[Bool.false_eq_true,if_false,ih]
   cases hj:es.findIdx? fun p=>decide (n=p.1)with
   | none=>rfl
   | some j=>simp
theorem uY(hT:bK P T){t:Nat}{m ix:Operand}(ho:op.op=.lookup t m ix true)(hz:∀ e,Cf T t=some e->∃ z,∀ w,(zeroValue e).run P w=.ok z w){K:St->Tree}{rd:List Nat}
  (hn:den Φ (pj T s t (opnd s.sl m) (opnd s.sl ix) op.dst K) env=some o) (hs:Sat cx M N env s a.tmps w) (Q:Exit->Act->World->Prop):op.wp P a w (gh Φ K o cx rd M N s w a.defers) Q:=by
 have hmv:=hs.opnd m
 have hkv:=hs.opnd ix
 unfold pj at hn
 split at hn
 case h_2=>cases hn
 rename_i key n e hm hk hke
 split at hn
 case h_2=>cases hn
 rename_i es hg hok
 rw[hm,svm]at hmv
 rw[hk,svm]at hkv
 obtain⟨kt,u1,u2⟩:=AG hT hke
 obtain⟨b,ents,clock,g1,g2,g3,g4⟩:=hs.objs key _ hg
 have hmv:a.eval m=.map (some b):=hmv.trans g1
 obtain⟨z,hz⟩:=hz e hke
 have hfind:=gA (n.den env).toStr es ents.toList 0 g4
 generalize hnn:(n.den env).toStr=nn at *
 have hany:((es.map (·.1)).any fun k=>decide (nn=k))=(es.findIdx? fun p=>decide (nn=p.1)).isSome:=by
  rw[List.any_map]
  cases hj:es.findIdx? fun p=>decide (nn=p.1)with
  | none =>
   rw[List.findIdx?_eq_none_iff]at hj
   simpa using hj
  | some j =>
   have hlt:j<es.length:=(List.findIdx?_eq_some_iff_findIdx_eq.1 hj).1
   have hq:=(List.findIdx?_eq_some_iff_findIdx_eq.1 hj).2
   refine List.any_eq_true.2 ⟨es[j],List.getElem_mem hlt,?_⟩
   have:=List.findIdx_getElem (xs:=es) (p:=fun p=>decide (nn=p.1)) (w:=by rw[hq];exact hlt)
   simpa [hq] using this
 rw[den,den,den]at hn
 have hnl:s.nv=env.length:=hs.nv
 have hcell:∀ ds:List C,(cs n).den (env++ds)=.str nn:=fun ds=>by
  have hno:n.all (fun i=>Nat.blt i s.nv)=true:=by
   have:=pb hok ix
   rw[hk]at this;exact this
  have hV:∀ i,Nat.blt i s.nv=true->aa (env++ds) i=aa env i:=fun i hi=>cp (by rw[<-hs.nv];exact ap hi)
  simp only[Cell.den,cs,At.den_all hV n hno,hnn]
 have hc0:=hcell []
 rw[List.append_nil]at hc0
 simp only[aK,hc0,List.append_assoc,hcell,List.cons_append,List.nil_append]at hn
 have e0:aa (env++[(Prim.tabS es).den [.str nn],(Prim.hasS (es.map (·.1))).den [.str nn]]) s.nv=.int .i64 (uj es nn):=by
  have:=bD env [(Prim.tabS es).den [.str nn],(Prim.hasS (es.map (·.1))).den [.str nn]] 0
  rw[hnl,show env.length=env.length+0 from rfl,this];rfl
 have e1:aa (env++[(Prim.tabS es).den [.str nn],(Prim.hasS (es.map (·.1))).den [.str nn]]) (s.nv+1)=.bool ((es.map (·.1)).any fun k=>decide (nn=k)):=by
  have:=bD env [(Prim.tabS es).den [.str nn],(Prim.hasS (es.map (·.1))).den [.str nn]] 1
  rw[hnl,this];rfl
 have hb:(At.den (env++[(Prim.tabS es).den [.str nn],(Prim.hasS (es.map (·.1))).den [.str nn]]) (.v (s.nv+1))).toBool=(es.findIdx? fun p=>decide (nn=p.1)).isSome:=by
  simp only[At.den,e1,C.toBool_bool,hany]
 rw[hb]at hn
 have hsm:=hs.more hok [(Prim.tabS es).den [.str nn],(Prim.hasS (es.map (·.1))).den [.str nn]]
 cases hj:es.findIdx? fun p=>decide (nn=p.1)with
 | none =>
  rw[hj]at hfind hn
  have hrun:(execOp a.eval op).run P w=.ok (.value (.tuple #[z,.bool false])) w:=by
   simp[execOp,ho,Instr.lookup,run_underlying u1,hmv,hkv,MapKept.run_getObj_map g3,MapKept.run_checkKey u2 (k:=.string nn) trivial,MapKept.run_findKey u2 hfind,hz]
  refine gL hsm hrun ?_ hn Q
  rw[svm]
  refine⟨_,rfl,?_⟩
  rw[svms]
  refine⟨_,_,rfl,by rw[svm];trivial,?_⟩
  rw[svms]
  exact⟨_,_,rfl,by rw[svm];rfl,by rw[svms]⟩
 | some j =>
  rw[hj]at hfind hn
  have hl:=vV nn es
  rw[hj]at hl
  have hlt:j<es.length:=(List.findIdx?_eq_some_iff_findIdx_eq.1 hj).1
  simp only[List.getElem?_eq_getElem hlt,Option.map_some,yv,Option.getD_some]at hfind hl
  have hrun:(execOp a.eval op).run P w=.ok (.value (.tuple #[.int .i64 (uj es nn),.bool true])) w:=by
   rw[hl]
   simp[execOp,ho,Instr.lookup,run_underlying u1,hmv,hkv,MapKept.run_getObj_map g3,MapKept.run_checkKey u2 (k:=.string nn) trivial,MapKept.run_findKey u2 hfind]
  refine gL hsm hrun ?_ hn Q
  rw[svm]
  refine⟨_,rfl,?_⟩
  rw[svms]
  refine⟨_,_,rfl,?_,?_⟩
  ·rw[svm]
   simp only[At.den,e0]
   rfl
  ·rw[svms]
   exact⟨_,_,rfl,by rw[svm];rfl,by rw[svms]⟩
theorem Sat.turn(h:Sat cx M N env s tm w){w':World}{k:Nat}{ob ob':SObj}{X':List Nat}(hg:ar s.hp k=some ob)(bm:Bmv w w' (N k).φ X')(hnd:X'.Nodup)
  (ho:obm w' M cx.R (fun j=>if j=k then {N k with φ:=X'} else N j) env k ob'):Sat cx M (fun j=>if j=k then {N k with φ:=X'} else N j) env {s with hp:=(k,ob')::cw s.hp k} tm w':=by
 let N':Nm:=fun j=>if j=k then {N k with φ:=X'} else N j
 have hk:N' k={N k with φ:=X'}:=if_pos rfl
 have hne:∀ j,j≠k->N' j=N j:=fun j hj=>if_neg hj
 have hsame:∀ j,KI.same (N' j) (N j):=fun j=>by
  by_cases e:j=k
  ·subst e;rw[hk];exact⟨rfl,rfl,rfl,rfl⟩
  ·rw[hne j e];exact KI.same.rfl' _
 have hRlt:∀ b,cx.R b->b<w.heap.size:=fun b hb=>Nat.lt_of_lt_of_le (h.rlt b hb) h.size
 have hM:∀ b,M b->M b/\w'.heap[b]?=w.heap[b]?:=fun b hb=>⟨hb,bm.old b (h.mlt b hb) fun hx=>(h.apart k ob b hg hx).1 hb⟩
 have hR:∀ b,cx.R b->w'.heap[b]?=w.heap[b]?:=fun b hb=>bm.old b (hRlt b hb) fun hx=>(h.apart k ob b hg hx).2 hb
 have cs:∀ j o,ar ((k,ob')::cw s.hp k) j=some o->(j=k/\o=ob')\/(j≠k/\ar s.hp j=some o):=fun j o hj=>by
  rw[aq]at hj
  split at hj
  ·rename_i e;simp only[Option.some.injEq]at hj;exact .inl ⟨e,hj.symm⟩
  ·rename_i e;rw[kM,if_neg e]at hj;exact .inr ⟨e,hj⟩
 refine h.step (N':=N') (K:=fun _=>true) (V:=fun _=>true) (hp:=(k,ob')::cw s.hp k) (nx:=s.nx) (nv:=s.nv) bm.os bm.tape bm.output bm.size hM hR (fun b hb=>Nat.lt_of_lt_of_le (h.mlt b hb) bm.size) (fun b hb=>.inl hb) (fun j _=>hsame j) (fun _ _=>rfl) (SV.alls_true _) (fun _ _=>rfl) h.nv ?_ ?_ ?_ ?_ ?_
 ·intro j o hj
  rcases cs j o hj with ⟨rfl,rfl⟩|⟨e,hj⟩
  ·exact ho
  ·exact obm.mono (K:=fun _=>true) (V:=fun _=>true) hM hR (fun j _=>hsame j) (fun _ _=>rfl) (hne j e) (SObj.all_true _) (fun b hb=>bm.old b (h.blt j o b hj hb) fun hx=>e (h.dist j k o ob b hj hg hb hx)) (h.objs j o hj)
 ·intro j o b hj hb
  rcases cs j o hj with ⟨rfl,rfl⟩|⟨e,hj⟩
  ·rw[hk]at hb;exact bm.lt b hb
  ·rw[hne j e]at hb;exact Nat.lt_of_lt_of_le (h.blt j o b hj hb) bm.size
 ·intro j o hj
  rcases cs j o hj with ⟨rfl,rfl⟩|⟨e,hj⟩
  ·rw[hk];exact hnd
  ·rw[hne j e];exact h.nodup j o hj
 ·intro j o b hj hb
  rcases cs j o hj with ⟨rfl,rfl⟩|⟨e,hj⟩
  ·rw[hk]at hb
   rcases bm.new b hb with hx|hx
   ·exact h.apart j ob b hg hx
   ·exact⟨fun hm=>by have:=h.mlt b hm;omega,fun hr=>by have:=hRlt b hr;omega⟩
  ·rw[hne j e]at hb;exact h.apart j o b hj hb
 ·have one:∀ j o b,j≠k->ar s.hp j=some o->b∈(N j).φ->b∉X':=fun j o b e hj hb hx=>by
   rcases bm.new b hx with hx|hx
   ·exact e (h.dist j k o ob b hj hg hb hx)
   ·have:=h.blt j o b hj hb;omega
  intro j j' o o' b hj hj' hb hb'
  rcases cs j o hj with ⟨e,_⟩|⟨e,hj⟩<;>rcases cs j' o' hj' with ⟨e',_⟩|⟨e',hj'⟩
  ·rw[e,e']
  ·rw[e,hk]at hb;rw[hne j' e']at hb';exact absurd hb (one j' o' b e' hj' hb')
  ·rw[e',hk]at hb';rw[hne j e]at hb;exact absurd hb' (one j o b e hj hb)
  ·rw[hne j e]at hb;rw[hne j' e']at hb';exact h.dist j j' o o' b hj hj' hb hb'
theorem FQ{c:Call}(ho:op.op=.call c){f:Nat}{xs:List SV}{q:Bool×Nat×Nat}{rd:List Nat}{K:St->Tree}(hB:yH P f q)(hf:dv s.sl c=some (f,xs))
  (hn:den Φ (bldT s q xs op.dst K) env=some o) (hs:Sat cx M N env s a.tmps w) (Q:Exit->Act->World->Prop):op.wp P a w (gh Φ K o cx rd M N s w a.defers) Q:=by
 obtain⟨all,hv,hall⟩:=fK hs hf
 have hrun:(execOp a.eval op).run P w=.ok (.enter f all.toArray) w:=by
  obtain⟨x,caps,e1,e2,rfl⟩:=hv
  have e3:#[]++c.args.map a.eval++caps=((c.args.toList.map a.eval)++caps.toList).toArray:=by simp
  have hen:=hB.1 (#[]++c.args.map a.eval++caps) w
  rw[<-e3]
  simp only[execOp,ho,resolve,e1,Deferred.ofValue,e2,pure_bind,invoke]
  exact hen
 have fin:∀ {s2:St} {env2:List C} {k:Nat} {T e:Nat} {a0 a1:At} {w':World} {X':List Nat} {r:Value} {x:SV} {t':ByteArray},Sat cx M N env2 s2 a.tmps w->s2.hp=s.hp->ar s.hp k=some (.bld T e a0)->(∃ ds,env2=env++ds) ->
   Bmv w w' (N k).φ X'->(N k).pre=[]->bldR w' T e (N k).v t' X'->(a1.den env2).toStr=t'->svm w' M cx.R (fun j=>if j=k then {N k with φ:=X'} else N j) env2 x r ->
   den Φ (K (ct {s2 with hp:=(k,.bld T e a1)::cw s2.hp k} op.dst x)) env2=some o->gh Φ K o cx rd M N s w a.defers (a.put op.dst r) w':=by
  intro s2 env2 k T e a0 a1 w' X' r x t' k2 hp hg he bm hpre hb ht hx hk
  have hsat:=k2.turn (ob:=.bld T e a0) (ob':=.bld T e a1) (X':=X') (by rw[hp];exact hg) bm hb.nodup (by
   rw[obm]
   simp only[if_true]
   exact⟨hpre,by rw[ht];exact hb⟩)
  refine⟨_,env2,M,fun j=>if j=k then {N k with φ:=X'} else N j,hk,?_,(aX a op.dst r).2,fun b hm=>bm.old b (hs.mlt b hm) fun hx=>(hs.apart k _ b hg hx).1 hm,fun j _ vs hj=>?_⟩
  ·rw[(aX a op.dst r).1]
   exact hsat.put op.dst hx
  ·have hjk:j≠k:=fun e=>by subst e;rw[hg]at hj;cases hj
   exact⟨by dsimp only;rw[if_neg hjk];exact KI.same.rfl' _,fun b hb=>bm.old b (hs.blt j _ b hj hb) fun hx=>hjk (hs.dist j k _ _ b hj hg hb hx)⟩
 unfold bldT at hn
 split at hn
 ·rename_i T e k b
  split at hn
  case h_2=>cases hn
  rename_i T' e' a0 hg hok
  split at hn
  case h_2=>cases hn
  rename_i hT he
  have:=br hT;subst this
  have:=br he;subst this
  rw[svms]at hall
  obtain⟨v,vs',rfl,hv1,hall⟩:=hall
  rw[svms]at hall
  obtain⟨u,us',rfl,hv2,hall⟩:=hall
  rw[svms]at hall
  subst hall
  obtain⟨hpre,hbld⟩:=hs.objs k _ hg
  rw[svm]at hv1
  obtain⟨b0,hb0,hv1⟩:=hv1
  have hvk:v=(N k).v:=by rw[hv1,hb0,hpre];rfl
  subst hvk
  rw[svm]at hv2
  subst hv2
  obtain⟨hc,hn⟩:=b9 hn
  obtain⟨ca,s2,ds,k1,k2,k3,k4,k5,_⟩:=cF hn hs
  have hle:(a0.den env).toStr.size+(b.den env).toStr.size<=aY:=by
   have hc':decide ((a0.den env).toStr.size+(b.den env).toStr.size<=aY)=true:=hc
   exact of_decide_eq_true hc'
  have hcat:(ca.den (env++ds)).toStr=(a0.den env).toStr++(b.den env).toStr:=by
   have:=k3.2.2.1
   simpa [Prim.den,aK,Cell.den,cs] using this
  have hcalls:=hB.2 w _ _ _ (b.den env).toStr hbld hle
  unfold Oper.wp
  rw[hrun,Oper.upon_enter]
  refine Calls.mono hcalls ?_
  rintro en w' ⟨X',⟨r,rfl⟩,bm,hb'⟩
  exact fin k2 k5 hg ⟨ds,rfl⟩ bm hpre hb' hcat (by rw[svm];trivial) k1
 ·rename_i T e k
  split at hn
  case h_2=>cases hn
  rename_i T' e' a0 hg hok
  split at hn
  case h_2=>cases hn
  rename_i hT he
  have:=br hT;subst this
  have:=br he;subst this
  rw[svms]at hall
  obtain⟨v,vs',rfl,hv1,hall⟩:=hall
  rw[svms]at hall
  subst hall
  obtain⟨hpre,hbld⟩:=hs.objs k _ hg
  rw[svm]at hv1
  obtain⟨b0,hb0,hv1⟩:=hv1
  have hvk:v=(N k).v:=by rw[hv1,hb0,hpre];rfl
  subst hvk
  have hcalls:=hB.2 w _ _ _ hbld
  unfold Oper.wp
  rw[hrun,Oper.upon_enter]
  refine Calls.mono hcalls ?_
  rintro en w' ⟨X',rfl,bm,hb'⟩
  exact fin hs rfl hg ⟨[],by simp⟩ bm hpre hb' rfl (by rw[svm]) hn
 ·cases hn
theorem Es{G:Env}(hG:EnvOk P G Φ){K:St->Tree}{rd:List Nat}(hn:den Φ (dOp G op s rd K) env=some o)(hs:Sat cx M N env s a.tmps w)(Q:Exit->Act->World->Prop):op.wp P a w (gh Φ K o cx rd M N s w a.defers) Q:=by
 have nfs:den Φ ((nf G.T G.eqn s op.op).tree s op.dst K) env=some o->op.wp P a w (gh Φ K o cx rd M N s w a.defers) Q:=fun h=>FN hG.tab hG.eq h hs Q
 unfold dOp at hn
 split at hn
 ·rename_i t x y ho
  split at hn
  case h_2=>cases hn
  rename_i i hd hi
  split at hn
  ·rename_i k off hx
   split at hn
   case h_2=>cases hn
   rename_i vs hg hm
   exact yD hG.tab hi ho hd hm hn hs hx hg Q
  ·rename_i k sz j off hx
   split at hn
   ·rename_i e row l ii vs hg hm
    split at hn
    case h_2=>cases hn
    rename_i hsz
    exact CS hG.tab hi ho hd hm (br hsz) hn hs hx hg Q
   ·rename_i e row l hg hm
    split at hn
    case h_2=>cases hn
    rename_i hsz
    exact CT hG.tab hi ho hd hm (br hsz) hn hs hx hg Q
   ·cases hn
  ·cases hn
 ·rename_i t len parts ho
  exact yF hG.tab ho hn hs Q
 ·rename_i t m k x ho
  split at hn
  ·exact uX hG.tab ho hn hs Q
  ·exact yJ hG.tab ho hn hs Q
 ·rename_i t m ix ho
  split at hn
  ·rename_i e he
   split at hn
   case h_2=>cases hn
   rename_i i hi
   refine uY hG.tab ho (fun e' he'=>?_) hn hs Q
   rw[he]at he';cases he'
   obtain⟨inf,d,z,q1,q2,q3,q4,q5,q6,_⟩:=hG.tab e i hi
   exact⟨z,fun w=>by simp[zeroValue,typeInfo,q1,q6]⟩
  ·exact yK hG.tab ho hn hs Q
 ·rename_i t x y ho
  exact BE hG.tab ho hn hs Q
 ·rename_i t x ho
  rw[<-ho]at hn
  split at hn
  ·rename_i k sz j off hx
   split at hn
   ·rename_i e row l ii vs i hg hi
    exact CX hG.tab hi ho hn hs hx hg Q
   ·exact nfs hn
  ·exact nfs hn
 ·rename_i t x lo hi mx ho
  rw[<-ho]at hn
  split at hn
  ·rename_i h k hx
   split at hn
   ·rename_i e row l kk n hg hh
    exact CY hG.tab ho hn hs hx hh hg Q
   ·cases hn
  ·rename_i h k hx
   split at hn
   ·rename_i e row l kk n hg hh
    exact BH hG.tab ho hn hs hx hh hg Q
   ·cases hn
  ·exact nfs hn
 ·rename_i src dst x ho
  rw[<-ho]at hn
  split at hn
  ·rename_i k hx
   exact KO hG.tab ho hn hs hx Q
  ·exact nfs hn
 ·rename_i bop t x y u ho
  rw[<-ho]at hn
  split at hn
  ·rename_i hy
   exact vU hG.tab ho (.inl ⟨rfl,rfl⟩) hn hs hy Q
  ·rename_i hy
   exact vU hG.tab ho (.inr ⟨rfl,rfl⟩) hn hs hy Q
  ·exact nfs hn
 ·rename_i c ho
  split at hn
  ·rename_i hc
   split at hn
   case h_2=>cases hn
   rename_i x y t t' hx ht
   split at hn
   case h_2=>cases hn
   rename_i hb
   have:=br hb;subst this
   have e1:c.args=#[x,y]:=by apply Array.ext';exact hx
   have e2:c.argTypes=#[t,t]:=by apply Array.ext';exact ht
   refine CU hG.tab (x:=x) (y:=y) (t:=t) ?_ hn hs Q
   rw[ho];congr 1
   cases c
   dsimp only at hc e1 e2
   rw[hc,e1,e2]
  ·split at hn
   case h_2=>cases hn
   rename_i f xs hf
   split at hn
   ·rename_i q hq
    exact FQ ho (hG.bld f q hq) hf hn hs Q
   split at hn
   case h_2=>cases hn
   rename_i fi con hc
   split at hn
   ·exact yG ho (hG.has f _ (iA hc)) hf hn hs Q
   ·exact BG ho (hG.has f _ (iA hc)) hf hn hs Q
  ·rw[<-ho]at hn;exact nfs hn
 ·exact nfs hn
end
end Dx
