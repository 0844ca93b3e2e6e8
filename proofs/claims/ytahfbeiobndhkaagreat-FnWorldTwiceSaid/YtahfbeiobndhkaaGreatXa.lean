import Derived.Great.BuildSlice
import Derived.Laws.AppendOwn
import Derived.Laws.Concat
import Derived.Laws.OwnMore
import Derived.Laws.Slices
import Derived.Laws.Strings
import Derived.Laws.Strings2
import Derived.Laws.StructEq
import Derived.Lib.FrozenHead
import Derived.Lib.SliceRun
import Derived.MapKept
import Derived.OrdersHeld
import Derived.WideMake
set_option linter.all false
namespace Dx
open Go
def aY:Nat:=1099511627776
def LCAP:Nat:=9223372036854775807
theorem En{n:Nat}(h:n<=aY):n<=LCAP:=Nat.le_trans h (by decide)
inductive C where
 | int (k:IntKind) (n:Int)
 | bool (b:Bool)
 | str (s:ByteArray)
 | list (es:List (List C))
 | hole
instance:Inhabited C:=⟨.bool false⟩
def C.toInt:C->Int
 | .int _ n=>n
 | _=>0
def C.toBool:C->Bool
 | .bool b=>b
 | _=>false
def C.toStr:C->ByteArray
 | .str s=>s
 | _=>ByteArray.empty
def C.toList:C->List (List C)
 | .list es=>es
 | _=>[]
@[simp] theorem C.toInt_int (k:IntKind) (n:Int):(C.int k n).toInt=n:=rfl
@[simp] theorem C.toBool_bool (b:Bool):(C.bool b).toBool=b:=rfl
@[simp] theorem C.toStr_str (s:ByteArray):(C.str s).toStr=s:=rfl
@[simp] theorem C.toList_list (es:List (List C)):(C.list es).toList=es:=rfl
mutual
def repC(w:World)(M:Nat->Prop):C->Value->Prop
 | .int k n,v=>v=.int k n
 | .bool b,v=>v=.bool b
 | .str s,v=>v=.string s
 | .hole,v=>v.oneCell'=true/\v.cells=#[v]
 | .list es,v=>∃ A c,v=.slice A es.length c/\es.length<=c/\es.length<=LCAP ∧
   (es=[]\/∃ b o sz arr T fr,A=some ⟨b,o,none⟩/\M b/\w.heap[b]?=some (.cells arr T fr)/\0<sz/\repRows w M sz es (arr.toList.drop o))
def repRow(w:World)(M:Nat->Prop):List C->List Value->Prop
 | [],_=>True
 | c::cs,vs=>∃ v vs',vs=v::vs'/\repC w M c v/\repRow w M cs vs'
def repRows(w:World)(M:Nat->Prop)(sz:Nat):List (List C)->List Value->Prop
 | [],_=>True
 | r::rs,vs=>r.length=sz/\repRow w M r vs/\repRows w M sz rs (vs.drop sz)
end
mutual
theorem repC.mono{w w':World}{M M':Nat->Prop}(h:∀ b,M b->M' b/\w'.heap[b]?=w.heap[b]?):∀(c:C) (v:Value),repC w M c v->repC w' M' c v
 | .int k n,v,hr=>by simpa [repC] using hr
 | .bool b,v,hr=>by simpa [repC] using hr
 | .str s,v,hr=>by simpa [repC] using hr
 | .hole,v,hr=>by simpa [repC] using hr
 | .list es,v,hr=>by
  rw[repC]at hr ⊢
  obtain⟨A,c,h1,h2,h3,h4⟩:=hr
  refine⟨A,c,h1,h2,h3,h4.imp id ?_⟩
  rintro⟨b,o,sz,arr,T,fr,hA,hM,hh,hs,hrs⟩
  exact⟨b,o,sz,arr,T,fr,hA,(h b hM).1,(h b hM).2.trans hh,hs,repRows.mono h es _ _ hrs⟩
theorem repRow.mono{w w':World}{M M':Nat->Prop}(h:∀ b,M b->M' b/\w'.heap[b]?=w.heap[b]?):∀(cs:List C) (vs:List Value),repRow w M cs vs->repRow w' M' cs vs
 | [],_,_=>by rw[repRow];trivial
 | c::cs,vs,hr=>by
  rw[repRow]at hr ⊢
  obtain⟨v,vs',rfl,h1,h2⟩:=hr
  exact⟨v,vs',rfl,repC.mono h c v h1,repRow.mono h cs vs' h2⟩
theorem repRows.mono{w w':World}{M M':Nat->Prop}(h:∀ b,M b->M' b/\w'.heap[b]?=w.heap[b]?):∀(es:List (List C)) (sz:Nat) (vs:List Value),repRows w M sz es vs->repRows w' M' sz es vs
 | [],_,_,_=>by rw[repRows];trivial
 | r::rs,sz,vs,hr=>by
  rw[repRows]at hr ⊢
  exact⟨hr.1,repRow.mono h r vs hr.2.1,repRows.mono h rs sz _ hr.2.2⟩
end
section
variable {w:World} {M:Nat->Prop}
theorem cZ(vs:List Value):repRow w M [] vs:=by rw[repRow];trivial
theorem fD(sz:Nat)(vs:List Value):repRows w M sz [] vs:=by rw[repRows];trivial
theorem jB:∀ {cs:List C} {vs:List Value},repRow w M cs vs->cs.length<=vs.length
 | [],_,_=>by simp
 | c::cs,vs,h=>by
  rw[repRow]at h
  obtain⟨v,vs',rfl,_,h2⟩:=h
  have:=jB h2
  simp;omega
theorem cq:∀ {cs:List C} {vs us:List Value},repRow w M cs vs->vs.take cs.length=us.take cs.length->repRow w M cs us
 | [],_,_,_,_=>cZ _
 | c::cs,vs,us,h,he=>by
  rw[repRow]at h ⊢
  obtain⟨v,vs',rfl,h1,h2⟩:=h
  cases us with
  | nil=>simp at he
  | cons u us' =>
   simp only[List.length_cons,List.take_succ_cons,List.cons.injEq]at he
   obtain⟨rfl,he⟩:=he
   exact⟨v,us',rfl,h1,cq h2 he⟩
theorem fE{sz:Nat}:∀ {es:List (List C)} {vs:List Value},repRows w M sz es vs->∀ {i:Nat} {r:List C},es[i]?=some r->r.length=sz/\repRow w M r (vs.drop (i*sz))
 | [],_,_,i,r,hi=>by simp at hi
 | e::es,vs,h,i,r,hi=>by
  rw[repRows]at h
  cases i with
  | zero=>simp at hi;subst hi;exact⟨h.1,by simpa using h.2.1⟩
  | succ i =>
   simp at hi
   have:=fE h.2.2 hi
   refine⟨this.1,?_⟩
   rw[List.drop_drop]at this
   rw[Nat.add_mul,Nat.one_mul,Nat.add_comm]
   exact this.2
theorem lU{sz:Nat}:∀ {es:List (List C)} {vs:List Value},repRows w M sz es vs->es.length*sz<=vs.length
 | [],_,_=>by simp
 | e::es,vs,h=>by
  rw[repRows]at h
  have h1:=lU h.2.2
  have h2:=jB h.2.1
  rw[List.length_drop]at h1
  simp only[List.length_cons,Nat.add_mul,Nat.one_mul]
  have:=h.1
  omega
theorem repRows_append{sz:Nat}:∀ {es fs:List (List C)} {vs:List Value},repRows w M sz (es++fs) vs↔repRows w M sz es vs/\repRows w M sz fs (vs.drop (es.length*sz))
 | [],fs,vs=>by simp[fD]
 | e::es,fs,vs=>by
  simp only[List.cons_append,repRows]
  rw[repRows_append,List.drop_drop]
  simp only[List.length_cons,Nat.add_mul,Nat.one_mul]
  rw[Nat.add_comm sz (es.length*sz)]
  constructor
  ·rintro⟨a,b,c,d⟩;exact⟨⟨a,b,c⟩,d⟩
  ·rintro⟨⟨a,b,c⟩,d⟩;exact⟨a,b,c,d⟩
theorem eL{sz:Nat}:∀ {es:List (List C)} {vs us:List Value},repRows w M sz es vs->vs.take (es.length*sz)=us.take (es.length*sz)->repRows w M sz es us
 | [],_,_,_,_=>fD _ _
 | e::es,vs,us,h,he=>by
  rw[repRows]at h ⊢
  obtain⟨h1,h2,h3⟩:=h
  simp only[List.length_cons,Nat.add_mul,Nat.one_mul]at he
  refine⟨h1,cq h2 ?_,eL h3 ?_⟩
  ·have:=congrArg (List.take sz) he
   simpa [List.take_take,h1,Nat.min_eq_left (Nat.le_add_left sz _)] using this
  ·have:=congrArg (List.drop sz) he
   simpa [List.drop_take] using this
theorem sj{sz:Nat}{es:List (List C)}{vs:List Value}(h:repRows w M sz es vs)(k:Nat):repRows w M sz (es.drop k) (vs.drop (k*sz)):=by
 by_cases hk:k<=es.length
 ·have h':repRows w M sz (es.take k++es.drop k) vs:=by rwa [List.take_append_drop]
  have:=(repRows_append.1 h').2
  rwa [List.length_take,Nat.min_eq_left hk]at this
 ·rw[List.drop_of_length_le (by omega)];exact fD _ _
theorem sm{sz:Nat}{es:List (List C)}{vs:List Value}(h:repRows w M sz es vs)(k:Nat):repRows w M sz (es.take k) vs:=by
 have h':repRows w M sz (es.take k++es.drop k) vs:=by rwa [List.take_append_drop]
 exact(repRows_append.1 h').1
theorem o9{c:C}{v:Value}(h:repC w M c v):v.oneCell'=true/\v.cells=#[v]:=by
 cases c<;>rw[repC]at h
 case list=>obtain⟨A,c,rfl,_⟩:=h;exact⟨rfl,rfl⟩
 case hole=>exact h
 all_goals subst h;exact⟨rfl,rfl⟩
theorem nW:∀ {cs:List C} {vs:List Value},repRow w M cs vs->∀ u∈vs.take cs.length,u.oneCell'=true
 | [],_,_,u,hu=>by simp at hu
 | c::cs,vs,h,u,hu=>by
  rw[repRow]at h
  obtain⟨v,vs',rfl,h1,h2⟩:=h
  simp only[List.length_cons,List.take_succ_cons,List.mem_cons]at hu
  rcases hu with rfl|hu
  ·exact(o9 h1).1
  ·exact nW h2 u hu
end
inductive Sh where
 | val
 | arr (e:Nat) (row:List Sh)
def blk:Value->Option Nat
 | .pointer (some a)=>some a.block
 | .slice (some a) _ _=>some a.block
 | _=>none
def rowsP(p:List C->List Value->List Nat->Prop)(n:Nat):List (List C)->List Value->List Nat->Prop
 | [],_,X=>X=[]
 | r::rs,vs,X=>∃ X1 X2,X=X1++X2/\p r (vs.take n) X1/\rowsP p n rs (vs.drop n) X2
def BIG:Nat:=1000000
def eH(e:Nat):Bool:=Nat.blt e BIG
def qa(w:World)(size:Nat)(v:Value)(n:Nat)(xs:List Value):Prop :=
 ∃ g o cap ty cur,v=.slice (some ⟨g,o,none⟩) n cap/\w.heap[g]?=some (.cells cur ty (0,0))/\n<=cap/\cap<=maxLen/\o+cap*size<=cur.size/\(cur.toList.drop o).take (n*size)=xs
def Ow(w:World)(e size:Nat)(v:Value)(n:Nat)(xs:List Value):Prop :=
 w.ownsRow 0 e size v n xs\/∃ e',e=BIG+e'/\xs.length=n*size/\((v=.slice none 0 0/\n=0)\/qa w size v n xs)
theorem Ow.own{w:World}{e size:Nat}{v:Value}{n:Nat}{xs:List Value}(he:eH e=true)(h:Ow w e size v n xs):w.ownsRow 0 e size v n xs:=by
 rcases h with h|⟨e',rfl,_⟩
 ·exact h
 ·have h1:BIG+e'+1<=BIG:=by simpa [eH,Nat.blt] using he
  omega
theorem Ow.len{w:World}{e size:Nat}{v:Value}{n:Nat}{xs:List Value}(h:Ow w e size v n xs):xs.length=n*size:=by
 rcases h with h|⟨e',_,h,_⟩
 ·exact h.1
 ·exact h
theorem Ow.slice{w:World}{e size:Nat}{v:Value}{n:Nat}{xs:List Value}(h:Ow w e size v n xs):(v=.slice none 0 0/\n=0)\/∃ g o cap ty cur,v=.slice (some ⟨g,o,none⟩) n cap/\w.heap[g]?=some (.cells cur ty (0,0))/\n<=cap/\(cur.toList.drop o).take (n*size)=xs:=by
 rcases h with h|⟨e',_,_,h⟩
 ·exact h.2.imp id fun⟨g,cap,cur,q1,_,q2,q3,q4,q5,q6⟩=>⟨g,0,cap,e,cur,q1,q2,q3,by simpa using q6⟩
 ·exact h.imp id fun⟨g,o,cap,ty,cur,q1,q2,q3,q4,q5,q6⟩=>⟨g,o,cap,ty,cur,q1,q2,q3,q6⟩
theorem Ow.keep{w w':World}{e size:Nat}{v:Value}{n:Nat}{xs:List Value}(hb:∀ b∈(blk v).toList,w'.heap[b]?=w.heap[b]?)(h:Ow w e size v n xs):Ow w' e size v n xs:=by
 rcases h with h|⟨e',h0,h1,h⟩
 ·refine .inl ⟨h.1,h.2.imp id ?_⟩
  rintro⟨g,cap,cur,e1,e2,e3,e4⟩
  exact⟨g,cap,cur,e1,e2,(hb g (by rw[e1];simp[blk])).trans e3,e4⟩
 ·refine .inr ⟨e',h0,h1,h.imp id ?_⟩
  rintro⟨g,o,cap,ty,cur,e1,e3,e4⟩
  exact⟨g,o,cap,ty,cur,e1,(hb g (by rw[e1];simp[blk])).trans e3,e4⟩
theorem Ow.weak{w:World}{e size:Nat}{v:Value}{n:Nat}{xs:List Value}(h:w.ownsRow 0 e size v n xs):Ow w (BIG+e) size v n xs :=
 .inr ⟨e,rfl,h.1,h.2.imp id fun⟨g,cap,cur,q1,_,q2,q3,q4,q5,q6⟩=>⟨g,0,cap,e,cur,q1,q2,q3,q4,by omega,by simpa using q6⟩⟩
theorem Ow.raw{w:World}{e size:Nat}{v:Value}{n:Nat}{xs:List Value}(h:Ow w e size v n xs):(v=.slice none 0 0/\n=0)\/qa w size v n xs:=by
 rcases h with h|⟨e',_,_,h⟩
 ·exact h.2.imp id fun⟨g,cap,cur,q1,_,q2,q3,q4,q5,q6⟩=>⟨g,0,cap,e,cur,q1,q2,q3,q4,by omega,by simpa using q6⟩
 ·exact h
mutual
def shC(w:World)(M:Nat->Prop):Sh->C->Value->List Nat->Prop
 | .val,c,v,X=>X=[]/\repC w M c v
 | .arr e row,c,v,X=>∃ es vals X',c=.list es/\X=(blk v).toList++X'/\Ow w e row.length v es.length vals/\rowsP (shR w M row) row.length es vals X'/\0<row.length/\es.length<=aY
def shR(w:World)(M:Nat->Prop):List Sh->List C->List Value->List Nat->Prop
 | [],cs,vs,X=>cs=[]/\vs=[]/\X=[]
 | sh::shs,cs,vs,X=>∃ c cs' v vs' X1 X2,cs=c::cs'/\vs=v::vs'/\X=X1++X2/\shC w M sh c v X1/\shR w M shs cs' vs' X2
end
theorem rowsP.mono{p q:List C->List Value->List Nat->Prop}{n:Nat}:∀ {es:List (List C)} {vs:List Value} {X:List Nat} (_:∀ r us Y,(∀ b∈Y,b∈X)->p r us Y->q r us Y),rowsP p n es vs X->rowsP q n es vs X
 | [],_,_,_,hp=>hp
 | r::rs,vs,X,h,hp=>by
  obtain⟨X1,X2,rfl,h1,h2⟩:=hp
  exact⟨X1,X2,rfl,h r _ X1 (fun b hb=>List.mem_append_left _ hb) h1,rowsP.mono (fun r us Y hY hh=>h r us Y (fun b hb=>List.mem_append_right _ (hY b hb)) hh) h2⟩
mutual
theorem shC.mono{w w':World}{M M':Nat->Prop}(hM:∀ b,M b->M' b/\w'.heap[b]?=w.heap[b]?):∀(sh:Sh) (c:C) (v:Value) (X:List Nat),(∀ b∈X,w'.heap[b]?=w.heap[b]?)->shC w M sh c v X->shC w' M' sh c v X
 | .val,c,v,X,_,h=>by rw[shC]at h ⊢;exact⟨h.1,repC.mono hM _ _ h.2⟩
 | .arr e row,c,v,X,hX,h=>by
  rw[shC]at h ⊢
  obtain⟨es,vals,X',h1,h2,h3,h4,h5,h6⟩:=h
  refine⟨es,vals,X',h1,h2,h3.keep fun b hb=>hX b ?_,?_,h5,h6⟩
  ·rw[h2];exact List.mem_append_left _ hb
  ·refine rowsP.mono (fun r us Y hY hh=>shR.mono hM row r us Y (fun b hb=>hX b ?_) hh) h4
   rw[h2];exact List.mem_append_right _ (hY b hb)
theorem shR.mono{w w':World}{M M':Nat->Prop}(hM:∀ b,M b->M' b/\w'.heap[b]?=w.heap[b]?):∀(shs:List Sh) (cs:List C) (vs:List Value) (X:List Nat),(∀ b∈X,w'.heap[b]?=w.heap[b]?)->shR w M shs cs vs X->shR w' M' shs cs vs X
 | [],cs,vs,X,_,h=>by rw[shR]at h ⊢;exact h
 | sh::shs,cs,vs,X,hX,h=>by
  rw[shR]at h ⊢
  obtain⟨c,cs',v,vs',X1,X2,e1,e2,e3,h1,h2⟩:=h
  subst e3
  exact⟨c,cs',v,vs',X1,X2,e1,e2,rfl,shC.mono hM sh c v X1 (fun b hb=>hX b (List.mem_append_left _ hb)) h1,shR.mono hM shs cs' vs' X2 (fun b hb=>hX b (List.mem_append_right _ hb)) h2⟩
end
section
variable {w:World} {M:Nat->Prop}
theorem cD:∀ {shs:List Sh} {cs:List C} {vs:List Value} {X:List Nat},shR w M shs cs vs X->cs.length=shs.length/\vs.length=shs.length
 | [],cs,vs,X,h=>by rw[shR]at h;obtain⟨rfl,rfl,rfl⟩:=h;exact⟨rfl,rfl⟩
 | sh::shs,cs,vs,X,h=>by
  rw[shR]at h
  obtain⟨c,cs',v,vs',X1,X2,rfl,rfl,rfl,h1,h2⟩:=h
  have:=cD h2
  simp[this.1,this.2]
mutual
theorem shC.rep{Z:Nat->Prop}(hM:∀ b,M b->Z b):∀(sh:Sh) (c:C) (v:Value) (X:List Nat),(∀ b∈X,Z b)->shC w M sh c v X->repC w Z c v
 | .val,c,v,X,_,h=>by rw[shC]at h;exact repC.mono (fun b hb=>⟨hM b hb,rfl⟩) _ _ h.2
 | .arr e row,c,v,X,hX,h=>by
  rw[shC]at h
  obtain⟨es,vals,X',rfl,rfl,h3,h4,h5,h6⟩:=h
  rw[repC]
  rcases h3.slice with ⟨q1,q2⟩|⟨g,o,cap,e0,cur,q1,q2,q3,q6⟩
  ·have:es=[]:=List.eq_nil_of_length_eq_zero q2
   subst this
   exact⟨none,0,q1,by simp,(En h6),.inl rfl⟩
  ·refine⟨_,cap,q1,q3,(En h6),.inr ⟨g,o,row.length,cur,e0,(0,0),rfl,hX g (by rw[q1];exact List.mem_append_left _ (by simp[blk])),q2,h5,?_⟩⟩
   have key:∀ {es:List (List C)} {vs:List Value} {Y:List Nat},(∀ b∈Y,Z b)->rowsP (shR w M row) row.length es vs Y->repRows w Z row.length es vs:=by
    intro es
    induction es with
    | nil=>intro vs Y _ _;exact fD _ _
    | cons r rs ih =>
     intro vs Y hY hh
     obtain⟨X1,X2,rfl,g1,g2⟩:=hh
     rw[repRows]
     have g3:=shR.rep hM row r _ X1 (fun b hb=>hY b (List.mem_append_left _ hb)) g1
     have g4:=cD g1
     refine⟨g4.1,cq g3 ?_,ih (fun b hb=>hY b (List.mem_append_right _ hb)) g2⟩
     rw[g4.1,List.take_take,Nat.min_self]
   refine eL (key (fun b hb=>hX b (List.mem_append_right _ hb)) h4) ?_
   rw[<-q6,List.take_take,Nat.min_self]
theorem shR.rep{Z:Nat->Prop}(hM:∀ b,M b->Z b):∀(shs:List Sh) (cs:List C) (vs:List Value) (X:List Nat),(∀ b∈X,Z b)->shR w M shs cs vs X->repRow w Z cs vs
 | [],cs,vs,X,_,h=>by rw[shR]at h;obtain⟨rfl,rfl,rfl⟩:=h;exact cZ _
 | sh::shs,cs,vs,X,hX,h=>by
  rw[shR]at h
  obtain⟨c,cs',v,vs',X1,X2,rfl,rfl,rfl,h1,h2⟩:=h
  rw[repRow]
  exact⟨v,vs',rfl,shC.rep hM sh c v X1 (fun b hb=>hX b (List.mem_append_left _ hb)) h1,shR.rep hM shs cs' vs' X2 (fun b hb=>hX b (List.mem_append_right _ hb)) h2⟩
end
theorem dn{p:List C->List Value->List Nat->Prop}{n:Nat}:∀ {es fs:List (List C)} {vs:List Value} {X Y:List Nat},rowsP p n es vs X->rowsP p n fs (vs.drop (es.length*n)) Y->rowsP p n (es++fs) vs (X++Y)
 | [],fs,vs,X,Y,h1,h2=>by
  have:X=[]:=h1
  subst this
  simpa using h2
 | r::rs,fs,vs,X,Y,h1,h2=>by
  obtain⟨X1,X2,rfl,g1,g2⟩:=h1
  refine⟨X1,X2++Y,by simp,g1,dn g2 ?_⟩
  rw[List.drop_drop]
  simpa [Nat.add_mul,Nat.add_comm] using h2
theorem co{p:List C->List Value->List Nat->Prop}{n:Nat}:∀ {es fs:List (List C)} {vs:List Value} {Z:List Nat},rowsP p n (es++fs) vs Z->∃ X Y,Z=X++Y/\rowsP p n es vs X/\rowsP p n fs (vs.drop (es.length*n)) Y
 | [],fs,vs,Z,h=>⟨[],Z,rfl,rfl,by simpa using h⟩
 | r::rs,fs,vs,Z,h=>by
  obtain⟨X1,X2,rfl,g1,g2⟩:=h
  obtain⟨X,Y,rfl,k1,k2⟩:=co g2
  refine⟨X1++X,Y,by simp,⟨X1,X,rfl,g1,k1⟩,?_⟩
  rw[List.drop_drop]at k2
  simpa [Nat.add_mul,Nat.add_comm] using k2
theorem cH{p:List C->List Value->List Nat->Prop}{n:Nat}:∀ {es:List (List C)} {vs us:List Value} {X:List Nat},rowsP p n es vs X->vs.take (es.length*n)=us.take (es.length*n)->rowsP p n es us X
 | [],_,_,_,h,_=>h
 | r::rs,vs,us,X,h,he=>by
  obtain⟨X1,X2,rfl,g1,g2⟩:=h
  simp only[List.length_cons,Nat.add_mul,Nat.one_mul]at he
  have e1:vs.take n=us.take n:=by
   have:=congrArg (List.take n) he
   simpa [List.take_take,Nat.min_eq_left (Nat.le_add_left n _)] using this
  refine⟨X1,X2,rfl,e1 ▸ g1,cH g2 ?_⟩
  have:=congrArg (List.drop n) he
  simpa [List.drop_take] using this
theorem sN{shs:List Sh}{cs:List C}{vs:List Value}{X:List Nat}(h:shR w M shs cs vs X):∀ u∈vs,u.oneCell'=true:=by
 have h1:=nW (shR.rep (Z:=fun _=>True) (fun _ _=>trivial) shs cs vs X (fun _ _=>trivial) h)
 have:=cD h
 intro u hu
 refine h1 u ?_
 rw[this.1,<-this.2,List.take_length];exact hu
end
end Dx
namespace Dx
open Go
inductive At where
 | v (i:Nat)
 | n (z:Int)
 | b (x:Bool)
 | s (x:ByteArray)
 | e
 deriving DecidableEq
def aa:List C->Nat->C
 | [],_=>.bool false
 | x::_,0=>x
 | _::l,n+1=>aa l n
def At.den(env:List C):At->C
 | .v i=>aa env i
 | .n z=>.int .i64 z
 | .b x=>.bool x
 | .s x=>.str x
 | .e=>.list []
inductive CK where
 | int (k:IntKind)
 | bool
 | str
 | list
 | hole
 deriving DecidableEq
structure Cell where
 k:CK
 a:At
 deriving DecidableEq
def Cell.den(env:List C)(x:Cell):C :=
 match x.k with
 | .int k=>.int k (x.a.den env).toInt
 | .bool=>.bool (x.a.den env).toBool
 | .str=>.str (x.a.den env).toStr
 | .list=>.list (x.a.den env).toList
 | .hole=>.hole
def aK(env:List C):List Cell->List C
 | []=>[]
 | x::xs=>x.den env::aK env xs
inductive SV where
 | any
 | int (k:IntKind) (a:At)
 | bool (a:At)
 | str (a:At)
 | fn (f:Nat) (caps:List SV)
 | view (t:Bool) (a:At)
 | nil
 | sl (key:Nat)
 | ptr (key off:Nat)
 | eptr (key sz:Nat) (i:At) (off:Nat)
 | vptr (t:Bool) (cells:List SV)
 | nilptr
 | blob
 | agg (vs:List SV)
 | tuple (vs:List SV)
instance:Inhabited SV:=⟨.any⟩
inductive SObj where
 | cells (vs:List SV)
 | arr (e:Nat) (row:List Sh) (l:At)
 | foc (e:Nat) (row:List Sh) (l i:At) (vs:List SV)
 | map (es:List (Int×List Int))
 | smap (es:List (ByteArray×Int))
 | bld (T e:Nat) (a:At)
def MR(M R:Nat->Prop):Bool->Nat->Prop
 | true,b=>M b
 | false,b=>M b\/R b
structure KI where
 v:Value
 pre:List Value
 post:List Value
 ty:Nat
 φ:List Nat
instance:Inhabited KI:=⟨⟨undef,[],[],0,[]⟩⟩
abbrev Nm:=Nat->KI
def KI.same(a b:KI):Prop:=a.v=b.v/\a.pre=b.pre/\a.post=b.post/\a.ty=b.ty
theorem KI.same.rfl'(a:KI):KI.same a a:=⟨rfl,rfl,rfl,rfl⟩
theorem KI.same.of{a b:KI}(h:a=b):KI.same a b:=h ▸ KI.same.rfl' a
mutual
def svm(w:World)(M R:Nat->Prop)(N:Nm)(env:List C):SV->Value->Prop
 | .any,_=>True
 | .int k a,v=>v=.int k (a.den env).toInt
 | .bool a,v=>v=.bool (a.den env).toBool
 | .str a,v=>v=.string (a.den env).toStr
 | .fn f caps,v=>∃ cs,v=.func (.func f) #[] cs/\svms w M R N env caps cs.toList
 | .view t a,v=>repC w (MR M R t) (.list (a.den env).toList) v
 | .nil,v=>v=.slice none 0 0
 | .sl key,v=>v=(N key).v
 | .ptr key off,v=>∃ b,(N key).v=.pointer (some ⟨b,(N key).pre.length,none⟩)/\v=.pointer (some ⟨b,(N key).pre.length+off,none⟩)
 | .eptr key sz i off,v=>∃ g n cap j,(N key).v=.slice (some ⟨g,0,none⟩) n cap/\(i.den env).toInt=(j:Nat)/\j<n/\v=.pointer (some ⟨g,j*sz+off,none⟩)
 | .vptr t cells,v=>∃ b o arr T fr,v=.pointer (some ⟨b,o,none⟩)/\MR M R t b/\w.heap[b]?=some (.cells arr T fr)/\svms w M R N env cells ((arr.toList.drop o).take cells.length)
 | .nilptr,v=>v=.pointer none
 | .blob,v=>v.oneCell'=true/\v.cells=#[v]
 | .agg vs,v=>∃ cs,v=.agg cs/\svms w M R N env vs cs.toList
 | .tuple vs,v=>∃ cs,v=.tuple cs/\svms w M R N env vs cs.toList
def svms(w:World)(M R:Nat->Prop)(N:Nm)(env:List C):List SV->List Value->Prop
 | [],vs=>vs=[]
 | x::xs,vs=>∃ v vs',vs=v::vs'/\svm w M R N env x v/\svms w M R N env xs vs'
end
def At.all(V:Nat->Bool):At->Bool
 | .v i=>V i
 | _=>true
mutual
def SV.all(K V:Nat->Bool):SV->Bool
 | .any|.nil|.nilptr|.blob=>true
 | .int _ a|.bool a|.str a|.view _ a=>a.all V
 | .sl k|.ptr k _=>K k
 | .eptr k _ i _=>K k && i.all V
 | .fn _ vs|.agg vs|.tuple vs|.vptr _ vs=>SV.alls K V vs
def SV.alls(K V:Nat->Bool):List SV->Bool
 | []=>true
 | x::xs=>x.all K V && SV.alls K V xs
end
def SObj.all(K V:Nat->Bool):SObj->Bool
 | .cells vs=>SV.alls K V vs
 | .arr _ _ l=>l.all V
 | .foc _ _ l i vs=>l.all V && (i.all V && SV.alls K V vs)
 | .map _=>true
 | .smap _=>true
 | .bld _ _ a=>a.all V
mutual
theorem SV.all_true:∀ x:SV,x.all (fun _=>true) (fun _=>true)=true
 | .any|.nil|.nilptr|.blob|.sl _|.ptr _ _=>rfl
 | .int _ a|.bool a|.str a|.view _ a=>by cases a<;>rfl
 | .eptr _ _ a _=>by cases a<;>rfl
 | .fn _ vs|.agg vs|.tuple vs|.vptr _ vs=>SV.alls_true vs
theorem SV.alls_true:∀ xs:List SV,SV.alls (fun _=>true) (fun _=>true) xs=true
 | []=>rfl
 | x::xs=>by simp[SV.alls,SV.all_true x,SV.alls_true xs]
end
theorem ap{k n:Nat}(h:Nat.blt k n=true):k<n:=by
 have:k+1<=n:=by simpa [Nat.blt] using h
 omega
theorem el{k n:Nat}(h:k<n):Nat.blt k n=true:=by
 have:k+1<=n:=h
 simpa [Nat.blt] using this
theorem br{a b:Nat}(h:Nat.beq a b=true):a=b:=Nat.eq_of_beq_eq_true h
theorem mR{a b:Nat}(h:Nat.ble a b=true):a<=b:=Nat.le_of_ble_eq_true h
theorem At.den_all{V:Nat->Bool}{env env':List C}(hV:∀ i,V i=true->aa env' i=aa env i):∀ a:At,a.all V=true->a.den env'=a.den env
 | .v i,h=>hV i h
 | .n _,_|.b _,_|.s _,_|.e,_=>rfl
theorem MR.mono{M M' R:Nat->Prop}{w w':World}(hM:∀ b,M b->M' b/\w'.heap[b]?=w.heap[b]?)(hR:∀ b,R b->w'.heap[b]?=w.heap[b]?)(t:Bool):∀ b,MR M R t b->MR M' R t b/\w'.heap[b]?=w.heap[b]?:=fun b hb=>by
 cases t with
 | true=>exact hM b hb
 | false=>exact hb.elim (fun h=>⟨.inl (hM b h).1,(hM b h).2⟩) (fun h=>⟨.inr h,hR b h⟩)
mutual
theorem svm.mono{w w':World}{M M' R:Nat->Prop}{N N':Nm}{env env':List C}{K V:Nat->Bool}(hM:∀ b,M b->M' b/\w'.heap[b]?=w.heap[b]?)(hR:∀ b,R b->w'.heap[b]?=w.heap[b]?)
  (hN:∀ k,K k=true->KI.same (N' k) (N k)) (hV:∀ i,V i=true->aa env' i=aa env i):∀(x:SV) (v:Value),x.all K V=true->svm w M R N env x v->svm w' M' R N' env' x v
 | .any,_,_,_=>by rw[svm];trivial
 | .int _ a,_,hl,h=>by rw[svm]at h ⊢;rw[At.den_all hV a hl];exact h
 | .bool a,_,hl,h=>by rw[svm]at h ⊢;rw[At.den_all hV a hl];exact h
 | .str a,_,hl,h=>by rw[svm]at h ⊢;rw[At.den_all hV a hl];exact h
 | .fn f caps,v,hl,h=>by
  rw[svm]at h ⊢;obtain⟨cs,h1,h2⟩:=h
  exact⟨cs,h1,svms.mono hM hR hN hV caps _ hl h2⟩
 | .view t a,v,hl,h=>by
  rw[svm]at h ⊢
  rw[At.den_all hV a hl]
  exact repC.mono (MR.mono hM hR t) _ _ h
 | .nil,_,_,h=>by rw[svm]at h ⊢;exact h
 | .sl k,_,hl,h=>by rw[svm]at h ⊢;rw[(hN k hl).1];exact h
 | .ptr k _,_,hl,h=>by rw[svm]at h ⊢;rw[(hN k hl).1,(hN k hl).2.1];exact h
 | .eptr k _ i _,_,hl,h=>by
  have hl':K k=true/\i.all V=true:=by simpa [SV.all] using hl
  rw[svm]at h ⊢;rw[(hN k hl'.1).1,At.den_all hV i hl'.2];exact h
 | .vptr t cells,v,hl,h=>by
  rw[svm]at h ⊢
  obtain⟨b,o,arr,T,fr,h1,h2,h3,h4⟩:=h
  have key:=MR.mono hM hR t
  exact⟨b,o,arr,T,fr,h1,(key b h2).1,(key b h2).2.trans h3,svms.mono hM hR hN hV cells _ hl h4⟩
 | .nilptr,_,_,h=>by rw[svm]at h ⊢;exact h
 | .blob,_,_,h=>by rw[svm]at h ⊢;exact h
 | .agg vs,v,hl,h=>by
  rw[svm]at h ⊢;obtain⟨cs,h1,h2⟩:=h
  exact⟨cs,h1,svms.mono hM hR hN hV vs _ hl h2⟩
 | .tuple vs,v,hl,h=>by
  rw[svm]at h ⊢;obtain⟨cs,h1,h2⟩:=h
  exact⟨cs,h1,svms.mono hM hR hN hV vs _ hl h2⟩
theorem svms.mono{w w':World}{M M' R:Nat->Prop}{N N':Nm}{env env':List C}{K V:Nat->Bool}(hM:∀ b,M b->M' b/\w'.heap[b]?=w.heap[b]?)(hR:∀ b,R b->w'.heap[b]?=w.heap[b]?)
  (hN:∀ k,K k=true->KI.same (N' k) (N k)) (hV:∀ i,V i=true->aa env' i=aa env i):∀(xs:List SV) (vs:List Value),SV.alls K V xs=true->svms w M R N env xs vs->svms w' M' R N' env' xs vs
 | [],_,_,h=>by rw[svms]at h ⊢;exact h
 | x::xs,vs,hl,h=>by
  rw[svms]at h ⊢
  obtain⟨v,vs',h1,h2,h3⟩:=h
  have hl':x.all K V=true/\SV.alls K V xs=true:=by simpa [SV.alls] using hl
  exact⟨v,vs',h1,svm.mono hM hR hN hV x v hl'.1 h2,svms.mono hM hR hN hV xs vs' hl'.2 h3⟩
end
theorem svm.keep{w w':World}{M M' R:Nat->Prop}{N:Nm}{env:List C}(hM:∀ b,M b->M' b/\w'.heap[b]?=w.heap[b]?)(hR:∀ b,R b->w'.heap[b]?=w.heap[b]?){x:SV}{v:Value}(h:svm w M R N env x v):svm w' M' R N env x v :=
 svm.mono hM hR (fun _ _=>KI.same.rfl' _) (fun _ _=>rfl) x v (SV.all_true x) h
theorem svms.keep{w w':World}{M M' R:Nat->Prop}{N:Nm}{env:List C}(hM:∀ b,M b->M' b/\w'.heap[b]?=w.heap[b]?)(hR:∀ b,R b->w'.heap[b]?=w.heap[b]?){xs:List SV}{vs:List Value}(h:svms w M R N env xs vs):svms w' M' R N env xs vs :=
 svms.mono hM hR (fun _ _=>KI.same.rfl' _) (fun _ _=>rfl) xs vs (SV.alls_true xs) h
section
variable {w:World} {M R:Nat->Prop} {N:Nm} {env:List C}
theorem i7(v:Value):svm w M R N env .any v:=by rw[svm];trivial
theorem bb:∀ {xs:List SV} {vs:List Value},svms w M R N env xs vs->vs.length=xs.length
 | [],_,h=>by rw[svms]at h;subst h;rfl
 | x::xs,vs,h=>by
  rw[svms]at h;obtain⟨v,vs',rfl,_,h2⟩:=h
  simp[bb h2]
theorem ee{xs:List SV}{vs:List Value}(h:svms w M R N env xs vs){i:Nat}{x:SV}(hi:xs[i]?=some x):∃ v,vs[i]?=some v/\svm w M R N env x v:=by
 induction xs generalizing vs i with
 | nil=>simp at hi
 | cons y xs ih =>
  rw[svms]at h;obtain⟨v,vs',rfl,h1,h2⟩:=h
  cases i with
  | zero=>simp at hi;subst hi;exact⟨v,by simp,h1⟩
  | succ i=>simp at hi ⊢;exact ih h2 hi
theorem bS:∀ {xs ys:List SV} {vs us:List Value},svms w M R N env xs vs->svms w M R N env ys us->svms w M R N env (xs++ys) (vs++us)
 | [],_,_,_,h,h'=>by rw[svms]at h;subst h;exact h'
 | x::xs,ys,vs,us,h,h'=>by
  rw[svms]at h;obtain⟨v,vs',rfl,h1,h2⟩:=h
  simp only[List.cons_append];rw[svms]
  exact⟨v,vs'++us,rfl,h1,bS h2 h'⟩
theorem dM:∀ {xs:List SV} {vs:List Value} (k:Nat),svms w M R N env xs vs->svms w M R N env (xs.drop k) (vs.drop k)
 | [],_,k,h=>by rw[svms]at h;subst h;simp[svms]
 | x::xs,vs,0,h=>by simpa using h
 | x::xs,vs,k+1,h=>by
  rw[svms]at h;obtain⟨v,vs',rfl,h1,h2⟩:=h
  simpa using dM k h2
theorem dN:∀ {xs:List SV} {vs:List Value} (k:Nat),svms w M R N env xs vs->svms w M R N env (xs.take k) (vs.take k)
 | [],_,k,h=>by rw[svms]at h;subst h;simp[svms]
 | x::xs,vs,0,h=>by simp[svms]
 | x::xs,vs,k+1,h=>by
  rw[svms]at h;obtain⟨v,vs',rfl,h1,h2⟩:=h
  simp only[List.take_succ_cons];rw[svms]
  exact⟨v,_,rfl,h1,dN k h2⟩
theorem vy:∀ {xs:List SV} {vs:List Value} {k:Nat} {x:SV} {v:Value},svms w M R N env xs vs->svm w M R N env x v->svms w M R N env (xs.set k x) (vs.set k v)
 | [],_,k,x,v,h,_=>by rw[svms]at h;subst h;simp[svms]
 | y::xs,vs,0,x,v,h,hx=>by
  rw[svms]at h;obtain⟨u,vs',rfl,h1,h2⟩:=h
  simp only[List.set_cons_zero];rw[svms];exact⟨v,vs',rfl,hx,h2⟩
 | y::xs,vs,k+1,x,v,h,hx=>by
  rw[svms]at h;obtain⟨u,vs',rfl,h1,h2⟩:=h
  simp only[List.set_cons_succ];rw[svms];exact⟨u,_,rfl,h1,vy h2 hx⟩
end
def Cc(p:Int×List Int):Value×Value:=(.int .i64 p.1,.agg (p.2.map (Value.int .i64)).toArray)
def yv(p:ByteArray×Int):Value×Value:=(.string p.1,.int .i64 p.2)
def bldR(w:World)(T e:Nat)(v:Value)(s:ByteArray)(X:List Nat):Prop :=
 ∃ b p sv,v=.pointer (some ⟨b,0,none⟩)/\(p=.pointer none\/p=v)/\w.heap[b]?=some (.cells #[p,sv] T (0,0))/\w.ownsRowF 0 e 1 sv s.size (Lib.strCells s)/\sv.ownBlock≠some b/\X=b::sv.ownBlock.toList
theorem bldR.keep{w w':World}{T e:Nat}{v:Value}{s:ByteArray}{X:List Nat}(hX:∀ b∈X,w'.heap[b]?=w.heap[b]?)(h:bldR w T e v s X):bldR w' T e v s X:=by
 obtain⟨b,p,sv,h1,h2,h3,h4,h5,rfl⟩:=h
 refine⟨b,p,sv,h1,h2,(hX b (by simp)).trans h3,⟨h4.1,h4.2.imp id ?_⟩,h5,rfl⟩
 rintro⟨g,cap,cur,fz,e1,e2,e3,e4⟩
 exact⟨g,cap,cur,fz,e1,e2,(hX g (by rw[e1];simp[Value.ownBlock])).trans e3,e4⟩
theorem bldR.nodup{w:World}{T e:Nat}{v:Value}{s:ByteArray}{X:List Nat}(h:bldR w T e v s X):X.Nodup:=by
 obtain⟨b,p,sv,h1,h2,h3,h4,h5,rfl⟩:=h
 cases hv:sv.ownBlock with
 | none=>simp
 | some g=>simp;intro e;subst e;exact h5 hv
def obm(w:World)(M R:Nat->Prop)(N:Nm)(env:List C)(key:Nat):SObj->Prop
 | .cells vs=>∃ b arr us,(N key).v=.pointer (some ⟨b,(N key).pre.length,none⟩)/\(N key).φ=[b]/\w.heap[b]?=some (.cells arr (N key).ty (0,0))/\arr.toList=(N key).pre++us++(N key).post/\svms w M R N env vs us
 | .arr e row l=>shC w M (.arr e row) (.list (l.den env).toList) (N key).v (N key).φ
 | .foc e row l i vs=>∃ vals X1 X2 j es,(l.den env).toList=es/\(i.den env).toInt=(j:Nat)/\j<es.length/\(N key).φ=(blk (N key).v).toList++(X1++X2)/\w.ownsRow 0 e row.length (N key).v es.length vals ∧
   rowsP (shR w M row) row.length (es.take j) vals X1/\svms w M R N env vs ((vals.drop (j*row.length)).take row.length)/\vs.length=row.length/\rowsP (shR w M row) row.length (es.drop (j+1)) (vals.drop ((j+1)*row.length)) X2 ∧
   0<row.length/\es.length<=aY
 | .map es=>∃ b ents clock,(N key).v=.map (some b)/\(N key).φ=[b]/\w.heap[b]?=some (.map ents clock)/\ents.toList.map (fun e=>(e.key,e.val))=es.map Cc
 | .smap es=>∃ b ents clock,(N key).v=.map (some b)/\(N key).φ=[b]/\w.heap[b]?=some (.map ents clock)/\ents.toList.map (fun e=>(e.key,e.val))=es.map yv
 | .bld T e a=>(N key).pre=[]/\bldR w T e (N key).v (a.den env).toStr (N key).φ
structure St where
 sl:List SV
 hp:List (Nat×SObj)
 nx:Nat
 nv:Nat
 pk:List Nat
def cr:List SV->Nat->SV
 | [],_=>.any
 | x::_,0=>x
 | _::l,n+1=>cr l n
def vz:List SV->Nat->SV->List SV
 | [],_,_=>[]
 | _::l,0,v=>v::l
 | x::l,n+1,v=>x::vz l n v
def ar:List (Nat×SObj)->Nat->Option SObj
 | [],_=>none
 | (k',o)::r,k=>match Nat.beq k k' with
  | true=>some o
  | false=>ar r k
def cw:List (Nat×SObj)->Nat->List (Nat×SObj)
 | [],_=>[]
 | (k',o)::r,k=>match Nat.beq k k' with
  | true=>cw r k
  | false=>(k',o)::cw r k
theorem gS(l:List SV)(d:Nat)(v:SV):vz l d v=l.set d v:=by
 induction l generalizing d with
 | nil=>rfl
 | cons x l ih=>cases d with
  | zero=>rfl
  | succ d=>simp[vz,ih]
theorem ef(l:List SV)(n:Nat):cr l n=(l[n]?).getD .any:=by
 induction l generalizing n with
 | nil=>simp[cr]
 | cons x l ih=>cases n with
  | zero=>simp[cr]
  | succ n=>simp[cr,ih]
theorem vA(l:List SV)(d n:Nat)(v:SV):cr (l.set d v) n=if n=d/\d<l.length then v else cr l n:=by
 rw[ef,ef,List.getElem?_set]
 split
 ·rename_i h;subst h
  split
  ·simp_all
  ·rename_i h2;simp only[true_and,h2,if_false];rw[List.getElem?_eq_none (by omega)]
 ·rename_i h;rw[if_neg (by omega)]
theorem kM(hp:List (Nat×SObj))(k j:Nat):ar (cw hp k) j=if j=k then none else ar hp j:=by
 induction hp with
 | nil=>simp[cw,ar]
 | cons x hp ih =>
  obtain⟨k',o⟩:=x
  simp only[cw]
  cases h:Nat.beq k k' with
  | true =>
   have:k=k':=Nat.eq_of_beq_eq_true h
   subst this
   simp only[ih,ar]
   split
   ·rfl
   ·rename_i hne
    have:Nat.beq j k=false:=by cases h2:Nat.beq j k with
     | true=>exact absurd (Nat.eq_of_beq_eq_true h2) hne
     | false=>rfl
    rw[this]
  | false =>
   simp only[ar,ih]
   cases h2:Nat.beq j k' with
   | true =>
    have e1:j=k':=Nat.eq_of_beq_eq_true h2
    have:j≠k:=fun e=>by
     have hbb:=Nat.ne_of_beq_eq_false h
     exact hbb (by omega)
    simp[this]
   | false=>rfl
theorem aq(hp:List (Nat×SObj))(k j:Nat)(o:SObj):ar ((k,o)::hp) j=if j=k then some o else ar hp j:=by
 simp only[ar]
 cases h:Nat.beq j k with
 | true=>simp[Nat.eq_of_beq_eq_true h]
 | false=>simp[Nat.ne_of_beq_eq_false h]
theorem vC{hp:List (Nat×SObj)}{k:Nat}{o:SObj}(h:ar hp k=some o):(k,o)∈hp:=by
 induction hp with
 | nil=>cases h
 | cons x r ih =>
  obtain⟨k',o'⟩:=x
  rw[aq]at h
  split at h
  ·rename_i e;simp only[Option.some.injEq]at h;subst h;subst e;exact List.mem_cons_self
  ·exact List.mem_cons_of_mem _ (ih h)
def bq(K V:Nat->Bool):List (Nat×SObj)->Bool
 | []=>true
 | (k,o)::r=>K k && (o.all K V && bq K V r)
def nX(K:Nat->Bool):List Nat->Bool
 | []=>true
 | k::r=>K k && nX K r
def St.ok(s:St):Bool:=SV.alls (fun k=>Nat.blt k s.nx) (fun i=>Nat.blt i s.nv) s.sl && (bq (fun k=>Nat.blt k s.nx) (fun i=>Nat.blt i s.nv) s.hp && nX (fun k=>Nat.blt k s.nx) s.pk)
structure Ctx where
 w0:World
 R:Nat->Prop
 M0:Nat->Prop
 pin:List (Nat×KI)
 E0:List C
structure Sat (cx:Ctx) (M:Nat->Prop) (N:Nm) (env:List C) (s:St) (tm:Array Value) (w:World):Prop where
 os:w.os=cx.w0.os
 tape:w.tape=cx.w0.tape
 output:w.output=cx.w0.output
 size:cx.w0.heap.size<=w.heap.size
 frame:∀ b,cx.R b->w.heap[b]?=cx.w0.heap[b]?
 rlt:∀ b,cx.R b->b<cx.w0.heap.size
 mlt:∀ b,M b->b<w.heap.size
 mto:∀ b,cx.M0 b->M b
 mfrom:∀ b,M b->cx.M0 b\/¬ cx.R b
 pin:∀ p,p∈cx.pin->p.1∈s.pk/\KI.same (N p.1) p.2
 pre:∃ ds,env=cx.E0++ds
 nv:s.nv=env.length
 slen:s.sl.length=tm.size
 slots:∀ k,svm w M cx.R N env (cr s.sl k) (tm.getD k undef)
 objs:∀ k o,ar s.hp k=some o->obm w M cx.R N env k o
 blt:∀ k o b,ar s.hp k=some o->b∈(N k).φ->b<w.heap.size
 nodup:∀ k o,ar s.hp k=some o->(N k).φ.Nodup
 apart:∀ k o b,ar s.hp k=some o->b∈(N k).φ->¬ M b/\¬ cx.R b
 dist:∀ k k' o o' b,ar s.hp k=some o->ar s.hp k'=some o'->b∈(N k).φ->b∈(N k').φ->k=k'
end Dx
namespace Dx
open Go
section
variable {cx:Ctx} {M M':Nat->Prop} {N N':Nm} {env env':List C} {s:St} {tm:Array Value} {w w':World}
theorem sq{e size n:Nat}{v:Value}{xs:List Value}(hb:∀ b,blk v=some b->w'.heap[b]?=w.heap[b]?)(h:w.ownsRow 0 e size v n xs):w'.ownsRow 0 e size v n xs:=by
 refine⟨h.1,h.2.imp id ?_⟩
 rintro⟨g,cap,cur,e1,e2,e3,e4⟩
 exact⟨g,cap,cur,e1,e2,(hb g (by rw[e1];rfl)).trans e3,e4⟩
theorem obm.mono{R:Nat->Prop}{K V:Nat->Bool}{k:Nat}{o:SObj}(hM:∀ b,M b->M' b/\w'.heap[b]?=w.heap[b]?)(hR:∀ b,R b->w'.heap[b]?=w.heap[b]?)
  (hN:∀ k,K k=true->KI.same (N' k) (N k)) (hV:∀ i,V i=true->aa env' i=aa env i) (hk:N' k=N k) (ho:o.all K V=true) (hb:∀ b∈(N k).φ,w'.heap[b]?=w.heap[b]?) (h:obm w M R N env k o):obm w' M' R N' env' k o:=by
 cases o with
 | cells vs =>
  obtain⟨b,arr,us,h1,h2,h3,h4,h5⟩:=h
  rw[obm,hk]
  exact⟨b,arr,us,h1,h2,(hb b (by rw[h2];simp)).trans h3,h4,svms.mono hM hR hN hV vs _ ho h5⟩
 | arr e row l =>
  rw[obm]at h ⊢
  rw[hk,At.den_all hV l ho]
  exact shC.mono hM _ _ _ _ hb h
 | foc e row l i vs =>
  have ho':l.all V=true/\i.all V=true/\SV.alls K V vs=true:=by simpa [SObj.all] using ho
  obtain⟨vals,X1,X2,j,es,h1,h2,h3,h4,h5,h6,h7,h8,h9,h10,h11⟩:=h
  rw[obm,hk,At.den_all hV l ho'.1,At.den_all hV i ho'.2.1]
  refine⟨vals,X1,X2,j,es,h1,h2,h3,h4,sq (fun b hb'=>hb b ?_) h5,?_,svms.mono hM hR hN hV vs _ ho'.2.2 h7,h8,?_,h10,h11⟩
  ·rw[h4,hb'];simp
  ·exact rowsP.mono (fun r us Y hY hh=>shR.mono hM row r us Y (fun b hb'=>hb b (by rw[h4];exact List.mem_append_right _ (List.mem_append_left _ (hY b hb')))) hh) h6
  ·exact rowsP.mono (fun r us Y hY hh=>shR.mono hM row r us Y (fun b hb'=>hb b (by rw[h4];exact List.mem_append_right _ (List.mem_append_right _ (hY b hb')))) hh) h9
 | map es =>
  obtain⟨b,ents,clock,h1,h2,h3,h4⟩:=h
  rw[obm,hk]
  exact⟨b,ents,clock,h1,h2,(hb b (by rw[h2];simp)).trans h3,h4⟩
 | smap es =>
  obtain⟨b,ents,clock,h1,h2,h3,h4⟩:=h
  rw[obm,hk]
  exact⟨b,ents,clock,h1,h2,(hb b (by rw[h2];simp)).trans h3,h4⟩
 | bld T e a =>
  rw[obm]at h ⊢
  rw[hk,At.den_all hV a ho]
  exact⟨h.1,h.2.keep hb⟩
mutual
theorem SV.all_mono{K V V':Nat->Bool}(hV:∀ i,V i=true->V' i=true):∀ x:SV,x.all K V=true->x.all K V'=true
 | .any,_|.nil,_|.nilptr,_|.blob,_=>rfl
 | .int _ a,h|.bool a,h|.str a,h|.view _ a,h=>by cases a<;>first|rfl|exact hV _ h
 | .sl _,h|.ptr _ _,h=>h
 | .eptr k _ i _,h=>by
  have h':K k=true/\i.all V=true:=by simpa [SV.all] using h
  have:i.all V'=true:=by cases i<;>first|rfl|exact hV _ h'.2
  simp[SV.all,h'.1,this]
 | .fn _ vs,h|.agg vs,h|.tuple vs,h|.vptr _ vs,h=>SV.alls_mono hV vs h
theorem SV.alls_mono{K V V':Nat->Bool}(hV:∀ i,V i=true->V' i=true):∀ xs:List SV,SV.alls K V xs=true->SV.alls K V' xs=true
 | [],_=>rfl
 | x::xs,h=>by
  have h':x.all K V=true/\SV.alls K V xs=true:=by simpa [SV.alls] using h
  simp[SV.alls,SV.all_mono hV x h'.1,SV.alls_mono hV xs h'.2]
end
theorem SV.alls_mono'{K V:Nat->Bool}{xs:List SV}(h:SV.alls K V xs=true):SV.alls K (fun _=>true) xs=true:=SV.alls_mono (fun _ _=>rfl) xs h
theorem aD{K V:Nat->Bool}:∀ {hp:List (Nat×SObj)},bq K V hp=true->∀ {k:Nat} {o:SObj},ar hp k=some o->K k=true/\o.all K V=true
 | [],_,k,o,hg=>by cases hg
 | (k',o')::r,h,k,o,hg=>by
  have h':K k'=true/\o'.all K V=true/\bq K V r=true:=by simpa [bq] using h
  rw[aq]at hg
  split at hg
  ·rename_i e;subst e;simp only[Option.some.injEq]at hg;subst hg;exact⟨h'.1,h'.2.1⟩
  ·exact aD h'.2.2 hg
theorem At.all_mono{V V':Nat->Bool}(hV:∀ i,V i=true->V' i=true)(a:At)(h:a.all V=true):a.all V'=true:=by
 cases a<;>first|rfl|exact hV _ h
theorem SObj.all_mono{K V V':Nat->Bool}(hV:∀ i,V i=true->V' i=true)(o:SObj)(h:o.all K V=true):o.all K V'=true:=by
 cases o with
 | cells vs=>exact SV.alls_mono hV vs h
 | arr e row l=>exact At.all_mono hV l h
 | foc e row l i vs =>
  have h':l.all V=true/\i.all V=true/\SV.alls K V vs=true:=by simpa [SObj.all] using h
  simp[SObj.all,At.all_mono hV l h'.1,At.all_mono hV i h'.2.1,SV.alls_mono hV vs h'.2.2]
 | map es=>rfl
 | smap es=>rfl
 | bld T e a=>exact At.all_mono hV a h
theorem nY{K V V':Nat->Bool}(hV:∀ i,V i=true->V' i=true):∀ {hp:List (Nat×SObj)},bq K V hp=true->bq K V' hp=true
 | [],_=>rfl
 | (k,o)::r,h=>by
  have h':K k=true/\o.all K V=true/\bq K V r=true:=by simpa [bq] using h
  simp[bq,h'.1,SObj.all_mono hV o h'.2.1,nY hV h'.2.2]
theorem lv{K V:Nat->Bool}{j:Nat}:∀ {hp:List (Nat×SObj)},bq K V hp=true->bq K V (cw hp j)=true
 | [],_=>rfl
 | (k,o)::r,h=>by
  have h':K k=true/\o.all K V=true/\bq K V r=true:=by simpa [bq] using h
  simp only[cw]
  split
  ·exact lv h'.2.2
  ·simp[bq,h'.1,h'.2.1,lv h'.2.2]
theorem gc{K:Nat->Bool}:∀ {pk:List Nat},nX K pk=true->∀ {k:Nat},k∈pk->K k=true
 | [],_,k,hk=>by simp at hk
 | j::r,h,k,hk=>by
  have h':K j=true/\nX K r=true:=by simpa [nX] using h
  rcases List.mem_cons.1 hk with rfl|hk
  ·exact h'.1
  ·exact gc h'.2 hk
theorem pa{K V:Nat->Bool}:∀ {xs:List SV},SV.alls K V xs=true->∀ i,(cr xs i).all K V=true
 | [],_,i=>by simp[cr,SV.all]
 | x::xs,h,i=>by
  have hl':x.all K V=true/\SV.alls K V xs=true:=by simpa [SV.alls] using h
  cases i with
  | zero=>exact hl'.1
  | succ i=>exact pa hl'.2 i
theorem Sat.step(h:Sat cx M N env s tm w){K V:Nat->Bool}{hp:List (Nat×SObj)}{nx nv:Nat}(hos:w'.os=w.os)(htape:w'.tape=w.tape)(hout:w'.output=w.output)(hsz:w.heap.size<=w'.heap.size)
  (hM:∀ b,M b->M' b/\w'.heap[b]?=w.heap[b]?) (hR:∀ b,cx.R b->w'.heap[b]?=w.heap[b]?) (hMl:∀ b,M' b->b<w'.heap.size) (hMf:∀ b,M' b->M b\/¬ cx.R b)
  (hN:∀ k,K k=true->KI.same (N' k) (N k)) (hV:∀ i,V i=true->aa env' i=aa env i) (hsl:SV.alls K V s.sl=true) (hpk:∀ k,k∈s.pk->K k=true) (hnv:nv=env'.length)
  (hobj:∀ k o,ar hp k=some o->obm w' M' cx.R N' env' k o) (hbl:∀ k o b,ar hp k=some o->b∈(N' k).φ->b<w'.heap.size) (hnd:∀ k o,ar hp k=some o->(N' k).φ.Nodup)
  (hap:∀ k o b,ar hp k=some o->b∈(N' k).φ->¬ M' b/\¬ cx.R b)
  (hd:∀ k k' o o' b,ar hp k=some o->ar hp k'=some o'->b∈(N' k).φ->b∈(N' k').φ->k=k') (hpre:∃ ds,env'=env++ds:=by exact⟨[],(List.append_nil _).symm⟩) :
  Sat cx M' N' env' {s with hp:=hp,nx:=nx,nv:=nv} tm w' where
 os:=hos.trans h.os
 tape:=htape.trans h.tape
 output:=hout.trans h.output
 size:=Nat.le_trans h.size hsz
 frame:=fun b hb=>(hR b hb).trans (h.frame b hb)
 rlt:=h.rlt
 mlt:=hMl
 mto:=fun b hb=>(hM b (h.mto b hb)).1
 mfrom:=fun b hb=>(hMf b hb).elim (h.mfrom b) .inr
 pin:=fun p hp=>by
  have h1:=h.pin p hp
  have h2:=hN p.1 (hpk _ h1.1)
  exact⟨h1.1,h2.1.trans h1.2.1,h2.2.1.trans h1.2.2.1,h2.2.2.1.trans h1.2.2.2.1,h2.2.2.2.trans h1.2.2.2.2⟩
 pre:=by
  obtain⟨ds,h1⟩:=h.pre
  obtain⟨ds',h2⟩:=hpre
  exact⟨ds++ds',by rw[h2,h1,List.append_assoc]⟩
 nv:=hnv
 slen:=h.slen
 slots:=fun k=>svm.mono hM hR hN hV _ _ (pa hsl k) (h.slots k)
 objs:=hobj
 blt:=hbl
 nodup:=hnd
 apart:=hap
 dist:=hd
def ct(s:St)(d:Option Tmp)(v:SV):St:=match d with
 | some d=>{s with sl:=vz s.sl d v}
 | none=>s
theorem Sat.put(h:Sat cx M N env s tm w)(d:Option Tmp){x:SV}{v:Value}(hx:svm w M cx.R N env x v) :
  Sat cx M N env (ct s d x) (match d with|some d=>tm.setIfInBounds d v|none=>tm) w:=by
 cases d with
 | none=>exact h
 | some d =>
  exact {h with
   slen:=by simp[ct,gS,h.slen]
   slots:=fun k=>by
    show svm w M cx.R N env (cr (vz s.sl d x) k) _
    rw[gS,vA]
    split
    ·rename_i hk
     obtain⟨rfl,hd⟩:=hk
     have:k<tm.size:=by rw[<-h.slen];exact hd
     simpa [Array.getD,this] using hx
    ·rename_i hk
     have:=h.slots k
     by_cases hkd:k=d
     ·subst hkd
      have hlt:¬ k<s.sl.length:=fun h=>hk ⟨rfl,h⟩
      rw[ef,List.getElem?_eq_none (by omega)]
      exact i7 _
     ·simpa [Array.getElem?_setIfInBounds_ne (Ne.symm hkd)] using this}
theorem cp{l r:List C}{i:Nat}(h:i<l.length):aa (l++r) i=aa l i:=by
 induction l generalizing i with
 | nil=>simp at h
 | cons x l ih=>cases i with
  | zero=>rfl
  | succ i=>exact ih (by simpa using h)
theorem bD(l r:List C)(i:Nat):aa (l++r) (l.length+i)=aa r i:=by
 induction l with
 | nil=>simp
 | cons x l ih=>simp only[List.length_cons,List.cons_append];rw[Nat.add_right_comm];exact ih
theorem St.ok_parts(hok:s.ok=true):SV.alls (fun k=>Nat.blt k s.nx) (fun i=>Nat.blt i s.nv) s.sl=true/\bq (fun k=>Nat.blt k s.nx) (fun i=>Nat.blt i s.nv) s.hp=true/\nX (fun k=>Nat.blt k s.nx) s.pk=true:=by
 simpa [St.ok] using hok
theorem St.ok_rem(hok:s.ok=true)(k:Nat):St.ok {s with hp:=cw s.hp k}=true:=by
 obtain⟨o1,o2,o3⟩:=St.ok_parts hok
 show (SV.alls _ _ s.sl && (bq _ _ (cw s.hp k) && nX _ s.pk))=true
 rw[o1,o3,lv o2];rfl
theorem St.ok_more(hok:s.ok=true)(n:Nat):St.ok {s with nv:=s.nv+n}=true:=by
 obtain⟨o1,o2,o3⟩:=St.ok_parts hok
 have mono:∀ i,Nat.blt i s.nv=true->Nat.blt i (s.nv+n)=true:=fun i hi=>el (by have:=ap hi;omega)
 show (SV.alls _ _ s.sl && (bq _ _ s.hp && nX _ s.pk))=true
 rw[SV.alls_mono mono _ o1,o3,nY mono o2];rfl
theorem Sat.more(h:Sat cx M N env s tm w)(hok:s.ok=true)(ds:List C):Sat cx M N (env++ds) {s with nv:=s.nv+ds.length} tm w:=by
 obtain⟨o1,o2,o3⟩:=St.ok_parts hok
 have hV:∀ i,Nat.blt i s.nv=true->aa (env++ds) i=aa env i:=fun i hi=>cp (by rw[<-h.nv];exact ap hi)
 refine h.step (hp:=s.hp) (nx:=s.nx) rfl rfl rfl (Nat.le_refl _) (fun _ hb=>⟨hb,rfl⟩) (fun _ _=>rfl) h.mlt (fun _ hb=>.inl hb) (fun _ _=>KI.same.rfl' _) hV o1 (fun k hk=>gc o3 hk) (by simp[h.nv]) ?_ h.blt h.nodup h.apart h.dist (hpre:=⟨ds,rfl⟩)
 intro k o hg
 have:=aD o2 hg
 exact obm.mono (fun _ hb=>⟨hb,rfl⟩) (fun _ _=>rfl) (fun _ _=>KI.same.rfl' _) hV rfl this.2 (fun _ _=>rfl) (h.objs k o hg)
def ip(N:Nm)(key:Nat)(ki:KI):Nm:=fun k=>if k=key then ki else N k
theorem aO(N:Nm){key k:Nat}(ki:KI)(h:k<key):ip N key ki k=N k:=by unfold ip;rw[if_neg (by omega)]
theorem aR(N:Nm)(key:Nat)(ki:KI):ip N key ki key=ki:=by unfold ip;rw[if_pos rfl]
theorem Sat.alloc(h:Sat cx M N env s tm w)(hok:s.ok=true)(ob:Obj)(ki:KI)(hφ:ki.φ=[w.heap.size]\/ki.φ=[])(o:SObj)
  (hob:obm (w.alloc ob) M cx.R (ip N s.nx ki) env s.nx o) :
  Sat cx M (ip N s.nx ki) env {s with hp:=(s.nx,o)::s.hp,nx:=s.nx+1} tm (w.alloc ob):=by
 obtain⟨o1,o2,o3⟩:=St.ok_parts hok
 have hold:∀ b,b<w.heap.size->(w.alloc ob).heap[b]?=w.heap[b]?:=fun b hb=>heap_alloc_old w ob b hb
 have hRlt:∀ b,cx.R b->b<w.heap.size:=fun b hb=>Nat.lt_of_lt_of_le (h.rlt b hb) h.size
 have hN:∀ k,Nat.blt k s.nx=true->KI.same (ip N s.nx ki k) (N k):=fun k hk=>KI.same.of (aO N ki (ap hk))
 have hsz:(w.alloc ob).heap.size=w.heap.size+1:=by simp
 refine h.step rfl rfl rfl (by omega) (fun b hb=>⟨hb,hold b (h.mlt b hb)⟩) (fun b hb=>hold b (hRlt b hb)) (fun b hb=>by have:=h.mlt b hb;omega) (fun _ hb=>.inl hb) hN (fun _ _=>rfl) o1 (fun k hk=>gc o3 hk) h.nv ?_ ?_ ?_ ?_ ?_
 ·intro k o' hg
  rw[aq]at hg
  split at hg
  ·rename_i hkk;subst hkk;simp only[Option.some.injEq]at hg;subst hg;exact hob
  ·have hlt:=aD o2 hg
   exact obm.mono (fun b hb=>⟨hb,hold b (h.mlt b hb)⟩) (fun b hb=>hold b (hRlt b hb)) hN (fun _ _=>rfl) (aO N ki (ap hlt.1)) hlt.2 (fun b hb=>hold b (h.blt k o' b hg hb)) (h.objs k o' hg)
 ·intro k o' b hg hb
  rw[aq]at hg
  split at hg
  ·rename_i hkk;subst hkk;rw[aR]at hb;rcases hφ with e|e<;>rw[e]at hb<;>simp at hb;omega
  ·have hlt:=aD o2 hg
   rw[aO N ki (ap hlt.1)]at hb
   have:=h.blt k o' b hg hb;omega
 ·intro k o' hg
  rw[aq]at hg
  split at hg
  ·rename_i hkk;subst hkk;rw[aR];rcases hφ with e|e<;>rw[e]<;>simp
  ·have hlt:=aD o2 hg
   rw[aO N ki (ap hlt.1)];exact h.nodup k o' hg
 ·intro k o' b hg hb
  rw[aq]at hg
  split at hg
  ·rename_i hkk;subst hkk
   rw[aR]at hb
   have:b=w.heap.size:=by rcases hφ with e|e<;>rw[e]at hb<;>simpa using hb
   subst this
   exact⟨fun hm=>by have:=h.mlt _ hm;omega,fun hm=>by have:=hRlt _ hm;omega⟩
  ·have hlt:=aD o2 hg
   rw[aO N ki (ap hlt.1)]at hb
   exact h.apart k o' b hg hb
 ·intro k k' o1' o2' b h1 h2 hb1 hb2
  have new:∀ k o' b,ar s.hp k=some o'->b∈(ip N s.nx ki k).φ->b∈ki.φ->False:=fun k o' b hg hb hb'=>by
   have hlt:=aD o2 hg
   rw[aO N ki (ap hlt.1)]at hb
   have:=h.blt k o' b hg hb
   have:b=w.heap.size:=by rcases hφ with e|e<;>rw[e]at hb'<;>simpa using hb'
   omega
  rw[aq]at h1 h2
  split at h1<;>split at h2
  ·omega
  ·rename_i e1 e2
   subst e1;rw[aR]at hb1;exact(new k' o2' b h2 hb2 hb1).elim
  ·rename_i e1 e2
   subst e2;rw[aR]at hb2;exact(new k o1' b h1 hb1 hb2).elim
  ·have l1:=aD o2 h1
   have l2:=aD o2 h2
   rw[aO N ki (ap l1.1)]at hb1
   rw[aO N ki (ap l2.1)]at hb2
   exact h.dist k k' o1' o2' b h1 h2 hb1 hb2
theorem Sat.write(h:Sat cx M N env s tm w){key:Nat}{o o':SObj}{b:Nat}(hg:ar s.hp key=some o)(hb:b∈(N key).φ)(hos:w'.os=w.os)(htape:w'.tape=w.tape)(hout:w'.output=w.output)
  (hsz:w.heap.size<=w'.heap.size) (hoth:∀ b',b'≠b->b'<w.heap.size->w'.heap[b']?=w.heap[b']?) (hob:obm w' M cx.R N env key o') :
  Sat cx M N env {s with hp:=(key,o')::cw s.hp key} tm w':=by
 have hap:=h.apart key o b hg hb
 have hRlt:∀ b,cx.R b->b<w.heap.size:=fun b hb=>Nat.lt_of_lt_of_le (h.rlt b hb) h.size
 have hMw:∀ b',M b'->M b'/\w'.heap[b']?=w.heap[b']?:=fun b' hb'=>⟨hb',hoth b' (fun e=>hap.1 (e ▸ hb')) (h.mlt b' hb')⟩
 have hRw:∀ b',cx.R b'->w'.heap[b']?=w.heap[b']?:=fun b' hb'=>hoth b' (fun e=>hap.2 (e ▸ hb')) (hRlt b' hb')
 have old:∀ k o1,ar ((key,o')::cw s.hp key) k=some o1->∃ o2,ar s.hp k=some o2:=fun k o1 hk=>by
  rw[aq,kM]at hk
  split at hk
  ·rename_i e;subst e;exact⟨o,hg⟩
  ·exact⟨o1,hk⟩
 refine h.step (K:=fun _=>true) (V:=fun _=>true) (nx:=s.nx) (nv:=s.nv) hos htape hout hsz hMw hRw (fun b hb=>Nat.lt_of_lt_of_le (h.mlt b hb) hsz) (fun _ hb=>.inl hb) (fun _ _=>KI.same.rfl' _) (fun _ _=>rfl) (SV.alls_true _) (fun _ _=>rfl) h.nv ?_ ?_ ?_ ?_ ?_
 ·intro k o1 hk
  rw[aq,kM]at hk
  split at hk
  ·rename_i e;subst e;simp only[Option.some.injEq]at hk;subst hk;exact hob
  ·rename_i e
   refine obm.mono (K:=fun _=>true) (V:=fun _=>true) hMw hRw (fun _ _=>KI.same.rfl' _) (fun _ _=>rfl) rfl ?_ (fun b1 hb1=>hoth b1 (fun e1=>e (h.dist k key o1 o b hk hg (e1 ▸ hb1) hb)) (h.blt k o1 b1 hk hb1)) (h.objs k o1 hk)
   cases o1 with
   | cells vs=>exact SV.alls_true vs
   | arr e row l=>cases l<;>rfl
   | foc e row l i vs=>cases l<;>cases i<;>simp[SObj.all,At.all,SV.alls_true]
   | map es=>rfl
   | smap es=>rfl
   | bld T e a=>cases a<;>rfl
 ·intro k o1 b1 hk hb1
  obtain⟨o2,h2⟩:=old k o1 hk
  exact Nat.lt_of_lt_of_le (h.blt k o2 b1 h2 hb1) hsz
 ·intro k o1 hk
  obtain⟨o2,h2⟩:=old k o1 hk
  exact h.nodup k o2 h2
 ·intro k o1 b1 hk hb1
  obtain⟨o2,h2⟩:=old k o1 hk
  exact h.apart k o2 b1 h2 hb1
 ·intro k k' o1 o2 b1 h1 h2 hb1 hb2
  obtain⟨o3,h3⟩:=old k o1 h1
  obtain⟨o4,h4⟩:=old k' o2 h2
  exact h.dist k k' o3 o4 b1 h3 h4 hb1 hb2
theorem SObj.all_true(o:SObj):o.all (fun _=>true) (fun _=>true)=true:=by
 cases o with
 | cells vs=>exact SV.alls_true vs
 | arr e row l=>cases l<;>rfl
 | foc e row l i vs=>cases l<;>cases i<;>simp[SObj.all,At.all,SV.alls_true]
 | map es=>rfl
 | smap es=>rfl
 | bld T e a=>cases a<;>rfl
theorem Sat.drew(h:Sat cx M N env s tm w)(n:Nat):Sat cx M N env s tm {w with drawn:=n} :=
 {h with
  slots:=fun k=>svm.keep (w:=w) (w':={w with drawn:=n}) (fun _ hb=>⟨hb,rfl⟩) (fun _ _=>rfl) (h.slots k)
  objs:=fun k o hg=>obm.mono (w:=w) (w':={w with drawn:=n}) (K:=fun _=>true) (V:=fun _=>true) (fun _ hb=>⟨hb,rfl⟩) (fun _ _=>rfl) (fun _ _=>KI.same.rfl' _) (fun _ _=>rfl) rfl (SObj.all_true o) (fun _ _=>rfl) (h.objs k o hg)}
theorem Sat.less(h:Sat cx M N env s tm w){hp:List (Nat×SObj)}(hl:∀ k o,ar hp k=some o->ar s.hp k=some o):Sat cx M N env {s with hp:=hp} tm w :=
 {h with
  objs:=fun k o hg=>h.objs k o (hl k o hg)
  blt:=fun k o b hg hb=>h.blt k o b (hl k o hg) hb
  nodup:=fun k o hg=>h.nodup k o (hl k o hg)
  apart:=fun k o b hg hb=>h.apart k o b (hl k o hg) hb
  dist:=fun k k' o o' b h1 h2=>h.dist k k' o o' b (hl k o h1) (hl k' o' h2)}
theorem fF(xs ys:List (Nat×SObj))(k:Nat):ar (xs++ys) k=match ar xs k with|some o=>some o|none=>ar ys k:=by
 induction xs with
 | nil=>rfl
 | cons x xs ih =>
  obtain⟨j,o⟩:=x
  simp only[List.cons_append]
  rw[aq,aq]
  split
  ·rfl
  ·exact ih
theorem Sat.joinO(h:Sat cx M N env s tm w)(hok:s.ok=true){objs:List (Nat×SObj)}{nx:Nat}{X:List Nat}(hN:∀ k,Nat.blt k s.nx=true->KI.same (N' k) (N k))(hNe:∀ k o,ar s.hp k=some o->N' k=N k)
  (hnew:∀ k o,ar objs k=some o->obm w M cx.R N' env k o/\(N' k).φ.Nodup/\∀ b∈(N' k).φ,b∈X) (hX:∀ b∈X,¬ M b/\¬ cx.R b/\b<w.heap.size/\∀ k o,ar s.hp k=some o->b∉(N k).φ)
  (hdist:∀ k k' o o' b,ar objs k=some o->ar objs k'=some o'->b∈(N' k).φ->b∈(N' k').φ->k=k'):Sat cx M N' env {s with hp:=objs++s.hp,nx:=nx} tm w:=by
 obtain⟨o1,o2,o3⟩:=St.ok_parts hok
 have cases':∀ k o,ar (objs++s.hp) k=some o->ar objs k=some o\/ar s.hp k=some o:=fun k o hg=>by
  rw[fF]at hg
  split at hg
  ·rename_i o' e;exact .inl (e.trans hg)
  ·exact .inr hg
 refine h.step (K:=fun k=>Nat.blt k s.nx) (V:=fun _=>true) (nv:=s.nv) rfl rfl rfl (Nat.le_refl _) (fun _ hb=>⟨hb,rfl⟩) (fun _ _=>rfl) h.mlt (fun _ hb=>.inl hb) hN (fun _ _=>rfl) (SV.alls_mono' o1) (fun k hk=>gc o3 hk) h.nv ?_ ?_ ?_ ?_ ?_
 ·intro k o hg
  rcases cases' k o hg with h1|h1
  ·exact(hnew k o h1).1
  ·exact obm.mono (K:=fun k=>Nat.blt k s.nx) (V:=fun i=>Nat.blt i s.nv) (fun _ hb=>⟨hb,rfl⟩) (fun _ _=>rfl) hN (fun _ _=>rfl) (hNe k o h1) (aD o2 h1).2 (fun _ _=>rfl) (h.objs k o h1)
 ·intro k o b hg hb
  rcases cases' k o hg with h1|h1
  ·exact(hX b ((hnew k o h1).2.2 b hb)).2.2.1
  ·rw[hNe k o h1]at hb;exact h.blt k o b h1 hb
 ·intro k o hg
  rcases cases' k o hg with h1|h1
  ·exact(hnew k o h1).2.1
  ·rw[hNe k o h1];exact h.nodup k o h1
 ·intro k o b hg hb
  rcases cases' k o hg with h1|h1
  ·have:=hX b ((hnew k o h1).2.2 b hb);exact⟨this.1,this.2.1⟩
  ·rw[hNe k o h1]at hb;exact h.apart k o b h1 hb
 ·intro k k' o o' b h1 h2 hb1 hb2
  rcases cases' k o h1 with g1|g1<;>rcases cases' k' o' h2 with g2|g2
  ·exact hdist k k' o o' b g1 g2 hb1 hb2
  ·rw[hNe k' o' g2]at hb2
   exact absurd hb2 ((hX b ((hnew k o g1).2.2 b hb1)).2.2.2 k' o' g2)
  ·rw[hNe k o g1]at hb1
   exact absurd hb1 ((hX b ((hnew k' o' g2).2.2 b hb2)).2.2.2 k o g1)
  ·rw[hNe k o g1]at hb1
   rw[hNe k' o' g2]at hb2
   exact h.dist k k' o o' b g1 g2 hb1 hb2
theorem ay{hp:List (Nat×SObj)}{k j:Nat}{o:SObj}(h:ar (cw hp k) j=some o):ar hp j=some o/\j≠k:=by
 rw[kM]at h
 split at h
 ·cases h
 ·rename_i e;exact⟨h,e⟩
end
end Dx
namespace Dx
open Go
inductive Prim where
 | add (k:IntKind)|sub (k:IntKind)|mul (k:IntKind)|quo (k:IntKind)|rem (k:IntKind)|xor (k:IntKind)|conv (k:IntKind)
 | eqI|neI|ltI|leI|gtI|geI|nz
 | not|eqB|neB|pickB
 | min (k:IntKind)|max (k:IntKind)
 | eqs (n:Nat)|nes (n:Nat)
 | len|slen|idx|upto|fits|mkOk
 | mkl (sz:Nat)|app|take|drop|setr (off:Nat)|setw|rep
 | rowsk (ks:List CK)
 | eqS|neS|cat|catOk|sidx|byteAt|isNil|ofBytes|supto|sub3|sfrom|dropS
 | uptok (ks:List CK)
 | tab (es:List (Int×Int))|has (ks:List Int)
 | tabS (es:List (ByteArray×Int))|hasS (ks:List ByteArray)
 deriving DecidableEq
def ep:IntKind->IntKind->Bool
 | .i8,.i8|.i16,.i16|.i32,.i32|.i64,.i64|.u8,.u8|.u16,.u16|.u32,.u32|.u64,.u64=>true
 | _,_=>false
theorem cQ{a b:IntKind}(h:ep a b=true):a=b:=by
 cases a<;>cases b<;>first|rfl|(simp[ep]at h)
def fG:CK->C->Bool
 | .int k,.int k' _=>ep k k'
 | .bool,.bool _=>true
 | .str,.str _=>true
 | .list,.list _=>true
 | .hole,.hole=>true
 | _,_=>false
def ak:List CK->List C->Bool
 | [],[]=>true
 | k::ks,c::cs=>match fG k c with
  | true=>ak ks cs
  | false=>false
 | _,_=>false
def nZ(sz:Nat):Nat->List C->List (List C)
 | 0,_=>[]
 | n+1,l=>l.take sz::nZ sz n (l.drop sz)
def vD(cells:List C)(off:Nat):List C->List C
 | []=>cells
 | v::vs=>vD (cells.set off v) (off+1) vs
def setRow(off:Nat)(l:List (List C))(j:Nat)(cs:List C):List (List C) :=
 match l[j]? with
 | some r=>l.set j (vD r off cs)
 | none=>l
def i9:List C->List Int
 | []=>[]
 | c::cs=>c.toInt::i9 cs
def toNat(n:Int):Nat:=n.toNat
def ic:List (Int×Int)->Int->Int
 | [],_=>0
 | (k,v)::r,x=>if x==k then v else ic r x
def uj:List (ByteArray×Int)->ByteArray->Int
 | [],_=>0
 | (k,v)::r,x=>if x=k then v else uj r x
def Prim.den:Prim->List C->C
 | .add k,[a,b]=>.int k (k.wrap (a.toInt+b.toInt))
 | .sub k,[a,b]=>.int k (k.wrap (a.toInt-b.toInt))
 | .mul k,[a,b]=>.int k (k.wrap (a.toInt*b.toInt))
 | .quo k,[a,b]=>.int k (k.wrap (a.toInt.tdiv b.toInt))
 | .rem k,[a,b]=>.int k (a.toInt.tmod b.toInt)
 | .xor k,[a,b]=>.int k (k.wrap (BitVec.ofInt k.bits a.toInt ^^^ BitVec.ofInt k.bits b.toInt).toNat)
 | .conv k,[a]=>.int k (k.wrap a.toInt)
 | .eqI,[a,b]=>.bool (a.toInt==b.toInt)
 | .neI,[a,b]=>.bool (a.toInt != b.toInt)
 | .ltI,[a,b]=>.bool (decide (a.toInt<b.toInt))
 | .leI,[a,b]=>.bool (decide (a.toInt<=b.toInt))
 | .gtI,[a,b]=>.bool (decide (a.toInt>b.toInt))
 | .geI,[a,b]=>.bool (decide (a.toInt>=b.toInt))
 | .nz,[a]=>.bool (a.toInt != 0)
 | .not,[a]=>.bool (!a.toBool)
 | .eqB,[a,b]=>.bool (a.toBool==b.toBool)
 | .neB,[a,b]=>.bool (!(a.toBool==b.toBool))
 | .pickB,[g,a,b]=>.bool (bif g.toBool then a.toBool else b.toBool)
 | .min k,[a,b]=>.int k (if b.toInt<a.toInt then b.toInt else a.toInt)
 | .max k,[a,b]=>.int k (if b.toInt>a.toInt then b.toInt else a.toInt)
 | .eqs n,l=>.bool (i9 (l.take n)==i9 (l.drop n))
 | .nes n,l=>.bool (!(i9 (l.take n)==i9 (l.drop n)))
 | .len,[a]=>.int .i64 a.toList.length
 | .slen,[a]=>.int .i64 a.toStr.size
 | .idx,[i,l]=>.bool (decide (0<=i.toInt) && decide (i.toInt<l.toList.length))
 | .upto,[i,l]=>.bool (decide (0<=i.toInt) && decide (i.toInt<=l.toList.length))
 | .fits,[a,b]=>.bool (decide (a.toList.length+b.toList.length<=aY))
 | .mkOk,[n]=>.bool (decide (0<=n.toInt) && decide (n.toInt<=aY))
 | .mkl sz,l=>.list (nZ sz (l.length / sz) l)
 | .app,[a,b]=>.list (a.toList++b.toList)
 | .take,[a,n]=>.list (a.toList.take n.toInt.toNat)
 | .drop,[a,n]=>.list (a.toList.drop n.toInt.toNat)
 | .setr off,l::i::cs=>.list (setRow off l.toList i.toInt.toNat cs)
 | .setw,l::i::cs=>.list (l.toList.set i.toInt.toNat cs)
 | .rep,n::cs=>.list (List.replicate n.toInt.toNat cs)
 | .rowsk ks,[l]=>.bool (l.toList.all (ak ks))
 | .eqS,[a,b]=>.bool (decide (a.toStr=b.toStr))
 | .neS,[a,b]=>.bool (!decide (a.toStr=b.toStr))
 | .cat,[a,b]=>.str (a.toStr++b.toStr)
 | .catOk,[a,b]=>.bool (decide (a.toStr.size+b.toStr.size<=aY))
 | .ofBytes,[l]=>.str ⟨(l.toList.map fun r=>UInt8.ofNat (aa r 0).toInt.toNat).toArray⟩
 | .supto,[i,j,s]=>.bool (decide (0<=i.toInt) && (decide (i.toInt<=j.toInt) && decide (j.toInt<=s.toStr.size)))
 | .sub3,[s,i,j]=>.str (s.toStr.extract i.toInt.toNat j.toInt.toNat)
 | .sfrom,[i,s]=>.bool (decide (0<=i.toInt) && decide (i.toInt<=s.toStr.size))
 | .dropS,[s,i]=>.str (s.toStr.extract i.toInt.toNat s.toStr.size)
 | .sidx,[i,s]=>.bool (decide (0<=i.toInt) && decide (i.toInt<s.toStr.size))
 | .byteAt,[s,i]=>.int .u8 ((s.toStr.data.toList.getD i.toInt.toNat 0).toNat)
 | .isNil,[a]=>.bool (a.toList.isEmpty)
 | .tab es,[a]=>.int .i64 (ic es a.toInt)
 | .has ks,[a]=>.bool (ks.any fun k=>a.toInt==k)
 | .tabS es,[a]=>.int .i64 (uj es a.toStr)
 | .hasS ks,[a]=>.bool (ks.any fun k=>decide (a.toStr=k))
 | .uptok ks,[i,l]=>.bool ((decide (0<=i.toInt) && decide (i.toInt<=l.toList.length)) && l.toList.all (ak ks))
 | _,_=>.bool false
inductive VT where
 | int (k:IntKind)
 | bool
 | str
 | view (t:Bool)
def VT.sv:VT->At->SV
 | .int k,a=>.int k a
 | .bool,a=>.bool a
 | .str,a=>.str a
 | .view t,a=>.view t a
def VT.m(w:World)(M R:Nat->Prop):VT->C->Value->Prop
 | .int k,c,v=>v=.int k c.toInt
 | .bool,c,v=>v=.bool c.toBool
 | .str,c,v=>v=.string c.toStr
 | .view t,c,v=>repC w (MR M R t) (.list c.toList) v
theorem VT.svm{w:World}{M R:Nat->Prop}{N:Nm}{env:List C}{vt:VT}{c:C}{v:Value}{a:At}(h:vt.m w M R c v)(ha:a.den env=c):svm w M R N env (vt.sv a) v:=by
 cases vt<;>simp only[VT.sv]<;>rw[Dx.svm,ha]<;>exact h
inductive TD where
 | int (k:IntKind)
 | bool
 | str
 | slice (e:Nat)
 | struct (fs:List (Nat×Nat×Bool))
 | arr (n e:Nat)
 | map (k e:Nat)
 | bld (e:Nat)
 | other
structure TI where
 d:TD
 sz:Nat
 agg:Bool
 zero:List SV
 bytes:Nat
abbrev Tab:=Nat->Option TI
def yw:TypeDesc->Bool
 | .struct _|.array _ _=>true
 | _=>false
def bu:Value->SV
 | .int k n=>.int k (.n n)
 | .bool b=>.bool (.b b)
 | .string s=>.str (.s s)
 | .slice none 0 0=>.nil
 | .pointer none=>.nilptr
 | _=>.any
def IG(P:Program):TD->TypeDesc->Prop
 | .int k,d=>d=.int k
 | .bool,d=>d=.bool
 | .str,d=>d=.string
 | .slice e,d=>d=.slice e
 | .struct fs,d=>(∀ x∈fs,0<x.2.1)/\∃ fields,d=.struct fields/\fields.toList.map (fun f=>(f.offset,(P.info? f.type).map (·.size),(P.underlying f.type).map yw))=fs.map (fun x=>(x.1,some x.2.1,some x.2.2))
 | .arr n e,d=>d=.array n e
 | .map k e,d=>d=.map k e
 | .bld _,_=>True
 | .other,_=>True
def bK(P:Program)(T:Tab):Prop:=∀ t i,T t=some i->∃ inf d z,P.info? t=some inf/\P.underlying t=some d/\inf.size=i.sz/\inf.bytes=i.bytes/\yw d=i.agg ∧
 inf.zero=some z/\z.cells.size=i.sz/\i.zero=z.cells.toList.map bu/\IG P i.d d
def ckOf:SV->Option CK
 | .int k _=>some (.int k)
 | .bool _=>some .bool
 | .str _=>some .str
 | .nil=>some .list
 | _=>none
def uk:List SV->Option (List CK)
 | []=>some []
 | x::xs=>match ckOf x with
  | some k=>match uk xs with
   | some ks=>some (k::ks)
   | none=>none
  | none=>none
theorem aJ:∀ {ks:List CK} {cs:List C},ak ks cs=true->cs.length=ks.length
 | [],[],_=>rfl
 | [],_::_,h=>by simp[ak]at h
 | _::_,[],h=>by simp[ak]at h
 | k::ks,c::cs,h=>by
  simp only[ak]at h
  split at h
  ·simp[aJ h]
  ·cases h
def CK.sv(t:Bool):CK->At->SV
 | .int k,a=>.int k a
 | .bool,a=>.bool a
 | .str,a=>.str a
 | .list,a=>.view t a
 | .hole,_=>.blob
def cR(t:Bool):List CK->Nat->List SV
 | [],_=>[]
 | k::ks,n=>k.sv t (.v n)::cR t ks (n+1)
section
variable {w:World} {M R:Nat->Prop} {N:Nm}
theorem lV{env:List C}(v:Value):svm w M R N env (bu v) v:=by
 unfold bu
 split<;>rw[svm]<;>first|rfl|trivial
theorem cI{env:List C}:∀ vs:List Value,svms w M R N env (vs.map bu) vs
 | []=>by simp[svms]
 | v::vs=>by simp only[List.map_cons];rw[svms];exact⟨v,vs,rfl,lV v,cI vs⟩
theorem vE{env:List C}{t:Bool}{k:CK}{c:C}{v:Value}{a:At}(hk:fG k c=true)(h:repC w (MR M R t) c v)(ha:a.den env=c):svm w M R N env (k.sv t a) v:=by
 cases k<;>cases c<;>simp only[fG,Bool.false_eq_true]at hk<;>simp only[CK.sv]<;>rw[svm]<;>try rw[ha]
 case hole.hole=>rw[repC]at h;exact h
 case int.int k k' n=>have:=cQ hk;subst this;rw[repC]at h;exact h
 case bool.bool=>rw[repC]at h;exact h
 case str.str=>rw[repC]at h;exact h
 case list.list=>exact h
theorem gf(t:Bool):∀(ks:List CK) (n:Nat),(cR t ks n).length=ks.length
 | [],_=>rfl
 | k::ks,n=>by simp[cR,gf t ks]
theorem cE{t:Bool}:∀ {ks:List CK} {cs:List C} {vs:List Value} {env:List C} (rest:List C),ak ks cs=true->repRow w (MR M R t) cs vs->svms w M R N (env++(cs++rest)) (cR t ks env.length) (vs.take cs.length)
 | [],cs,vs,env,rest,hk,_=>by
  have:=aJ hk
  have:cs=[]:=List.eq_nil_of_length_eq_zero this
  subst this;simp[cR,svms]
 | k::ks,[],vs,env,rest,hk,_=>by simp[ak]at hk
 | k::ks,c::cs,vs,env,rest,hk,h=>by
  simp only[ak]at hk
  split at hk
  case h_2=>cases hk
  rename_i hk1
  rw[repRow]at h;obtain⟨v,vs',rfl,h1,h2⟩:=h
  simp only[cR,List.length_cons,List.take_succ_cons];rw[svms]
  refine⟨v,_,rfl,vE hk1 h1 ?_,?_⟩
  ·have:=bD env (c::cs++rest) 0;simpa [At.den,aa] using this
  ·have:=cE (env:=env++[c]) rest hk h2
   simpa using this
theorem oc(t:Bool):∀(o:Nat) (ks:List CK) (n:Nat),(cR t ks n).drop o=cR t (ks.drop o) (n+o)
 | 0,ks,n=>rfl
 | o+1,[],n=>rfl
 | o+1,k::ks,n=>by simp only[cR,List.drop_succ_cons];rw[oc t o ks (n+1)];congr 1;omega
theorem od(t:Bool):∀(o:Nat) (ks:List CK) (n:Nat),(cR t ks n).take o=cR t (ks.take o) n
 | 0,ks,n=>by simp[cR]
 | o+1,[],n=>rfl
 | o+1,k::ks,n=>by simp only[cR,List.take_succ_cons];rw[od t o ks (n+1)]
theorem lW:∀(o:Nat) {ks:List CK} {cs:List C},ak ks cs=true->ak (ks.drop o) (cs.drop o)=true
 | 0,_,_,h=>h
 | o+1,[],[],_=>rfl
 | o+1,[],_::_,h=>by simp[ak]at h
 | o+1,_::_,[],h=>by simp[ak]at h
 | o+1,k::ks,c::cs,h=>by
  simp only[ak]at h
  split at h
  ·simpa using lW o h
  ·cases h
theorem lX:∀(o:Nat) {ks:List CK} {cs:List C},ak ks cs=true->ak (ks.take o) (cs.take o)=true
 | 0,_,_,_=>by simp[ak]
 | o+1,[],[],_=>rfl
 | o+1,[],_::_,h=>by simp[ak]at h
 | o+1,_::_,[],h=>by simp[ak]at h
 | o+1,k::ks,c::cs,h=>by
  simp only[ak,List.take_succ_cons]at h ⊢
  split at h
  ·exact lX o h
  ·cases h
end
def opnd(s:List SV):Operand->SV
 | .tmp t=>cr s t
 | .const v=>bu v
 | .func f=>.fn f []
 | .global _=>.any
section
variable {cx:Ctx} {M:Nat->Prop} {N:Nm} {env:List C} {s:St} {a:Act} {w:World}
theorem Sat.opnd(h:Sat cx M N env s a.tmps w)(x:Operand):svm w M cx.R N env (opnd s.sl x) (a.eval x):=by
 cases x with
 | tmp t=>exact h.slots t
 | const v=>exact lV v
 | global g=>exact i7 _
 | func f=>simp only[Dx.opnd];rw[svm];exact⟨#[],rfl,by simp[svms]⟩
end
def SV.cells:SV->List SV
 | .agg vs=>vs
 | .tuple _=>[]
 | .any=>[]
 | x=>[x]
def SV.solid:SV->Bool
 | .any|.tuple _=>false
 | _=>true
def SV.one:SV->Bool
 | .any|.agg _|.tuple _=>false
 | _=>true
def Eo(s:St)(k:Nat):Bool :=
 match ar s.hp k with
 | some (.arr _ _ _)=>true
 | some (.foc _ _ _ _ _)=>true
 | _=>false
def SV.plain(s:St):SV->Bool
 | .sl k=>Eo s k
 | x=>x.solid
inductive NF where
 | bad
 | q (v:SV)
 | lt (p:Prim) (args:List Cell) (vt:VT)
 | ckl (p:Prim) (args:List Cell) (p':Prim) (args':List Cell) (vt:VT)
 | ck (p:Prim) (args:List Cell) (v:SV)
 | vrow (t:Bool) (l i:At) (ks:List CK)
 | erow (l i:At) (ks:List CK) (agg:Bool) (off n:Nat)
 | mk (v:SV) (o:SObj)
def ci(k:IntKind)(a:At):Cell:=⟨.int k,a⟩
def cb(a:At):Cell:=⟨.bool,a⟩
def cl(a:At):Cell:=⟨.list,a⟩
def cs(a:At):Cell:=⟨.str,a⟩
def binI(op:BinOp)(k:IntKind)(a b:At):NF :=
 match op with
 | .add=>.lt (.add k) [ci k a,ci k b] (.int k)
 | .sub=>.lt (.sub k) [ci k a,ci k b] (.int k)
 | .mul=>.lt (.mul k) [ci k a,ci k b] (.int k)
 | .eql=>.lt .eqI [ci k a,ci k b] .bool
 | .neq=>.lt .neI [ci k a,ci k b] .bool
 | .lss=>.lt .ltI [ci k a,ci k b] .bool
 | .leq=>.lt .leI [ci k a,ci k b] .bool
 | .gtr=>.lt .gtI [ci k a,ci k b] .bool
 | .geq=>.lt .geI [ci k a,ci k b] .bool
 | .quo=>.ckl .nz [ci k b] (.quo k) [ci k a,ci k b] (.int k)
 | .rem=>.ckl .nz [ci k b] (.rem k) [ci k a,ci k b] (.int k)
 | .xor=>.lt (.xor k) [ci k a,ci k b] (.int k)
 | _=>.bad
def cN:List SV->List SV->Option (List Cell×List Cell)
 | [],[]=>some ([],[])
 | .int k a::xs,.int k' b::ys=>match ep k k' with
  | true=>match cN xs ys with
   | some (cs,ds)=>some (ci k a::cs,ci k b::ds)
   | none=>none
  | false=>none
 | _,_=>none
def ja(i:TI)(f:Nat):Option (Nat×Nat×Bool) :=
 match i.d with
 | .struct fs=>fs[f]?
 | _=>none
def kN(agg:Bool)(vs:List SV):SV :=
 match agg,vs with
 | true,vs=>.agg vs
 | false,v::_=>v
 | false,[]=>.any
def rH(cells:List SV)(off:Nat):List SV->List SV
 | []=>cells
 | v::vs=>rH (vz cells off v) (off+1) vs
def qT(s:St)(place:Nat->Option (Nat×Nat))(cells:List SV):List (Nat×SV)->Option (List SV)
 | []=>some cells
 | (i,v)::rest=>match place i,v.plain s with
  | some (off,size),true=>match Nat.beq v.cells.length size,Nat.ble (off+v.cells.length) cells.length with
   | true,true=>qT s place (rH cells off v.cells) rest
   | _,_=>none
  | _,_=>none
def bL:List Sh->Bool
 | []=>true
 | .val::r=>bL r
 | _::_=>false
def lenOf(s:St):SV->NF
 | .view _ l=>.lt .len [cl l] (.int .i64)
 | .nil=>.q (.int .i64 (.n 0))
 | .str x=>.lt .slen [cs x] (.int .i64)
 | .sl k=>match ar s.hp k with
  | some (.arr _ _ l)=>.lt .len [cl l] (.int .i64)
  | some (.foc _ _ l _ _)=>.lt .len [cl l] (.int .i64)
  | _=>.bad
 | _=>.bad
def EK(T:Tab)(t:Nat)(x:SV)(lo hi:Option SV):NF :=
 match T t with
 | some i=>match i.d with
  | .slice e=>match T e with
   | some ie=>match x,lo,hi with
    | .view tt l,none,some (.int k h)=>.ckl .upto [ci k h,cl l] .take [cl l,ci k h] (.view tt)
    | .view tt l,some (.int k h),none=>match uk ie.zero with
     | some ks=>match Nat.beq ks.length ie.sz with
      | true=>.ckl (.uptok ks) [ci k h,cl l] .drop [cl l,ci k h] (.view tt)
      | false=>.bad
     | none=>.bad
    | _,_,_=>.bad
   | none=>.bad
  | .str=>match x,lo,hi with
   | .str b,some (.int k l),some (.int k' h)=>.ckl .supto [ci k l,ci k' h,cs b] .sub3 [cs b,ci k l,ci k' h] .str
   | .str b,none,some (.int k' h)=>.ckl .supto [ci k' (.n 0),ci k' h,cs b] .sub3 [cs b,ci k' (.n 0),ci k' h] .str
   | .str b,some (.int k l),none=>.ckl .sfrom [ci k l,cs b] .dropS [cs b,ci k l] .str
   | _,_,_=>.bad
  | _=>.bad
 | none=>.bad
def nf(T:Tab)(eqn:Nat->Option Nat)(s:St):Op->NF
 | .move x=>.q (opnd s.sl x)
 | .assign x=>.q (opnd s.sl x)
 | .pick c a b=>match opnd s.sl c with
  | .bool (.b true)=>.q (opnd s.sl a)
  | .bool (.b false)=>.q (opnd s.sl b)
  | .bool g=>match opnd s.sl a,opnd s.sl b with
   | .bool x,.bool y=>.lt .pickB [cb g,cb x,cb y] .bool
   | _,_=>.bad
  | _=>.bad
 | .alloc t=>match T t with
  | some i=>match i.d,i.zero with
   | .bld e,[.nilptr,.nil]=>.mk (.ptr s.nx 0) (.bld t e (.s ByteArray.empty))
   | _,_=>.mk (.ptr s.nx 0) (.cells i.zero)
  | none=>.bad
 | .box _ x=>match (opnd s.sl x).plain s with
  | true=>.mk (.ptr s.nx 0) (.cells (opnd s.sl x).cells)
  | false=>.bad
 | .build t parts=>match T t with
  | some i=>match i.d with
   | .struct _=>match qT s (fun j=>(ja i j).map fun x=>(x.1,x.2.1)) i.zero (parts.toList.map fun p=>(p.1,opnd s.sl p.2))with
    | some cells=>.q (.agg cells)
    | none=>.bad
   | .arr _ e=>match T e with
    | some ie=>match qT s (fun j=>some (j*ie.sz,ie.sz)) i.zero (parts.toList.map fun p=>(p.1,opnd s.sl p.2))with
     | some cells=>.q (.agg cells)
     | none=>.bad
    | none=>.bad
   | _=>.bad
  | none=>.bad
 | .makeMap _ none=>.mk (.sl s.nx) (.map [])
 | .load t x=>match T t with
  | some i=>match opnd s.sl x with
   | .ptr k off=>match ar s.hp k with
    | some (.cells vs)=>match Nat.ble (off+i.sz) vs.length,i.agg,Nat.beq i.sz 1 with
     | true,true,_=>.q (.agg ((vs.drop off).take i.sz))
     | true,false,true=>.q (cr vs off)
     | _,_,_=>.bad
    | _=>.bad
   | .vptr _ cells=>match Nat.ble i.sz cells.length,i.agg,Nat.beq i.sz 1 with
    | true,true,_=>.q (.agg (cells.take i.sz))
    | true,false,true=>.q (cr cells 0)
    | _,_,_=>.bad
   | .eptr k sz j off=>match ar s.hp k with
    | some (.arr e row l)=>match Nat.beq row.length sz && eH e,Nat.ble (off+i.sz) sz,bL ((row.drop off).take i.sz),T e with
     | true,true,true,some ie=>match uk ie.zero,i.agg,Nat.beq i.sz 1 with
      | some ks,true,_=>match Nat.beq ks.length sz with
       | true=>.erow l j ks true off i.sz
       | false=>.bad
      | some ks,false,true=>match Nat.beq ks.length sz with
       | true=>.erow l j ks false off 1
       | false=>.bad
      | _,_,_=>.bad
     | _,_,_,_=>.bad
    | _=>.bad
   | _=>.bad
  | none=>.bad
 | .nilCheck x=>match opnd s.sl x with
  | .ptr k off=>.q (.ptr k off)
  | .eptr k sz i off=>.q (.eptr k sz i off)
  | .vptr t r=>.q (.vptr t r)
  | _=>.bad
 | .binOp op t x y _=>match opnd s.sl x,opnd s.sl y with
  | .int k a,.int k' b=>match ep k k' with
   | true=>binI op k a b
   | false=>.bad
  | .agg xs,.agg ys=>match eqn t,op with
   | some n,.eql=>match Nat.beq xs.length n,cN xs ys with
    | true,some (cs,ds)=>.lt (.eqs n) (cs++ds) .bool
    | _,_=>.bad
   | some n,.neq=>match Nat.beq xs.length n,cN xs ys with
    | true,some (cs,ds)=>.lt (.nes n) (cs++ds) .bool
    | _,_=>.bad
   | _,_=>.bad
  | .str p,.str q=>match op with
   | .eql=>.lt .eqS [cs p,cs q] .bool
   | .neq=>.lt .neS [cs p,cs q] .bool
   | .add=>.ckl .catOk [cs p,cs q] .cat [cs p,cs q] .str
   | _=>.bad
  | .bool p,.bool q=>match T t with
   | some i=>match i.d,op with
    | .bool,.eql=>.lt .eqB [cb p,cb q] .bool
    | .bool,.neq=>.lt .neB [cb p,cb q] .bool
    | _,_=>.bad
   | none=>.bad
  | _,_=>.bad
 | .unOp .not _ x=>match opnd s.sl x with
  | .bool b=>.lt .not [cb b] .bool
  | _=>.bad
 | .unOp .neg _ x=>match opnd s.sl x with
  | .int k n=>.lt (.sub k) [ci k (.n 0),ci k n] (.int k)
  | _=>.bad
 | .convert src dst x=>match T src,T dst,opnd s.sl x with
  | some i,some j,.int k0 n=>match i.d,j.d with
   | .int _,.int k=>.lt (.conv k) [ci k0 n] (.int k)
   | _,_=>.bad
  | _,_,_=>.bad
 | .fieldAddr t x f=>match T t with
  | some i=>match ja i f with
   | some (o,_,_)=>match opnd s.sl x with
    | .ptr k off=>.q (.ptr k (off+o))
    | .eptr k sz j off=>.q (.eptr k sz j (off+o))
    | .vptr t r=>.q (.vptr t (r.drop o))
    | _=>.bad
   | none=>.bad
  | none=>.bad
 | .field t x f=>match T t with
  | some i=>match ja i f,opnd s.sl x with
   | some (o,n,true),.agg vs=>.q (.agg ((vs.drop o).take n))
   | some (o,_,false),.agg vs=>match Nat.blt o vs.length with
    | true=>.q (cr vs o)
    | false=>.bad
   | _,_=>.bad
  | none=>.bad
 | .indexAddr t x ix=>match T t with
  | some i=>match i.d with
   | .slice e=>match T e,opnd s.sl x,opnd s.sl ix with
    | some ie,.view tt l,.int _ n=>match uk ie.zero with
     | some ks=>match Nat.beq ks.length ie.sz with
      | true=>.vrow tt l n ks
      | false=>.bad
     | none=>.bad
    | some ie,.sl k,.int kk n=>match ar s.hp k with
     | some (.arr e row l)=>match Nat.beq row.length ie.sz && eH e with
      | true=>.ck .idx [ci kk n,cl l] (.eptr k ie.sz n 0)
      | false=>.bad
     | some (.foc _ row l _ _)=>match Nat.beq row.length ie.sz with
      | true=>.ck .idx [ci kk n,cl l] (.eptr k ie.sz n 0)
      | false=>.bad
     | _=>.bad
    | _,_,_=>.bad
   | .arr n e=>match T e,opnd s.sl x,opnd s.sl ix with
    | some ie,.ptr k off,.int _ (.n z)=>match decide (0<=z),decide (z<n)with
     | true,true=>.q (.ptr k (off+z.toNat*ie.sz))
     | _,_=>.bad
    | _,_,_=>.bad
   | _=>.bad
  | none=>.bad
 | .index t x ix=>match T t,opnd s.sl x,opnd s.sl ix with
  | some i,.str b,.int k n=>match i.d with
   | .str=>.ckl .sidx [ci k n,cs b] .byteAt [cs b,ci k n] (.int .u8)
   | _=>.bad
  | _,_,_=>.bad
 | .extract x i=>match opnd s.sl x with
  | .tuple vs=>match Nat.blt i vs.length with
   | true=>.q (cr vs i)
   | false=>.bad
  | _=>.bad
 | .makeFunc (.func f) first caps=>match first.toList with
  | []=>.q (.fn f (caps.toList.map (opnd s.sl)))
  | _=>.bad
 | .slice t x lo hi none=>EK T t (opnd s.sl x) (lo.map (opnd s.sl)) (hi.map (opnd s.sl))
 | .call {callee:=.builtin .len,args,argTypes}=>match args.toList,argTypes.toList with
  | [x],[t]=>match T t with
   | some i=>match i.d,opnd s.sl x with
    | .slice _,.str _=>.bad
    | .slice _,v=>lenOf s v
    | .str,.str b=>.lt .slen [cs b] (.int .i64)
    | _,_=>.bad
   | none=>.bad
  | _,_=>.bad
 | .call {callee:=.builtin .min,args,argTypes:=_}=>match args.toList with
  | [x,y]=>match opnd s.sl x,opnd s.sl y with
   | .int k a,.int k' b=>match ep k k' with
    | true=>.lt (.min k) [ci k a,ci k b] (.int k)
    | false=>.bad
   | _,_=>.bad
  | _=>.bad
 | .call {callee:=.builtin .max,args,argTypes:=_}=>match args.toList with
  | [x,y]=>match opnd s.sl x,opnd s.sl y with
   | .int k a,.int k' b=>match ep k k' with
    | true=>.lt (.max k) [ci k a,ci k b] (.int k)
    | false=>.bad
   | _,_=>.bad
  | _=>.bad
 | _=>.bad
end Dx
namespace Dx
open Go
def Cd(P:Program)(eqn:Nat->Option Nat):Prop:=∀ t n,eqn t=some n->∀(op:BinOp) (xs ys:List (IntKind×Int)) (x y:Operand) (w:World),(op=.eql\/op=.neq)->xs.length=n->xs.map (·.1)=ys.map (·.1) ->
 (do eqGuard op t x y (.agg (xs.map fun p=>Value.int p.1 p.2).toArray) (.agg (ys.map fun p=>Value.int p.1 p.2).toArray)
     binOp op t (.agg (xs.map fun p=>Value.int p.1 p.2).toArray) (.agg (ys.map fun p=>Value.int p.1 p.2).toArray):Sem Value).run P w =
  .ok (.bool (if op=.eql then xs.map (·.2)==ys.map (·.2) else !(xs.map (·.2)==ys.map (·.2)))) w
def Alike(op:Oper)(a:Act)(w w':World):Prop:=∀ t x b o sp,op.op=.load t x->a.eval x=.pointer (some ⟨b,o,sp⟩)->w'.heap[b]?=w.heap[b]?
theorem Alike.rfl'{op:Oper}{a:Act}{w:World}:Alike op a w w:=fun _ _ _ _ _ _ _=>rfl
def eJ(P:Program)(op:Oper)(a:Act)(w:World)(val:Value):Prop:=∀ w',Alike op a w w'->(execOp a.eval op).run P w'=.ok (.value val) w'
def gT(P:Program)(op:Oper)(cx:Ctx)(M:Nat->Prop)(N:Nm)(env:List C)(s:St)(a:Act)(w:World):NF->Prop
 | .bad=>True
 | .q v=>∃ val,eJ P op a w val/\svm w M cx.R N env v val
 | .lt p args vt=>∃ val,eJ P op a w val/\vt.m w M cx.R (p.den (aK env args)) val
 | .ckl p args p' args' vt=>(p.den (aK env args)).toBool=true->∃ val,eJ P op a w val/\vt.m w M cx.R (p'.den (aK env args')) val
 | .ck p args v=>(p.den (aK env args)).toBool=true->∃ val,eJ P op a w val/\svm w M cx.R N env v val
 | .vrow t l i ks=>∀ j r,(i.den env).toInt=(j:Nat)->(l.den env).toList[j]?=some r->ak ks r=true ->
   ∃ b o arr T fr,eJ P op a w (.pointer (some ⟨b,o,none⟩))/\MR M cx.R t b/\w.heap[b]?=some (.cells arr T fr)/\repRow w (MR M cx.R t) r (arr.toList.drop o)
 | .erow l i ks ag off n=>∀ j r,(i.den env).toInt=(j:Nat)->(l.den env).toList[j]?=some r->ak ks r=true ->
   ∃ val us,eJ P op a w val/\us.length=n/\repRow w M ((r.drop off).take n) us/\(ag=true->val=.agg us.toArray)/\(ag=false->us=[val])/\off+n<=r.length
 | .mk v o=>s.ok=true->∃ val ob ki,(execOp a.eval op).run P w=.ok (.value val) (w.alloc ob)/\(ki.φ=[w.heap.size]\/ki.φ=[]) ∧
   svm (w.alloc ob) M cx.R (ip N s.nx ki) env v val/\obm (w.alloc ob) M cx.R (ip N s.nx ki) env s.nx o
section
variable {P:Program} {T:Tab} {eqn:Nat->Option Nat} {cx:Ctx} {M:Nat->Prop} {N:Nm} {env:List C} {s:St} {a:Act} {w:World} {op:Oper}
theorem Au(h:Sat cx M N env s a.tmps w){x:Operand}(ho:op.op=.move x\/op.op=.assign x):gT P op cx M N env s a w (.q (opnd s.sl x)):=by
 refine⟨a.eval x,fun w' _=>?_,h.opnd x⟩
 rcases ho with ho|ho<;>simp[execOp,ho]
theorem kZ(h:Sat cx M N env s a.tmps w){x:Operand}{b:At}(hb:opnd s.sl x=.bool b):a.eval x=.bool (b.den env).toBool:=by
 have:=h.opnd x
 rw[hb,svm]at this;exact this
theorem cJ(h:Sat cx M N env s a.tmps w){x:Operand}{k:IntKind}{n:At}(hx:opnd s.sl x=.int k n):a.eval x=.int k (n.den env).toInt:=by
 have:=h.opnd x
 rw[hx,svm]at this;exact this
theorem z0(h:Sat cx M N env s a.tmps w){x:Operand}{b:At}(hb:opnd s.sl x=.str b):a.eval x=.string (b.den env).toStr:=by
 have:=h.opnd x
 rw[hb,svm]at this;exact this
theorem rI(a:ByteArray):a.toList=a.data.toList:=ByteArray.toList_eq a
theorem yx(a b:ByteArray):(a.toList==b.toList)=decide (a=b):=by
 rw[rI,rI]
 by_cases h:a=b
 ·subst h;simp
 ·rw[decide_eq_false h,beq_eq_false_iff_ne]
  intro e;apply h
  cases a;cases b;congr;exact Array.ext' e
theorem FE(h:Sat cx M N env s a.tmps w){c x y:Operand}(ho:op.op=.pick c x y):gT P op cx M N env s a w (nf T eqn s (.pick c x y)):=by
 have hc:=h.opnd c
 simp only[nf]
 split
 ·rename_i he;rw[he,svm]at hc
  exact⟨a.eval x,fun w' _=>by simp[execOp,ho,hc,asBool,At.den],h.opnd x⟩
 ·rename_i he;rw[he,svm]at hc
  exact⟨a.eval y,fun w' _=>by simp[execOp,ho,hc,asBool,At.den],h.opnd y⟩
 ·rename_i g _ _ he;rw[he,svm]at hc
  split
  ·rename_i p q hp hq
   have hp':=kZ h hp
   have hq':=kZ h hq
   refine⟨.bool (bif (g.den env).toBool then(p.den env).toBool else(q.den env).toBool),fun w' _=>?_,rfl⟩
   cases hg:(g.den env).toBool<;>simp[execOp,ho,hc,asBool,hp',hq',hg]
  ·trivial
 ·trivial
theorem KD(h:Sat cx M N env s a.tmps w){t:Nat}{x:Operand}(ho:op.op=.unOp .not t x):gT P op cx M N env s a w (nf T eqn s (.unOp .not t x)):=by
 simp only[nf]
 split
 ·rename_i b hb
  have:=kZ h hb
  exact⟨.bool (!(b.den env).toBool),fun w' _=>by simp[execOp,ho,this,Op.unary],rfl⟩
 ·trivial
theorem KE(h:Sat cx M N env s a.tmps w){t:Nat}{x:Operand}(ho:op.op=.unOp .neg t x):gT P op cx M N env s a w (nf T eqn s (.unOp .neg t x)):=by
 simp only[nf]
 split
 ·rename_i k n hb
  have:=cJ h hb
  refine⟨.int k (k.wrap (0-(n.den env).toInt)),fun w' _=>by simp[execOp,ho,this,Op.unary,Op.intArith],?_⟩
  simp[VT.m,Prim.den,aK,Cell.den,ci,At.den]
 ·trivial
theorem FF(h:Sat cx M N env s a.tmps w){bop:BinOp}{t t':Nat}{x y:Operand}(ho:op.op=.binOp bop t x y t'){k:IntKind}{m n:At}(hx:a.eval x=.int k (m.den env).toInt)(hy:a.eval y=.int k (n.den env).toInt) :
  gT P op cx M N env s a w (binI bop k m n):=by
 have hg:∀(w:World) (o:BinOp),(eqGuard o t x y (.int k (m.den env).toInt) (.int k (n.den env).toInt)).run P w=.ok () w:=fun w o=>by
  unfold eqGuard
  cases o<;>simp
 have run:∀ val,(∀ w,(binOp bop t (.int k (m.den env).toInt) (.int k (n.den env).toInt)).run P w=.ok val w)->eJ P op a w val:=fun val hv w' _=>by
  simp[execOp,ho,hx,hy,hg,hv]
 cases bop<;>simp only[binI]<;>first
  | trivial
  | exact⟨_,run _ (fun w=>by simp[binOp,Op.intArith];rfl),rfl⟩
  | exact⟨_,run _ (fun w=>by simp[binOp,Op.intBits];rfl),rfl⟩
  | exact⟨_,run _ (fun w=>by simp[binOp,Op.intCmp];rfl),rfl⟩
  | (intro hb
     have hb':(n.den env).toInt≠0:=by simpa [Prim.den,aK,Cell.den,ci] using hb
     exact⟨_,run _ (fun w=>by simp[binOp,Op.intDiv,hb'];rfl),rfl⟩)
theorem add_zero(b o n:Nat):(⟨b,o,none⟩:Addr).add n=⟨b,o+n,none⟩:=by unfold Addr.add;split<;>simp_all
theorem uV(h:Sat cx M N env s a.tmps w){x:Operand}(ho:op.op=.nilCheck x):gT P op cx M N env s a w (nf T eqn s (.nilCheck x)):=by
 have hx:=h.opnd x
 simp only[nf]
 split
 ·rename_i k off he
  rw[he]at hx
  have hx':=hx
  rw[svm]at hx';obtain⟨b,_,hv⟩:=hx'
  exact⟨a.eval x,fun w' _=>by simp[execOp,ho,hv],hx⟩
 ·rename_i he
  rw[he]at hx
  have hx':=hx
  rw[svm]at hx';obtain⟨g,n,c,j,_,_,_,hv⟩:=hx'
  exact⟨a.eval x,fun w' _=>by simp[execOp,ho,hv],hx⟩
 ·rename_i he
  rw[he]at hx
  have hx':=hx
  rw[svm]at hx';obtain⟨b,o,arr,T,fr,hv,_⟩:=hx'
  exact⟨a.eval x,fun w' _=>by simp[execOp,ho,hv],hx⟩
 ·trivial
theorem yy(h:Sat cx M N env s a.tmps w){x:Operand}{i:Nat}(ho:op.op=.extract x i):gT P op cx M N env s a w (nf T eqn s (.extract x i)):=by
 have hx:=h.opnd x
 simp only[nf]
 split
 ·rename_i vs he
  split
  case h_2=>trivial
  rename_i hbl
  have hlt:=ap hbl
  rw[he]at hx
  rw[svm]at hx;obtain⟨cs,hv,hs⟩:=hx
  have he':vs[i]?=some (cr vs i):=by rw[ef,List.getElem?_eq_getElem hlt];rfl
  obtain⟨u,hu,hm⟩:=ee hs he'
  refine⟨u,fun w' _=>?_,hm⟩
  have hu':cs[i]?=some u:=by simpa using hu
  simp[execOp,ho,hv,Instr.extract,hu']
 ·trivial
theorem Ep(h:Sat cx M N env s a.tmps w)(l:List Operand):svms w M cx.R N env (l.map (opnd s.sl)) (l.map a.eval):=by
 induction l with
 | nil=>simp[svms]
 | cons x l ih=>simp only[List.map_cons];rw[svms];exact⟨_,_,rfl,h.opnd x,ih⟩
theorem uW(h:Sat cx M N env s a.tmps w){f:Nat}{first caps:Array Operand}(ho:op.op=.makeFunc (.func f) first caps):gT P op cx M N env s a w (nf T eqn s (.makeFunc (.func f) first caps)):=by
 simp only[nf]
 split
 ·rename_i he
  have hf:first=#[]:=by simpa using he
  subst hf
  refine⟨.func (.func f) #[] (caps.map a.eval),fun w' _=>by simp[execOp,ho,Instr.makeFunc],?_⟩
  rw[svm]
  exact⟨_,rfl,by simpa using Ep h caps.toList⟩
 ·trivial
theorem jC{i:TI}{f:Nat}{x:Nat×Nat×Bool}{d:TypeDesc}(hd:IG P i.d d)(hf:ja i f=some x) :
  ∃ fields fd,d=.struct fields/\fields[f]?=some fd/\fd.offset=x.1/\(P.info? fd.type).map (·.size)=some x.2.1/\(P.underlying fd.type).map yw=some x.2.2/\0<x.2.1:=by
 unfold ja at hf
 split at hf
 ·rename_i fs hfs
  rw[hfs]at hd
  obtain⟨hpos,fields,rfl,hm⟩:=hd
  have:=congrArg (fun l=>l[f]?) hm
  simp only[List.getElem?_map,hf,Option.map_some]at this
  cases hfd:fields.toList[f]? with
  | none=>simp[hfd]at this
  | some fd =>
   simp only[hfd,Option.map_some,Option.some.injEq,Prod.mk.injEq]at this
   exact⟨fields,fd,rfl,by simpa using hfd,this.1,this.2.1,this.2.2,hpos x (List.mem_of_getElem? hf)⟩
 ·cases hf
theorem ss(hT:bK P T)(h:Sat cx M N env s a.tmps w){t:Nat}{x:Operand}{f:Nat}(ho:op.op=.fieldAddr t x f) :
  gT P op cx M N env s a w (nf T eqn s (.fieldAddr t x f)):=by
 have hx:=h.opnd x
 simp only[nf]
 split
 ·rename_i i hi
  obtain⟨inf,d,z,h1,h2,h3,h4,h5,h6,h7,h8,h9⟩:=hT t i hi
  split
  ·rename_i o n ag hf
   obtain⟨fields,fd,rfl,g1,g2,g3,g4,g5⟩:=jC h9 hf
   have run:∀ b off,a.eval x=.pointer (some ⟨b,off,none⟩)->eJ P op a w (.pointer (some ⟨b,off+o,none⟩)):=fun b off hv w _=>by
    have this:(fieldPlace ⟨b,off,none⟩ fd).run P w=.ok ⟨b,off+o,none⟩ w:=by
     cases hi2:P.info? fd.type with
     | none=>simp[hi2]at g3
     | some inf2 =>
      have hne:inf2.size≠0:=by simp[hi2]at g3;dsimp only at g5;omega
      simp[fieldPlace,Go.sizeOf,typeInfo,hi2,hne,g2,add_zero]
    simp[execOp,ho,Instr.fieldAt,run_underlying h2,g1,hv,Instr.sureAddr,this]
   split
   ·rename_i k off he
    rw[he]at hx;rw[svm]at hx;obtain⟨b,hb,hv⟩:=hx
    exact⟨_,run _ _ hv,by rw[svm];exact⟨b,hb,by rw[Nat.add_assoc]⟩⟩
   ·rename_i k sz j off he
    rw[he]at hx;rw[svm]at hx;obtain⟨g,n,c,jj,hb,hj,hl,hv⟩:=hx
    exact⟨_,run _ _ hv,by rw[svm];exact⟨g,n,c,jj,hb,hj,hl,by rw[Nat.add_assoc]⟩⟩
   ·rename_i tt r he
    rw[he]at hx;rw[svm]at hx;obtain⟨b,o',arr,T',fr,hv,hm,hh,hr⟩:=hx
    refine⟨_,run _ _ hv,?_⟩
    rw[svm]
    refine⟨b,o'+o,arr,T',fr,rfl,hm,hh,?_⟩
    have:=dM o hr
    rw[List.drop_take,List.drop_drop]at this
    simpa using this
   ·trivial
  ·trivial
 ·trivial
theorem Sat.slVal(h:Sat cx M N env s a.tmps w){k:Nat}(hg:Eo s k=true):∃ A n c,(N k).v=.slice A n c:=by
 unfold Eo at hg
 split at hg
 ·rename_i e row l hg'
  obtain⟨es,vals,X',h1,h2,h3,_⟩:=(show shC _ _ _ _ _ _ from h.objs k _ hg')
  rcases h3.slice with ⟨q,_⟩|⟨g,o,cap,e0,cur,q,_⟩
  ·exact⟨none,0,0,q⟩
  ·exact⟨_,_,_,q⟩
 ·rename_i e row l i vs hg'
  obtain⟨vals,X1,X2,j,es,h1,h2,h3,h4,h5,_⟩:=h.objs k _ hg'
  rcases h5.2 with ⟨q,_⟩|⟨g,cap,cur,q,_⟩
  ·exact⟨none,0,0,q⟩
  ·exact⟨_,_,_,q⟩
 ·cases hg
theorem yz{R:Nat->Prop}{x:SV}{v:Value}(h:svm w M R N env x v)(hs:x.solid=true)(hk:∀ k,x=.sl k->∃ A n c,(N k).v=.slice A n c):svms w M R N env x.cells v.cells.toList:=by
 have one:v.cells=#[v]->x.cells=[x]->svms w M R N env x.cells v.cells.toList:=fun h1 h2=>by
  rw[h1,h2];simp only[svms];exact⟨v,[],rfl,h,rfl⟩
 cases x<;>simp only[SV.solid,Bool.false_eq_true]at hs
 case agg vs=>rw[svm]at h;obtain⟨cs,rfl,h2⟩:=h;exact h2
 case fn=>rw[svm]at h;obtain⟨cs,rfl,h2⟩:=h;exact one rfl rfl
 case view=>rw[svm]at h;exact one (o9 h).2 rfl
 case sl k=>rw[svm]at h;obtain⟨A,n,c,e⟩:=hk k rfl;subst h;rw[e]at one ⊢;exact one rfl rfl
 case ptr=>rw[svm]at h;obtain⟨b,_,rfl⟩:=h;exact one rfl rfl
 case eptr=>rw[svm]at h;obtain⟨g,n,c,j,_,_,_,rfl⟩:=h;exact one rfl rfl
 case vptr=>rw[svm]at h;obtain⟨b,o,arr,T,fr,rfl,_⟩:=h;exact one rfl rfl
 case blob=>rw[svm]at h;exact one h.2 rfl
 all_goals rw[svm]at h;subst h;exact one rfl rfl
theorem Sat.cells(h:Sat cx M N env s a.tmps w){x:SV}{v:Value}(hx:svm w M cx.R N env x v)(hs:x.plain s=true):svms w M cx.R N env x.cells v.cells.toList:=by
 refine yz hx ?_ ?_
 ·cases x<;>first|rfl|exact hs
 ·intro k e
  subst e
  exact h.slVal hs
theorem FH{R:Nat->Prop}{x:SV}{v:Value}(h:svm w M R N env x v)(ho:x.one=true)(hk:∀ k,x=.sl k->∃ A n c,(N k).v=.slice A n c):v.oneCell'=true:=by
 cases x<;>simp only[SV.one,Bool.false_eq_true]at ho<;>rw[svm]at h
 case fn=>obtain⟨cs,rfl,_⟩:=h;rfl
 case view=>exact(o9 h).1
 case sl k=>subst h;obtain⟨A,n,c,e⟩:=hk k rfl;rw[e];rfl
 case ptr=>obtain⟨b,_,rfl⟩:=h;rfl
 case eptr=>obtain⟨g,n,c,j,_,_,_,rfl⟩:=h;rfl
 case vptr=>obtain⟨b,o,arr,T,fr,rfl,_⟩:=h;rfl
 case blob=>exact h.1
 all_goals subst h;rfl
theorem Sat.ones(h:Sat cx M N env s a.tmps w){xs:List SV}{vs:List Value}(hx:svms w M cx.R N env xs vs)(ha:xs.all (fun c=>c.one && c.plain s)=true):∀ v∈vs,v.oneCell'=true:=by
 induction xs generalizing vs with
 | nil=>rw[svms]at hx;subst hx;simp
 | cons x xs ih =>
  rw[svms]at hx;obtain⟨v,vs',rfl,h1,h2⟩:=hx
  simp only[List.all_cons,Bool.and_eq_true]at ha
  intro u hu
  rcases List.mem_cons.1 hu with rfl|hu
  ·refine FH h1 ha.1.1 (fun k e=>?_)
   have hp:=ha.1.2
   rw[e]at hp
   exact h.slVal hp
  ·exact ih h2 ha.2 u hu
theorem Sat.olds(h:Sat cx M N env s a.tmps w)(ki:KI)(ob:Obj){xs:List SV}{vs:List Value}(hl:SV.alls (fun k=>Nat.blt k s.nx) (fun _=>true) xs=true)(hx:svms w M cx.R N env xs vs) :
  svms (w.alloc ob) M cx.R (ip N s.nx ki) env xs vs :=
 svms.mono (fun b hb=>⟨hb,heap_alloc_old w ob b (h.mlt b hb)⟩) (fun b hb=>heap_alloc_old w ob b (Nat.lt_of_lt_of_le (h.rlt b hb) h.size)) (fun _ hk=>KI.same.of (aO N ki (ap hk))) (fun _ _=>rfl) xs vs hl hx
theorem oe(h:Sat cx M N env s a.tmps w){e:TypeId}{cs:Array Value}{vs:List SV}(hv:svms w M cx.R N env vs cs.toList)(hl:s.ok=true->SV.alls (fun k=>Nat.blt k s.nx) (fun _=>true) vs=true)
  (hr:(execOp a.eval op).run P w=.ok (.value (.pointer (some ⟨w.heap.size,0,none⟩))) (w.alloc (.cells cs e))):gT P op cx M N env s a w (.mk (.ptr s.nx 0) (.cells vs)):=by
 intro hok
 refine⟨_,_,⟨.pointer (some ⟨w.heap.size,0,none⟩),[],[],e,[w.heap.size]⟩,hr,.inl rfl,?_,?_⟩
 ·rw[svm,aR];exact⟨w.heap.size,rfl,rfl⟩
 ·rw[obm,aR]
  exact⟨w.heap.size,cs,cs.toList,rfl,rfl,heap_alloc_new w _,by simp,h.olds _ _ (hl hok) hv⟩
theorem j8{K V:Nat->Bool}:∀ vs:List Value,SV.alls K V (vs.map bu)=true
 | []=>rfl
 | v::vs=>by
  simp only[List.map_cons,SV.alls,j8 vs,Bool.and_true]
  unfold bu;split<;>rfl
theorem CL(hT:bK P T)(h:Sat cx M N env s a.tmps w){t:Nat}(ho:op.op=.alloc t):gT P op cx M N env s a w (nf T eqn s (.alloc t)):=by
 simp only[nf]
 split
 ·rename_i i hi
  obtain⟨inf,d,z,h1,h2,h3,h4,h5,h6,h7,h8,h9⟩:=hT t i hi
  have hr:(execOp a.eval op).run P w=.ok (.value (.pointer (some ⟨w.heap.size,0,none⟩))) (w.alloc (.cells z.cells t)):=by
   simp[execOp,ho,Instr.alloc,zeroValue,typeInfo,h1,h6,newVar,newRow]
  split
  ·rename_i e hd hz
   rw[hz]at h8
   intro _
   have hp:∀ v,.nilptr=bu v->v=.pointer none:=fun v hv=>by unfold bu at hv;split at hv<;>first|rfl|cases hv
   have hs:∀ v,.nil=bu v->v=.slice none 0 0:=fun v hv=>by unfold bu at hv;split at hv<;>first|rfl|cases hv
   have hc:z.cells=#[.pointer none,.slice none 0 0]:=by
    apply Array.ext'
    generalize z.cells.toList=l at h8
    have hl:=congrArg List.length h8
    obtain⟨x,y,rfl⟩:∃ x y,l=[x,y]:=by
     rcases l with _|⟨x,_|⟨y,_|⟨z,l⟩⟩⟩<;>first|exact⟨x,y,rfl⟩|simp at hl
    simp only[List.map_cons,List.map_nil,List.cons.injEq,and_true]at h8
    rw[hp x h8.1,hs y h8.2]
   rw[hc]at hr
   refine⟨_,_,⟨.pointer (some ⟨w.heap.size,0,none⟩),[],[],t,[w.heap.size]⟩,hr,.inl rfl,?_,?_⟩
   ·rw[svm,aR];exact⟨w.heap.size,rfl,rfl⟩
   ·rw[obm,aR]
    exact⟨rfl,w.heap.size,_,_,rfl,.inl rfl,heap_alloc_new w _,⟨rfl,.inl ⟨rfl,rfl⟩⟩,by simp[Value.ownBlock],rfl⟩
  ·exact oe h (e:=t) (cs:=z.cells) (by rw[h8];exact cI _) (fun _=>by rw[h8];exact j8 _) hr
 ·trivial
theorem yA{K V:Nat->Bool}{x:SV}(h:x.all K V=true):SV.alls K V x.cells=true:=by
 cases x<;>first|rfl|(simp only[SV.cells,SV.alls,h,Bool.and_self];done)|exact h
theorem pb(hok:s.ok=true)(x:Operand):(opnd s.sl x).all (fun k=>Nat.blt k s.nx) (fun i=>Nat.blt i s.nv)=true:=by
 cases x with
 | tmp t=>exact pa (St.ok_parts hok).1 t
 | const v=>simp only[opnd];unfold bu;split<;>rfl
 | global g=>rfl
 | func f=>rfl
theorem KF(h:Sat cx M N env s a.tmps w){t:Nat}{x:Operand}(ho:op.op=.box t x):gT P op cx M N env s a w (nf T eqn s (.box t x)):=by
 simp only[nf]
 split
 ·rename_i hp
  refine oe h (e:=t) (cs:=(a.eval x).cells) (h.cells (h.opnd x) hp) (fun hok=>SV.alls_mono (fun _ _=>rfl) _ (yA (pb hok x))) ?_
  simp[execOp,ho,Instr.box,newVar,newRow]
 ·trivial
theorem gg{t:TypeId}{d:TypeDesc}(h:P.underlying t=some d)(w:World):(isAgg t).run P w=.ok (yw d) w:=by
 unfold isAgg
 rw[Sem.run_bind,run_underlying h w]
 cases d<;>simp[yw]
theorem jD(hT:bK P T){t:Nat}{i:TI}(hi:T t=some i){b o:Nat}{arr:Array Value}{ty:TypeId}{fr:Nat×Nat}(hh:w.heap[b]?=some (.cells arr ty fr))(hsz:o+i.sz<=arr.size)
  (hone:i.agg=false->i.sz=1) :
  ∃ val,(Instr.loadAt t (.pointer (some ⟨b,o,none⟩))).run P w=.ok val w/\(i.agg=true->val=.agg ((arr.toList.drop o).take i.sz).toArray)/\(i.agg=false->arr.toList[o]?=some val):=by
 obtain⟨inf,d,z,h1,h2,h3,h4,h5,h6,h7,h8,h9⟩:=hT t i hi
 have hcell:∀ j,w.cell? ⟨b,o+j,none⟩=arr[o+j]?:=fun j=>by simp[World.cell?,hh]
 cases hag:i.agg with
 | true =>
  refine⟨.agg ((arr.toList.drop o).take i.sz).toArray,?_,fun _=>rfl,fun h=>by cases h⟩
  have hl:=run_loadCells_list (P:=P) w ⟨b,o,none⟩ ((arr.toList.drop o).take i.sz) (fun j v hv=>by
   rw[add_zero,hcell]
   rw[List.getElem?_take]at hv
   split at hv
   ·simpa using hv
   ·cases hv)
  have hlen:((arr.toList.drop o).take i.sz).length=i.sz:=by simp;omega
  rw[hlen]at hl
  have hg:=gg h2 w
  rw[h5,hag]at hg
  simp[Instr.loadAt,Instr.sureAddr,loadVar,hg,Go.sizeOf,typeInfo,h1,h3,hl]
 | false =>
  have hs:=hone hag
  rw[hs]at hsz
  have hlt:o<arr.size:=by omega
  refine⟨arr[o],?_,(by simp),fun _=>by simp[hlt]⟩
  have hg:=gg h2 w
  rw[h5,hag]at hg
  have hc:=hcell 0
  rw[Nat.add_zero,Array.getElem?_eq_getElem hlt]at hc
  simp[Instr.loadAt,Instr.sureAddr,loadVar,hg,load,Sem.run,hc]
end
end Dx
namespace Dx
open Go
section
variable {P:Program} {T:Tab} {eqn:Nat->Option Nat} {cx:Ctx} {M:Nat->Prop} {N:Nm} {env:List C} {s:St} {a:Act} {w:World} {op:Oper}
theorem kO{R:Nat->Prop}{xs:List SV}{vs:List Value}(h:svms w M R N env xs vs)(o n:Nat):svms w M R N env ((xs.drop o).take n) ((vs.drop o).take n):=dN n (dM o h)
theorem oh{a b:Bool}(h:(a && b)=true):a=true/\b=true:=by simpa using h
theorem FI{e:Nat}{row:List Sh}{es:List (List C)}{v:Value}{X:List Nat}(he:eH e=true)(h:shC w M (.arr e row) (.list es) v X){j:Nat}{r:List C}(hr:es[j]?=some r) :
  ∃ g cap cur X1 Xr X2,v=.slice (some ⟨g,0,none⟩) es.length cap/\w.heap[g]?=some (.cells cur e (0,0))/\j*row.length+row.length<=cur.size/\X=g::(X1++(Xr++X2)) ∧
   shR w M row r ((cur.toList.drop (j*row.length)).take row.length) Xr:=by
 rw[shC]at h
 obtain⟨es',vals,X',h1,h2,h3,h4,h5,h6⟩:=h
 cases h1
 have hjl:j<es.length:=(List.getElem?_eq_some_iff.1 hr).1
 rcases (h3.own he).2 with ⟨q1,q2⟩|⟨g,cap,cur,q1,_,q2,q3,q4,q5,q6⟩
 ·omega
 ·have hsp:es=es.take j++(r::es.drop (j+1)):=by
   have:r=es[j]:=by rw[List.getElem?_eq_getElem hjl]at hr;simpa using hr.symm
   rw[this,<-List.drop_eq_getElem_cons hjl,List.take_append_drop]
  rw[hsp]at h4
  obtain⟨X1,Y,rfl,g1,g2⟩:=co h4
  obtain⟨Xr,X2,rfl,g3,g4⟩:=g2
  have hlen:(es.take j).length=j:=by rw[List.length_take];omega
  rw[hlen]at g3
  have hle:(j+1)*row.length<=es.length*row.length:=Nat.mul_le_mul_right _ hjl
  have hle2:es.length*row.length<=cap*row.length:=Nat.mul_le_mul_right _ q3
  rw[Nat.add_mul,Nat.one_mul]at hle
  refine⟨g,cap,cur,X1,Xr,X2,q1,q2,by omega,by rw[h2,q1];rfl,?_⟩
  rw[<-q6,List.drop_take,List.take_take,Nat.min_eq_left (by omega)]at g3
  exact g3
theorem iI:∀ {shs:List Sh} {cs:List C} {vs:List Value} {X:List Nat},bL shs=true->shR w M shs cs vs X->repRow w M cs vs
 | [],cs,vs,X,_,h=>by rw[shR]at h;obtain⟨rfl,rfl,rfl⟩:=h;exact cZ _
 | .arr _ _::shs,cs,vs,X,ha,h=>by simp[bL]at ha
 | .val::shs,cs,vs,X,ha,h=>by
  rw[shR]at h
  obtain⟨c,cs',v,vs',X1,X2,rfl,rfl,rfl,h1,h2⟩:=h
  rw[shC]at h1
  rw[repRow]
  exact⟨v,vs',rfl,h1.2,iI (by simpa [bL] using ha) h2⟩
theorem sO:∀ {shs:List Sh} {cs:List C} {vs:List Value} {X:List Nat} {o n:Nat},shR w M shs cs vs X->o+n<=shs.length->∃ Y,shR w M ((shs.drop o).take n) ((cs.drop o).take n) ((vs.drop o).take n) Y
 | shs,cs,vs,X,0,0,_,_=>⟨[],by simp[shR]⟩
 | [],cs,vs,X,o+1,n,_,hl=>by simp at hl
 | [],cs,vs,X,0,n+1,_,hl=>by simp at hl
 | sh::shs,cs,vs,X,o+1,n,h,hl=>by
  rw[shR]at h
  obtain⟨c,cs',v,vs',X1,X2,rfl,rfl,rfl,h1,h2⟩:=h
  simpa using sO (o:=o) (n:=n) h2 (by simp at hl;omega)
 | sh::shs,cs,vs,X,0,n+1,h,hl=>by
  rw[shR]at h
  obtain⟨c,cs',v,vs',X1,X2,rfl,rfl,rfl,h1,h2⟩:=h
  obtain⟨Y,hy⟩:=sO (o:=0) (n:=n) h2 (by simp at hl;omega)
  refine⟨X1++Y,?_⟩
  simp only[List.drop_zero,List.take_succ_cons]at hy ⊢
  rw[shR]
  exact⟨c,_,v,_,X1,Y,rfl,rfl,rfl,h1,hy⟩
theorem Av(hT:bK P T)(h:Sat cx M N env s a.tmps w){t:Nat}{x:Operand}(ho:op.op=.load t x):gT P op cx M N env s a w (nf T eqn s (.load t x)):=by
 have hx:=h.opnd x
 have hrun:∀ val,(∀ w',Alike op a w w'->(Instr.loadAt t (a.eval x)).run P w'=.ok val w')->eJ P op a w val:=fun val hv w' hw=>by simp[execOp,ho,hv w' hw]
 have rd:∀ {i:TI} {b o:Nat} {arr:Array Value} {ty:TypeId} {fr:Nat×Nat},T t=some i->a.eval x=.pointer (some ⟨b,o,none⟩)->w.heap[b]?=some (.cells arr ty fr)->o+i.sz<=arr.size->(i.agg=false->i.sz=1) ->
   ∃ val,eJ P op a w val/\(i.agg=true->val=.agg ((arr.toList.drop o).take i.sz).toArray)/\(i.agg=false->arr.toList[o]?=some val):=by
  intro i b o arr ty fr hi hv hh hsz hone
  obtain⟨val,r1,r2,r3⟩:=jD hT hi hh hsz hone
  refine⟨val,hrun val fun w' hw=>?_,r2,r3⟩
  have hh':=(hw t x b o none ho hv).trans hh
  obtain⟨val',s1,s2,s3⟩:=jD hT hi hh' hsz hone
  have:val'=val:=by
   cases hag:i.agg with
   | true=>rw[r2 hag,s2 hag]
   | false =>
    have e1:=r3 hag
    rw[s3 hag]at e1
    simpa using e1
  rw[hv,<-this];exact s1
 simp only[nf]
 split
 case h_2=>trivial
 rename_i i hi
 split
 case h_4=>trivial
 ·
  rename_i k off he
  rw[he,svm]at hx;obtain⟨b,hb,hv⟩:=hx
  split
  case h_2=>trivial
  rename_i vs hg
  obtain⟨b',arr,us,e1,e2,e3,e4,e5⟩:=h.objs k _ hg
  rw[hb]at e1;simp only[Value.pointer.injEq,Option.some.injEq,Addr.mk.injEq,and_true]at e1;subst e1
  have hlen:=bb e5
  have hal:arr.size=(N k).pre.length+us.length+(N k).post.length:=by rw[<-arr.length_toList,e4];simp[Nat.add_assoc]
  have hdrop:∀ n,off+n<=us.length->(arr.toList.drop ((N k).pre.length+off)).take n=(us.drop off).take n:=by
   intro n hn
   rw[e4,<-List.drop_drop,List.append_assoc,List.drop_left,List.drop_append_of_le_length (by omega),List.take_append_of_le_length (by rw[List.length_drop];omega)]
  split
  case h_3=>trivial
  ·rename_i c1 c2
   have hle:=mR c1
   obtain⟨val,r1,r2,_⟩:=rd hi hv e3 (by omega) (fun hh=>by rw[c2]at hh;cases hh)
   refine⟨val,r1,?_⟩
   rw[svm,r2 c2]
   refine⟨_,rfl,?_⟩
   show svms w M cx.R N env _ ((arr.toList.drop ((N k).pre.length+off)).take i.sz)
   rw[hdrop i.sz (by omega)]
   exact kO e5 off i.sz
  ·rename_i c1 c2 c3
   have hle:=mR c1
   have h1:=br c3
   obtain⟨val,r1,_,r3⟩:=rd hi hv e3 (by omega) (fun _=>h1)
   refine⟨val,r1,?_⟩
   have hoff:off<vs.length:=by omega
   have he':vs[off]?=some (cr vs off):=by rw[ef,List.getElem?_eq_getElem hoff];rfl
   obtain⟨u,hu,hm⟩:=ee e5 he'
   have:=r3 c2
   rw[e4,List.append_assoc,List.getElem?_append_right (by omega),List.getElem?_append_left (by omega)]at this
   simp only[Nat.add_sub_cancel_left]at this
   rw[hu]at this;simp at this;subst this;exact hm
 ·
  rename_i tt r he
  rw[he,svm]at hx;obtain⟨b,o,arr,ty,fr,hv,hm,hh,hr⟩:=hx
  have hlen:=bb hr
  rw[List.length_take,List.length_drop,arr.length_toList]at hlen
  split
  case h_3=>trivial
  ·rename_i c1 c2
   have hle:=mR c1
   by_cases hz:i.sz=0
   ·obtain⟨inf,d,z,h1,h2,h3,h4,h5,h6,h7,h8,h9⟩:=hT t i hi
    refine⟨.agg #[],hrun _ fun w' _=>?_,?_⟩
    ·have hg:=gg h2 w'
     rw[h5,c2]at hg
     rw[hv];simp[Instr.loadAt,Instr.sureAddr,loadVar,hg,Go.sizeOf,typeInfo,h1,h3,hz,loadCells,loadCellsFrom]
    ·rw[svm];exact⟨#[],rfl,by rw[hz];simp[svms]⟩
   ·obtain⟨val,r1,r2,_⟩:=rd hi hv hh (by omega) (fun hh=>by rw[c2]at hh;cases hh)
    refine⟨val,r1,?_⟩
    rw[svm,r2 c2]
    refine⟨_,rfl,?_⟩
    have:=dN i.sz hr
    rw[List.take_take,Nat.min_eq_left hle]at this
    exact this
  ·rename_i c1 c2 c3
   have hle:=mR c1
   have h1:=br c3
   obtain⟨val,r1,_,r3⟩:=rd hi hv hh (by omega) (fun _=>h1)
   refine⟨val,r1,?_⟩
   have hoff:0<r.length:=by omega
   have he':r[0]?=some (cr r 0):=by rw[ef,List.getElem?_eq_getElem hoff];rfl
   obtain⟨u,hu,hm⟩:=ee hr he'
   rw[List.getElem?_take,if_pos hoff,List.getElem?_drop,Nat.add_zero,r3 c2]at hu
   simp at hu;subst hu;exact hm
 ·
  rename_i k sz jj off he
  rw[he,svm]at hx;obtain⟨g,n,c,j0,hb,hj0,hjn,hv⟩:=hx
  split
  case h_2=>trivial
  rename_i e row l hg
  have hob:shC w M (.arr e row) (.list (l.den env).toList) (N k).v (N k).φ:=h.objs k _ hg
  split
  case h_2=>trivial
  rename_i ie c1 c2 c3 hie
  have hsm:=(oh c1).2
  have hsz:=br (oh c1).1;subst hsz
  have hle:=mR c2
  have key:∀ j r,(jj.den env).toInt=(j:Nat)->(l.den env).toList[j]?=some r->∃ cur ty fr,w.heap[g]?=some (.cells cur ty fr)/\j0*row.length+row.length<=cur.size/\repRow w M ((r.drop off).take i.sz) ((cur.toList.drop (j0*row.length+off)).take i.sz)/\r.length=row.length:=by
   intro j r hj hr
   have:j=j0:=by omega
   subst this
   obtain⟨g',cap,cur,X1,Xr,X2,q1,q2,q3,q4,q5⟩:=FI hsm hob hr
   rw[hb]at q1
   simp only[Value.slice.injEq,Option.some.injEq,Addr.mk.injEq,and_true]at q1
   obtain⟨rfl,_,_⟩:=q1
   have q6:=sO (o:=off) (n:=i.sz) q5 hle
   obtain⟨Y,q7⟩:=q6
   rw[List.drop_take,List.take_take,List.drop_drop,Nat.min_eq_left (by omega)]at q7
   exact⟨cur,e,(0,0),q2,q3,iI c3 q7,(cD q5).1⟩
  split
  case h_3=>trivial
  ·rename_i ks c4 c5
   split
   case h_2=>trivial
   intro j r hj hr hk
   obtain⟨cur,ty,fr,k1,k2,k3,k4⟩:=key j r hj hr
   obtain⟨val,r1,r2,_⟩:=rd hi hv k1 (by omega) (fun hh=>by rw[c5]at hh;cases hh)
   exact⟨val,_,r1,by rw[List.length_take,List.length_drop,cur.length_toList];omega,k3,fun _=>r2 c5,(by simp),by omega⟩
  ·rename_i ks c4 c5 c6
   have h1:=br c6
   split
   case h_2=>trivial
   intro j r hj hr hk
   obtain⟨cur,ty,fr,k1,k2,k3,k4⟩:=key j r hj hr
   obtain⟨val,r1,_,r3⟩:=rd hi hv k1 (by omega) (fun _=>h1)
   rw[h1]at k3
   refine⟨val,_,r1,by rw[List.length_take,List.length_drop,cur.length_toList];omega,k3,(by simp),fun _=>?_,by omega⟩
   have:=r3 c5
   have hlt:j0*row.length+off<cur.toList.length:=by rw[cur.length_toList];omega
   rw[List.getElem?_eq_getElem hlt]at this
   simp only[Option.some.injEq]at this
   rw[List.drop_eq_getElem_cons hlt,this];rfl
theorem CM(hT:bK P T)(h:Sat cx M N env s a.tmps w){t:Nat}{x:Operand}{f:Nat}(ho:op.op=.field t x f):gT P op cx M N env s a w (nf T eqn s (.field t x f)):=by
 have hx:=h.opnd x
 simp only[nf]
 split
 case h_2=>trivial
 rename_i i hi
 obtain⟨inf,d,z,h1,h2,h3,h4,h5,h6,h7,h8,h9⟩:=hT t i hi
 split
 case h_3=>trivial
 ·rename_i o n vs hf he
  obtain⟨fields,fd,rfl,g1,g2,g3,g4,g5⟩:=jC h9 hf
  rw[he]at hx;rw[svm]at hx;obtain⟨cs,hv,hs⟩:=hx
  dsimp only at g2 g3 g4
  cases hi2:P.info? fd.type with
  | none=>simp[hi2]at g3
  | some inf2 =>
   simp only[hi2,Option.map_some,Option.some.injEq]at g3
   cases hu:P.underlying fd.type with
   | none=>simp[hu]at g4
   | some d2 =>
    simp only[hu,Option.map_some,Option.some.injEq]at g4
    refine⟨.agg (cs.extract o (o+n)),fun w' _=>?_,?_⟩
    ·have hg:=gg hu w'
     rw[g4]at hg
     simp[execOp,ho,Instr.field,run_underlying h2,g1,hv,asAgg,part,hg,Go.sizeOf,typeInfo,hi2,g2,g3]
    ·rw[svm]
     refine⟨_,rfl,?_⟩
     have:=kO hs o n
     rw[Array.toList_extract,List.extract_eq_take_drop]
     simpa using this
 ·rename_i o n vs hf he
  split
  case h_2=>trivial
  rename_i hbl
  have hlt:=ap hbl
  obtain⟨fields,fd,rfl,g1,g2,g3,g4,g5⟩:=jC h9 hf
  rw[he]at hx;rw[svm]at hx;obtain⟨cs,hv,hs⟩:=hx
  dsimp only at g2 g3 g4
  cases hu:P.underlying fd.type with
  | none=>simp[hu]at g4
  | some d2 =>
   simp only[hu,Option.map_some,Option.some.injEq]at g4
   have he':vs[o]?=some (cr vs o):=by rw[ef,List.getElem?_eq_getElem hlt];rfl
   obtain⟨u,hu',hm⟩:=ee hs he'
   have hu2:cs[o]?=some u:=by simpa using hu'
   refine⟨u,fun w' _=>?_,hm⟩
   have hg:=gg hu w'
   rw[g4]at hg
   simp[execOp,ho,Instr.field,run_underlying h2,g1,hv,asAgg,part,hg,g2,hu2]
theorem Aw{k:IntKind}{n l:At}(hc:((Prim.idx).den (aK env [ci k n,cl l])).toBool=true):∃ j:Nat,(n.den env).toInt=j/\j<(l.den env).toList.length:=by
 have h2:(decide (0<=(n.den env).toInt) && decide ((n.den env).toInt<(l.den env).toList.length))=true:=hc
 simp only[Bool.and_eq_true,decide_eq_true_eq]at h2
 exact⟨(n.den env).toInt.toNat,by omega,by omega⟩
theorem su(hT:bK P T)(h:Sat cx M N env s a.tmps w){t:Nat}{x ix:Operand}(ho:op.op=.indexAddr t x ix):gT P op cx M N env s a w (nf T eqn s (.indexAddr t x ix)):=by
 have hx:=h.opnd x
 have hix:=h.opnd ix
 simp only[nf]
 split
 case h_2=>trivial
 rename_i i hi
 obtain⟨inf,d,z,h1,h2,h3,h4,h5,h6,h7,h8,h9⟩:=hT t i hi
 split
 case h_3=>trivial
 case h_2 =>
  rename_i len e hd
  rw[hd]at h9
  have h9:d=.array len e:=h9
  subst h9
  split
  case h_2=>trivial
  rename_i ie k off kk z hie he hn
  split
  case h_2=>trivial
  rename_i c1 c2
  rw[he,svm]at hx
  rw[hn,svm]at hix
  obtain⟨b,hb,hv⟩:=hx
  obtain⟨inf',d',z',q1,q2,q3,_⟩:=hT e ie hie
  have c1:=of_decide_eq_true c1
  have c2:=of_decide_eq_true c2
  have hix:a.eval ix=.int kk z:=hix
  refine⟨.pointer (some ⟨b,(N k).pre.length+(off+z.toNat*ie.sz),none⟩),fun w' _=>?_,by rw[svm];exact⟨b,hb,rfl⟩⟩
  simp[execOp,ho,Instr.indexAt,hix,hv,asIntOf,run_underlying h2,c1,c2,Go.sizeOf,typeInfo,q1,q3,Instr.sureAddr,Addr.add,Nat.add_assoc]
 rename_i e hd
 rw[hd]at h9
 have h9:d=.slice e:=h9
 subst h9
 have run:∀(k:IntKind) (n:Int) (ie:TI) (A:Addr) (len c:Nat),T e=some ie->a.eval ix=.int k n->a.eval x=.slice (some A) len c->0<=n->n<len ->
   eJ P op a w (.pointer (some (A.add (n.toNat*ie.sz)))):=by
  intro k n ie A len c hie hn hv h0 hlt w' _
  obtain⟨inf',d',z',q1,q2,q3,_⟩:=hT e ie hie
  simp[execOp,ho,Instr.indexAt,hn,hv,asIntOf,run_underlying h2,h0,hlt,Go.sizeOf,typeInfo,q1,q3]
 split
 case h_3=>trivial
 ·
  rename_i ie tt l k n hie he hn
  rw[he,svm,repC]at hx
  rw[hn,svm]at hix
  split
  case h_2=>trivial
  rename_i ks hks
  split
  case h_2=>trivial
  rename_i hbk
  have hksz:=br hbk
  obtain⟨A,c,hv,hc,hL,hrep⟩:=hx
  intro j r hj hr hkd
  have hlt:j<(l.den env).toList.length:=(List.getElem?_eq_some_iff.1 hr).1
  have hne:(l.den env).toList≠[]:=fun e0=>by rw[e0]at hlt;simp at hlt
  obtain⟨b,o,sz,arr,ty,fr,rfl,hM,hh,hs,hrows⟩:=hrep.resolve_left hne
  obtain⟨l1,l2⟩:=fE hrows hr
  have hrun:=run k _ ie _ _ c hie hix hv (by omega) (by omega)
  rw[add_zero,hj]at hrun
  have hszz:ie.sz=sz:=by rw[<-hksz,<-aJ hkd,l1]
  refine⟨b,_,arr,ty,fr,hrun,hM,hh,?_⟩
  rw[hszz,Int.toNat_natCast,<-List.drop_drop];exact l2
 ·
  rename_i ie k kk n hie he hn
  rw[he,svm]at hx
  rw[hn,svm]at hix
  have fin:∀(es:List (List C)) (e':Nat) (row:List Sh) (vals:List Value),w.ownsRow 0 e' row.length (N k).v es.length vals->Nat.beq row.length ie.sz=true->∀ j:Nat,(n.den env).toInt=j->j<es.length ->
    ∃ val,eJ P op a w val/\svm w M cx.R N env (.eptr k ie.sz n 0) val:=by
   intro es e' row vals hown hb j hj hlt
   have hsz:=br hb
   rcases hown.2 with ⟨q1,q2⟩|⟨g,cap,cur,q1,_,q2,q3,_⟩
   ·omega
   ·rw[q1]at hx
    have hrun:=run kk _ ie _ _ cap hie hix hx (by omega) (by omega)
    rw[add_zero,Nat.zero_add,hj,Int.toNat_natCast]at hrun
    refine⟨_,hrun,?_⟩
    rw[svm]
    exact⟨g,_,cap,j,q1,hj,hlt,by simp⟩
  split
  ·rename_i e' row l hg
   split
   case h_2=>trivial
   rename_i hb
   intro hc
   obtain⟨j,hj,hlt⟩:=Aw hc
   obtain⟨es,vals,X',g1,g2,g3,_⟩:=(show shC _ _ _ _ _ _ from h.objs k _ hg)
   cases g1
   exact fin _ _ _ _ (g3.own (oh hb).2) (oh hb).1 j hj hlt
  ·rename_i e' row l _ _ hg
   split
   case h_2=>trivial
   rename_i hb
   intro hc
   obtain⟨j,hj,hlt⟩:=Aw hc
   obtain⟨vals,X1,X2,j',es,g1,g2,g3,g4,g5,_⟩:=h.objs k _ hg
   subst g1
   exact fin _ _ _ _ g5 hb j hj hlt
  ·trivial
theorem yB(hT:bK P T)(h:Sat cx M N env s a.tmps w){src dst:Nat}{x:Operand}(ho:op.op=.convert src dst x):gT P op cx M N env s a w (nf T eqn s (.convert src dst x)):=by
 have hx:=h.opnd x
 simp only[nf]
 split
 case h_2=>trivial
 rename_i i j k n hi hj he
 rw[he,svm]at hx
 obtain⟨_,d,_,_,h2,_,_,_,_,_,_,h9⟩:=hT src i hi
 obtain⟨_,d',_,_,h2',_,_,_,_,_,_,h9'⟩:=hT dst j hj
 split
 case h_2=>trivial
 rename_i k1 k2 e1 e2
 rw[e1]at h9;rw[e2]at h9'
 have h9:d=.int k1:=h9
 have h9':d'=.int k2:=h9'
 subst h9;subst h9'
 refine⟨.int k2 (k2.wrap (n.den env).toInt),fun w' _=>?_,rfl⟩
 simp[execOp,ho,hx,convert,run_underlying h2,run_underlying h2',Conv.intToInt]
theorem bj:∀(xs ys:List Cell),aK env (xs++ys)=aK env xs++aK env ys
 | [],_=>rfl
 | x::xs,ys=>by simp[aK,bj xs ys]
theorem cU:∀(xs:List Cell),(aK env xs).length=xs.length
 | []=>rfl
 | x::xs=>by simp[aK,cU xs]
theorem lY{R:Nat->Prop}:∀ {xs ys:List SV} {us vs:List Value} {cs ds:List Cell},cN xs ys=some (cs,ds)->svms w M R N env xs us->svms w M R N env ys vs ->
  ∃ ps qs:List (IntKind×Int),us=ps.map (fun p=>Value.int p.1 p.2)/\vs=qs.map (fun p=>Value.int p.1 p.2)/\ps.length=xs.length/\ps.map (·.1)=qs.map (·.1)/\ps.map (·.2)=i9 (aK env cs)/\qs.map (·.2)=i9 (aK env ds)/\cs.length=xs.length
 | [],[],us,vs,cs,ds,h,hx,hy=>by
  rw[svms]at hx hy;subst hx;subst hy
  simp only[cN,Option.some.injEq,Prod.mk.injEq]at h
  obtain⟨rfl,rfl⟩:=h
  exact⟨[],[],rfl,rfl,rfl,rfl,rfl,rfl,rfl⟩
 | [],_::_,us,vs,cs,ds,h,_,_=>by simp[cN]at h
 | x::xs,[],us,vs,cs,ds,h,_,_=>by cases x<;>simp[cN]at h
 | x::xs,y::ys,us,vs,cs,ds,h,hx,hy=>by
  cases x<;>try (simp[cN]at h;done)
  case int k a =>
   cases y<;>try (simp[cN]at h;done)
   case int k' b =>
    rw[svms]at hx hy
    obtain⟨u,us',rfl,h1,h2⟩:=hx
    obtain⟨v,vs',rfl,h3,h4⟩:=hy
    rw[svm]at h1 h3;subst h1;subst h3
    simp only[cN]at h
    split at h
    case h_2=>cases h
    rename_i hk
    have:=cQ hk;subst this
    split at h
    case h_2=>cases h
    rename_i cs' ds' hr
    simp only[Option.some.injEq,Prod.mk.injEq]at h
    obtain⟨rfl,rfl⟩:=h
    obtain⟨ps,qs,e1,e2,e3,e4,e5,e6,e7⟩:=lY hr h2 h4
    refine⟨(k,(a.den env).toInt)::ps,(k,(b.den env).toInt)::qs,by simp[e1],by simp[e2],by simp[e3],by simp[e4],?_,?_,by simp[e7]⟩
    ·simp[aK,i9,Cell.den,ci,e5]
    ·simp[aK,i9,Cell.den,ci,e6]
theorem CN(hT:bK P T)(hE:Cd P eqn)(h:Sat cx M N env s a.tmps w){bop:BinOp}{t t':Nat}{x y:Operand}(ho:op.op=.binOp bop t x y t'):gT P op cx M N env s a w (nf T eqn s (.binOp bop t x y t')):=by
 have hx:=h.opnd x
 have hy:=h.opnd y
 simp only[nf]
 split
 ·rename_i k m k' n e1 e2
  split
  case h_2=>trivial
  rename_i hk
  have:=cQ hk;subst this
  exact FF h ho (cJ h e1) (cJ h e2)
 ·rename_i xs ys e1 e2
  rw[e1,svm]at hx;rw[e2,svm]at hy
  obtain⟨cs0,hv,hs⟩:=hx
  obtain⟨ds0,hu,hs'⟩:=hy
  have key:∀ n cs ds,eqn t=some n->Nat.beq xs.length n=true->cN xs ys=some (cs,ds)->(bop=.eql\/bop=.neq)->cs.length=n/\eJ P op a w (.bool (if bop=.eql then i9 (aK env cs)==i9 (aK env ds) else !(i9 (aK env cs)==i9 (aK env ds)))):=by
   intro n cs ds hn hb hr hop
   obtain⟨ps,qs,p1,p2,p3,p4,p5,p6,p7⟩:=lY hr hs hs'
   refine⟨by rw[p7];exact br hb,fun w _=>?_⟩
   have:=hE t n hn bop ps qs x y w hop (by rw[p3];exact br hb) p4
   rw[<-p1,<-p2]at this
   simp only[Array.toArray_toList]at this
   rw[p5,p6]at this
   simp only[Sem.run_bind]at this
   simp only[execOp,ho,hv,hu,Sem.run_bind]
   cases hq:(eqGuard bop t x y (.agg cs0) (.agg ds0)).run P w with
   | halt q w'=>rw[hq]at this;simp at this
   | ok q w' =>
    rw[hq]at this
    simp only[Result.andThen_ok]at this ⊢
    rw[this]
    simp
  have hden:∀ n (cs ds:List Cell),cs.length=n->i9 ((aK env (cs++ds)).take n)=i9 (aK env cs)/\i9 ((aK env (cs++ds)).drop n)=i9 (aK env ds):=by
   intro n cs ds hl
   rw[bj]
   exact⟨by rw[List.take_left' (by rw[cU];exact hl)],by rw[List.drop_left' (by rw[cU];exact hl)]⟩
  split
  ·rename_i n hn
   split
   case h_2=>trivial
   rename_i cs ds hb hr
   obtain⟨k1,k2⟩:=key n cs ds hn hb hr (.inl rfl)
   obtain⟨k3,k4⟩:=hden n cs ds k1
   refine⟨_,k2,?_⟩
   simp only[VT.m,Prim.den,C.toBool,k3,k4,if_true]
  ·rename_i n hn
   split
   case h_2=>trivial
   rename_i cs ds hb hr
   obtain⟨k1,k2⟩:=key n cs ds hn hb hr (.inr rfl)
   obtain⟨k3,k4⟩:=hden n cs ds k1
   refine⟨_,k2,?_⟩
   simp only[VT.m,Prim.den,C.toBool,k3,k4]
   simp
  ·trivial
 ·rename_i p q hp hq
  have hp':=z0 h hp
  have hq':=z0 h hq
  have hg:∀(w:World) (o:BinOp),(eqGuard o t x y (.string (p.den env).toStr) (.string (q.den env).toStr)).run P w=.ok () w:=fun w o=>by
   unfold eqGuard
   cases o<;>simp
  have heq:((p.den env).toStr.toList==(q.den env).toStr.toList)=decide ((p.den env).toStr=(q.den env).toStr):=yx _ _
  split
  ·refine⟨.bool (decide ((p.den env).toStr=(q.den env).toStr)),fun w _=>?_,rfl⟩
   simp[execOp,ho,hp',hq',hg,binOp_string_eql,heq]
  ·refine⟨.bool (!decide ((p.den env).toStr=(q.den env).toStr)),fun w _=>?_,rfl⟩
   simp[execOp,ho,hp',hq',hg,binOp_string_neq,heq]
  ·intro hc
   have hc:(p.den env).toStr.size+(q.den env).toStr.size<=1099511627776:=of_decide_eq_true hc
   refine⟨.string ((p.den env).toStr++(q.den env).toStr),fun w _=>?_,rfl⟩
   simp[execOp,ho,hp',hq',hg,binOp_string_add,run_string_add_sum (P:=P) w _ _ (show (p.den env).toStr.size+(q.den env).toStr.size<=9223372036854775807 by omega)]
  ·trivial
 ·rename_i p q hp hq
  split
  case h_2=>trivial
  rename_i i hi
  have hp':=kZ h hp
  have hq':=kZ h hq
  obtain⟨_,d,_,_,h2,_,_,_,_,_,_,h9⟩:=hT t i hi
  have hg:∀(w:World) (o:BinOp),(eqGuard o t x y (.bool (p.den env).toBool) (.bool (q.den env).toBool)).run P w=.ok () w:=fun w o=>by
   unfold eqGuard
   cases o<;>simp
  split
  case h_3=>trivial
  ·rename_i hd
   rw[hd]at h9
   have h9:d=.bool:=h9
   subst h9
   refine⟨.bool ((p.den env).toBool==(q.den env).toBool),fun w _=>?_,rfl⟩
   simp[execOp,ho,hp',hq',hg,run_eql_bool w t (p.den env).toBool (q.den env).toBool h2]
  ·rename_i hd
   rw[hd]at h9
   have h9:d=.bool:=h9
   subst h9
   refine⟨.bool (!((p.den env).toBool==(q.den env).toBool)),fun w _=>?_,rfl⟩
   simp[execOp,ho,hp',hq',hg,run_neq_bool w t (p.den env).toBool (q.den env).toBool h2]
 ·trivial
theorem CO(s:ByteArray)(i:Nat)(hi:i<s.size):s[i]=s.data.toList.getD i 0:=by
 have h':i<s.data.toList.length:=by simpa using hi
 rw[List.getD,List.getElem?_eq_getElem h']
 simp
 rfl
theorem CP(hT:bK P T)(h:Sat cx M N env s a.tmps w){t:Nat}{x ix:Operand}(ho:op.op=.index t x ix):gT P op cx M N env s a w (nf T eqn s (.index t x ix)):=by
 simp only[nf]
 split
 case h_2=>trivial
 rename_i i b k n hi hx hix
 split
 case h_2=>trivial
 rename_i hd
 obtain⟨inf,d,z,h1,h2,h3,h4,h5,h6,h7,h8,h9⟩:=hT t i hi
 rw[hd]at h9
 have h9:d=.string:=h9
 subst h9
 intro hc
 have hc:(decide (0<=(n.den env).toInt) && decide ((n.den env).toInt<(b.den env).toStr.size))=true:=hc
 simp only[Bool.and_eq_true,decide_eq_true_eq]at hc
 have e1:=z0 h hx
 have e2:=cJ h hix
 refine⟨.int .u8 (((b.den env).toStr.data.toList.getD (n.den env).toInt.toNat 0).toNat),fun w _=>?_,rfl⟩
 have hlt:(n.den env).toInt.toNat<(b.den env).toStr.size:=by omega
 have hr:=run_index_string (P:=P) w t (b.den env).toStr k (n.den env).toInt h2
 rw[dif_pos ⟨hc.1,by omega⟩]at hr
 simp only[execOp,ho,e1,e2,Sem.run_bind,hr,Result.andThen_ok,Sem.run_pure]
 rw[CO _ _ hlt]
theorem Ax{R:Nat->Prop}:∀ {vs:List SV} {us:List Value} {cells:List SV} {arr:Array Value} {off j:Nat},svms w M R N env cells arr.toList->svms w M R N env vs us ->
  svms w M R N env (rH cells (off+j) vs) ((us.zipIdx j).foldl (fun cs (p:Value×Nat)=>cs.setIfInBounds (off+p.2) p.1) arr).toList
 | [],us,cells,arr,off,j,h,h'=>by rw[svms]at h';subst h';simpa [rH] using h
 | v::vs,us,cells,arr,off,j,h,h'=>by
  rw[svms]at h';obtain⟨u,us',rfl,h1,h2⟩:=h'
  simp only[rH,List.zipIdx_cons,List.foldl_cons]
  have h3:=vy (k:=off+j) h h1
  have h4:(arr.setIfInBounds (off+j) u).toList=arr.toList.set (off+j) u:=Array.toList_setIfInBounds
  rw[<-h4]at h3
  rw[gS]
  exact Ax (j:=j+1) h3 h2
theorem vF:∀(vs:List SV) (cells:List SV) (off:Nat),(rH cells off vs).length=cells.length
 | [],_,_=>rfl
 | v::vs,cells,off=>by simp[rH,gS,vF vs]
theorem ol(h:Sat cx M N env s a.tmps w){place:Nat->Option (Nat×Nat)}:∀ {parts:List (Nat×Operand)} {cells cells':List SV} {arr:Array Value},svms w M cx.R N env cells arr.toList ->
  qT s place cells (parts.map fun p=>(p.1,opnd s.sl p.2))=some cells' ->
  ∃ arr',Instr.fill place arr (parts.map fun p=>(p.1,a.eval p.2))=some arr'/\svms w M cx.R N env cells' arr'.toList
 | [],cells,cells',arr,hc,hf=>by
  simp only[List.map_nil,qT,Option.some.injEq]at hf;subst hf
  exact⟨arr,rfl,hc⟩
 | (i,x)::parts,cells,cells',arr,hc,hf=>by
  simp only[List.map_cons,qT]at hf
  split at hf
  ·rename_i off size hp hpl
   split at hf
   ·rename_i c1 c2
    have hcells:=h.cells (h.opnd x) hpl
    have hlen:=bb hcells
    have hlen2:=bb hc
    have e1:=br c1
    have e2:=mR c2
    rw[Array.length_toList]at hlen hlen2
    have hput:=Ax (off:=off) (j:=0) hc hcells
    rw[Nat.add_zero]at hput
    obtain⟨arr',g1,g2⟩:=ol h hput hf
    refine⟨arr',?_,g2⟩
    simp only[List.map_cons,Instr.fill,hp]
    have hb:((a.eval x).cells.size≠size || decide (off+(a.eval x).cells.size>arr.size))=false:=by
     have:(a.eval x).cells.size=size:=by omega
     simp[this];omega
    rw[if_neg (by simpa using hb),<-g1]
    congr 1
    rw[<-Array.foldl_toList,Array.toList_zipIdx]
   ·cases hf
  ·cases hf
theorem rJ:∀ {l:List Field} {fs:List (Nat×Nat×Bool)},l.map (fun f=>(f.offset,(P.info? f.type).map (·.size),(P.underlying f.type).map yw))=fs.map (fun x=>(x.1,some x.2.1,some x.2.2)) ->
  l.mapM (fun f=>(P.info? f.type).map fun i=>(f.offset,i.size))=some (fs.map fun x=>(x.1,x.2.1))
 | [],[],_=>rfl
 | [],_::_,h=>by simp at h
 | _::_,[],h=>by simp at h
 | f::l,x::fs,hm=>by
  simp only[List.map_cons,List.cons.injEq,Prod.mk.injEq]at hm
  obtain⟨⟨m1,m2,m3⟩,m4⟩:=hm
  cases hi2:P.info? f.type with
  | none=>simp[hi2]at m2
  | some inf2 =>
   simp only[hi2,Option.map_some,Option.some.injEq]at m2
   simp[List.mapM_cons,hi2,rJ m4,m1,m2]
theorem CQ(hT:bK P T)(h:Sat cx M N env s a.tmps w){t:Nat}{parts:Array (Nat×Operand)}(ho:op.op=.build t parts):gT P op cx M N env s a w (nf T eqn s (.build t parts)):=by
 simp only[nf]
 split
 case h_2=>trivial
 rename_i i hi
 obtain⟨inf,d,z,h1,h2,h3,h4,h5,h6,h7,h8,h9⟩:=hT t i hi
 split
 case h_3=>trivial
 case h_2 =>
  rename_i len e hd
  split
  case h_2=>trivial
  rename_i ie hie
  split
  case h_2=>trivial
  rename_i cells hf
  rw[hd]at h9
  have h9:d=.array len e:=h9
  subst h9
  obtain⟨inf',d',z',q1,q2,q3,_⟩:=hT e ie hie
  have hz:svms w M cx.R N env i.zero z.cells.toList:=by rw[h8];exact cI _
  obtain⟨arr',g1,g2⟩:=ol h hz hf
  have hbuilt:P.built t (parts.map fun p=>(p.1,a.eval p.2)).toList=some arr':=by
   simp only[Program.built,h1,h2,h6]
   rw[Array.toList_map,<-g1]
   simp[q1,q3]
  refine⟨.agg arr',fun w _=>?_,by rw[svm];exact⟨arr',rfl,g2⟩⟩
  have:=run_build w t (parts.map fun p=>(p.1,a.eval p.2)) arr' hbuilt
  simp[execOp,ho,this]
 rename_i fs hd
 split
 case h_2=>trivial
 rename_i cells hf
 rw[hd]at h9
 obtain⟨hpos,fields,rfl,hm⟩:=h9
 have hz:svms w M cx.R N env i.zero z.cells.toList:=by rw[h8];exact cI _
 obtain⟨arr',g1,g2⟩:=ol h hz hf
 have hplaces:=rJ hm
 have hbuilt:P.built t (parts.map fun p=>(p.1,a.eval p.2)).toList=some arr':=by
  simp only[Program.built,h1,h2,h6,hplaces]
  rw[Array.toList_map,<-g1]
  congr 1
  funext j
  simp only[ja,hd]
  simp
 refine⟨.agg arr',fun w _=>?_,by rw[svm];exact⟨arr',rfl,g2⟩⟩
 have:=run_build w t (parts.map fun p=>(p.1,a.eval p.2)) arr' hbuilt
 simp[execOp,ho,this]
theorem rK(k:IntKind)(n:Int)(y:Nat)(c:BoundsCode)(h0:0<=n)(h1:n<=y)(w:World):(Instr.sliceBound (.int k n) y c).run P w=.ok n.toNat w:=by
 simp[Instr.sliceBound,asIntOf,h0,h1]
theorem om{t e:Nat}{inf:TypeInfo}(ht:P.underlying t=some (.slice e))(hi:P.info? e=some inf){A:Option Addr}{len cap:Nat}{k:IntKind}{h:Int}(h0:0<=h)(h1:h<=cap)(w:World) :
  (Instr.sliceAt t (.slice A len cap) none (some (.int k h)) none).run P w=.ok (.slice (if cap=0 then A else A.map (·.add 0)) h.toNat cap) w:=by
 simp[Instr.sliceAt,run_underlying ht,Instr.slice,Instr.sliceBounds,rK k h cap _ h0 h1,Go.sizeOf,typeInfo,hi]
theorem oo{t e:Nat}{inf:TypeInfo}(ht:P.underlying t=some (.slice e))(hi:P.info? e=some inf){A:Option Addr}{len cap:Nat}{k:IntKind}{l:Int}(h0:0<=l)(h1:l<=len)(w:World) :
  (Instr.sliceAt t (.slice A len cap) (some (.int k l)) none none).run P w=.ok (.slice (if cap=l.toNat then A else A.map (·.add (l.toNat*inf.size))) (len-l.toNat) (cap-l.toNat)) w:=by
 simp[Instr.sliceAt,run_underlying ht,Instr.slice,Instr.sliceBounds,rK k l len _ h0 h1,Go.sizeOf,typeInfo,hi]
theorem Ay(A:Option Addr):A.map (·.add 0)=A:=by
 cases A with
 | none=>rfl
 | some ad=>simp[Addr.add]
theorem pc{k:IntKind}{n l:At}(hc:((Prim.upto).den (aK env [ci k n,cl l])).toBool=true):∃ j:Nat,(n.den env).toInt=j/\j<=(l.den env).toList.length:=by
 have h2:(decide (0<=(n.den env).toInt) && decide ((n.den env).toInt<=(l.den env).toList.length))=true:=hc
 simp only[Bool.and_eq_true,decide_eq_true_eq]at h2
 exact⟨(n.den env).toInt.toNat,by omega,by omega⟩
theorem KG(hT:bK P T)(h:Sat cx M N env s a.tmps w){t:Nat}{x:Operand}{lo hi:Option Operand}(ho:op.op=.slice t x lo hi none) :
  gT P op cx M N env s a w (EK T t (opnd s.sl x) (lo.map (opnd s.sl)) (hi.map (opnd s.sl))):=by
 have hx:=h.opnd x
 unfold EK
 split
 case h_2=>trivial
 rename_i i hi'
 obtain⟨inf,d,z,h1,h2,h3,h4,h5,h6,h7,h8,h9⟩:=hT t i hi'
 split
 case h_3=>trivial
 case h_2 =>
  rename_i hd
  rw[hd]at h9
  have h9:d=.string:=h9
  subst h9
  split
  case h_4=>trivial
  ·rename_i b k l k' h' he hlo hhi
   rw[he,svm]at hx
   cases lo with
   | none=>simp at hlo
   | some loO =>
    cases hi with
    | none=>simp at hhi
    | some hiO =>
     simp only[Option.map_some,Option.some.injEq]at hlo hhi
     have e1:=cJ h hlo
     have e2:=cJ h hhi
     intro hc
     have hc:(decide (0<=(l.den env).toInt) && (decide ((l.den env).toInt<=(h'.den env).toInt) && decide ((h'.den env).toInt<=(b.den env).toStr.size)))=true:=hc
     simp only[Bool.and_eq_true,decide_eq_true_eq]at hc
     refine⟨.string ((b.den env).toStr.extract (l.den env).toInt.toNat (h'.den env).toInt.toNat),fun w' _=>?_,rfl⟩
     have:=run_slice_string (P:=P) w' t (b.den env).toStr k k' _ _ h2 hc.1 hc.2.1 hc.2.2
     simp[execOp,ho,hx,e1,e2,run_sliceAt_string w' t _ _ _ _ h2,this]
  ·rename_i b k' h' he hlo hhi
   rw[he,svm]at hx
   cases lo with
   | some _=>simp at hlo
   | none =>
    cases hi with
    | none=>simp at hhi
    | some hiO =>
     simp only[Option.map_some,Option.some.injEq]at hhi
     have e2:=cJ h hhi
     intro hc
     have hc:(decide ((0:Int)<=0) && (decide ((0:Int)<=(h'.den env).toInt) && decide ((h'.den env).toInt<=(b.den env).toStr.size)))=true:=hc
     simp only[Bool.and_eq_true,decide_eq_true_eq]at hc
     refine⟨.string ((b.den env).toStr.extract 0 (h'.den env).toInt.toNat),fun w' _=>?_,rfl⟩
     have:=run_slice_string_h (P:=P) w' t (b.den env).toStr h2 k' _ hc.2.1 hc.2.2
     simp[execOp,ho,hx,e2,run_sliceAt_string w' t _ _ _ _ h2,this]
  ·rename_i b k l he hlo hhi
   rw[he,svm]at hx
   cases hi with
   | some _=>simp at hhi
   | none =>
    cases lo with
    | none=>simp at hlo
    | some loO =>
     simp only[Option.map_some,Option.some.injEq]at hlo
     have e1:=cJ h hlo
     intro hc
     have hc:(decide (0<=(l.den env).toInt) && decide ((l.den env).toInt<=(b.den env).toStr.size))=true:=hc
     simp only[Bool.and_eq_true,decide_eq_true_eq]at hc
     refine⟨.string ((b.den env).toStr.extract (l.den env).toInt.toNat (b.den env).toStr.size),fun w' _=>?_,rfl⟩
     have:=run_slice_string_l (P:=P) w' t (b.den env).toStr h2 k _ hc.1 hc.2
     simp[execOp,ho,hx,e1,run_sliceAt_string w' t _ _ _ _ h2,this]
 rename_i e hd
 rw[hd]at h9
 have h9:d=.slice e:=h9
 subst h9
 split
 case h_2=>trivial
 rename_i ie hie
 obtain⟨inf',d',z',q1,q2,q3,q4,q5,q6,q7,q8,q9⟩:=hT e ie hie
 split
 case h_3=>trivial
 ·rename_i tt l k n he hlo hhi
  intro hc0
  obtain⟨j,hj,hjl⟩:=pc hc0
  rw[he,svm]at hx
  rw[repC]at hx
  obtain⟨A,c,hv,hc,hL,hrep⟩:=hx
  cases lo with
  | some _=>simp at hlo
  | none =>
   cases hi with
   | none=>simp at hhi
   | some hiO =>
    simp only[Option.map_some,Option.some.injEq]at hhi
    have hn:=cJ h hhi
    have hrun:=om (P:=P) (A:=A) (len:=(l.den env).toList.length) (cap:=c) (k:=k) (h:=(n.den env).toInt) h2 q1 (by omega) (by omega)
    rw[Ay A,ite_self,hj,Int.toNat_natCast]at hrun
    refine⟨.slice A j c,fun w' _=>by simp[execOp,ho,hv,hn,hj,hrun w'],?_⟩
    have hpd:((Prim.take).den (aK env [cl l,ci k n])).toList=(l.den env).toList.take j:=by
     simp[Prim.den,aK,Cell.den,ci,cl,hj]
    show repC w (MR M cx.R tt) (.list _) _
    rw[hpd,repC]
    have hlen:((l.den env).toList.take j).length=j:=by rw[List.length_take];omega
    refine⟨A,c,by rw[hlen],by omega,by omega,?_⟩
    rcases hrep with h0|⟨b,o,sz,arr,ty,fr,r1,r2,r3,r4,r5⟩
    ·left;rw[h0];simp
    ·exact .inr ⟨b,o,sz,arr,ty,fr,r1,r2,r3,r4,sm r5 _⟩
 ·rename_i tt l k n he hlo hhi
  split
  case h_2=>trivial
  rename_i ks hks
  split
  case h_2=>trivial
  rename_i hkl
  have hkl:=br hkl
  intro hc0
  have hc1:((decide (0<=(n.den env).toInt) && decide ((n.den env).toInt<=(l.den env).toList.length)) && (l.den env).toList.all (ak ks))=true:=hc0
  simp only[Bool.and_eq_true,decide_eq_true_eq,List.all_eq_true]at hc1
  obtain⟨⟨g1,g2⟩,g3⟩:=hc1
  obtain⟨j,hj⟩:∃ j:Nat,(n.den env).toInt=j:=⟨(n.den env).toInt.toNat,by omega⟩
  have hjl:j<=(l.den env).toList.length:=by omega
  rw[he,svm]at hx
  rw[repC]at hx
  obtain⟨A,c,hv,hc,hL,hrep⟩:=hx
  cases hi with
  | some _=>simp at hhi
  | none =>
   cases lo with
   | none=>simp at hlo
   | some loO =>
    simp only[Option.map_some,Option.some.injEq]at hlo
    have hn:=cJ h hlo
    have hrun:=oo (P:=P) (A:=A) (len:=(l.den env).toList.length) (cap:=c) (k:=k) (l:=(n.den env).toInt) h2 q1 (by omega) (by omega)
    rw[hj,Int.toNat_natCast]at hrun
    refine⟨.slice (if c=j then A else A.map (·.add (j*inf'.size))) ((l.den env).toList.length-j) (c-j),fun w' _=>by simp[execOp,ho,hv,hn,hj,hrun w'],?_⟩
    have hpd:((Prim.drop).den (aK env [cl l,ci k n])).toList=(l.den env).toList.drop j:=by
     simp[Prim.den,aK,Cell.den,ci,cl,hj]
    show repC w (MR M cx.R tt) (.list _) _
    rw[hpd,repC]
    have hlen:((l.den env).toList.drop j).length=(l.den env).toList.length-j:=List.length_drop
    refine⟨_,c-j,by rw[hlen],by omega,by omega,?_⟩
    rcases hrep with h0|⟨b,o,sz,arr,ty,fr,r1,r2,r3,r4,r5⟩
    ·left;rw[h0];simp
    ·by_cases hjc:j=(l.den env).toList.length
     ·left;rw[hjc];simp
     ·right
      rw[if_neg (by omega),r1]
      have hne:(l.den env).toList≠[]:=fun e0=>by rw[e0]at hjl hjc;simp at hjl hjc;omega
      obtain⟨r,rs,hrr⟩:=List.exists_cons_of_ne_nil hne
      have hszk:sz=inf'.size:=by
       have e1:=(fE r5 (i:=0) (r:=r) (by rw[hrr];rfl)).1
       have e2:=aJ (g3 r (by rw[hrr];simp))
       rw[<-e1,e2,hkl,q3]
      refine⟨b,o+j*inf'.size,sz,arr,ty,fr,by simp[add_zero],r2,r3,r4,?_⟩
      rw[<-List.drop_drop,<-hszk]
      exact sj r5 j
theorem KH(h:Sat cx M N env s a.tmps w){x:Operand}(hrun:∀ A n c,a.eval x=.slice A n c->eJ P op a w (goInt n))(hstr:∀ b,opnd s.sl x=.str b->a.eval x=.string (b.den env).toStr->eJ P op a w (goInt (b.den env).toStr.size)) :
  gT P op cx M N env s a w (lenOf s (opnd s.sl x)):=by
 have hx:=h.opnd x
 unfold lenOf
 split
 ·rename_i tt l he
  rw[he,svm,repC]at hx
  obtain⟨A,c,hv,hc,hL,_⟩:=hx
  exact⟨_,hrun _ _ _ hv,rfl⟩
 ·rename_i he
  rw[he,svm]at hx
  exact⟨_,hrun _ _ _ hx,by rw[svm];rfl⟩
 ·rename_i b he
  rw[he,svm]at hx
  exact⟨_,hstr b he hx,rfl⟩
 ·rename_i k he
  rw[he,svm]at hx
  have fin:∀(es:List (List C)) (e' n:Nat) (vals:List Value),w.ownsRow 0 e' n (N k).v es.length vals->∃ A c,(N k).v=.slice A es.length c:=by
   intro es e' n vals hown
   rcases hown.2 with ⟨q1,q2⟩|⟨g,cap,cur,q1,_⟩
   ·exact⟨none,0,by rw[q1,q2]⟩
   ·exact⟨_,cap,q1⟩
  split
  ·rename_i e row l hg
   obtain⟨es,vals,X',g1,g2,g3,_⟩:=(show shC _ _ _ _ _ _ from h.objs k _ hg)
   cases g1
   obtain⟨A,c,q⟩:∃ A c,(N k).v=.slice A (l.den env).toList.length c:=by
    rcases g3.slice with ⟨q1,q2⟩|⟨g,o,cap,e0,cur,q1,_⟩
    ·exact⟨none,0,by rw[q1,q2]⟩
    ·exact⟨_,cap,q1⟩
   exact⟨_,hrun _ _ _ (hx.trans q),rfl⟩
  ·rename_i e row l _ _ hg
   obtain⟨vals,X1,X2,j',es,g1,g2,g3,g4,g5,_⟩:=h.objs k _ hg
   subst g1
   obtain⟨A,c,q⟩:=fin _ _ _ _ g5
   exact⟨_,hrun _ _ _ (hx.trans q),rfl⟩
  ·trivial
 ·trivial
theorem yC(h:Sat cx M N env s a.tmps w){t:Nat}(ho:op.op=.makeMap t none):gT P op cx M N env s a w (.mk (.sl s.nx) (.map [])):=by
 intro hok
 refine⟨.map (some w.heap.size),.map #[] 0,⟨.map (some w.heap.size),[],[],0,[w.heap.size]⟩,?_,.inl rfl,?_,?_⟩
 ·simp[execOp,ho,run_makeMap_plain]
 ·rw[svm,aR]
 ·rw[obm,aR]
  exact⟨w.heap.size,#[],0,rfl,rfl,heap_alloc_new w _,rfl⟩
theorem IH(hT:bK P T)(hE:Cd P eqn)(h:Sat cx M N env s a.tmps w)(op:Oper):gT P op cx M N env s a w (nf T eqn s op.op):=by
 cases ho:op.op
 case move x=>exact Au h (.inl ho)
 case assign x=>exact Au h (.inr ho)
 case pick c x y=>exact FE h ho
 case alloc t=>exact CL hT h ho
 case box t x=>exact KF h ho
 case build t ps=>exact CQ hT h ho
 case makeMap t r =>
  cases r with
  | none=>exact yC h ho
  | some _=>trivial
 case load t x=>exact Av hT h ho
 case nilCheck x=>exact uV h ho
 case binOp b t x y t'=>exact CN hT hE h ho
 case unOp u t x =>
  cases u<;>first|exact KD h ho|exact KE h ho|trivial
 case convert t t' x=>exact yB hT h ho
 case fieldAddr t x f=>exact ss hT h ho
 case field t x f=>exact CM hT h ho
 case indexAddr t x i=>exact su hT h ho
 case index t x i=>exact CP hT h ho
 case extract x i=>exact yy h ho
 case makeFunc f fs cs =>
  cases f<;>first|exact uW h ho|trivial
 case slice t x lo hi mx =>
  cases mx with
  | none=>exact KG hT h ho
  | some _=>trivial
 case call c =>
  obtain⟨callee,args,argTypes⟩:=c
  cases callee<;>try trivial
  case builtin b =>
   cases b<;>try trivial
   case len =>
    simp only[nf]
    split
    case h_2=>trivial
    rename_i x t ha hty
    have ha':args=#[x]:=by apply Array.ext';exact ha
    have hty':argTypes=#[t]:=by apply Array.ext';exact hty
    subst ha';subst hty'
    split
    case h_2=>trivial
    rename_i i hi
    obtain⟨inf,d,z,h1,h2,h3,h4,h5,h6,h7,h8,h9⟩:=hT t i hi
    split
    ·trivial
    ·rename_i e hd hne
     rw[hd]at h9
     have h9:d=.slice e:=h9
     subst h9
     refine KH h (fun A n c hv w' _=>?_) (fun b hb=>absurd hb (hne b))
     simp only[execOp,ho,resolve,invoke,builtin,Sem.run_bind,Sem.run_pure,Result.andThen_ok,List.map_toArray,List.map_cons,List.map_nil,hv]
     simp[Builtin.len_,run_underlying h2]
    ·rename_i b hd hb
     rw[hd]at h9
     have h9:d=.string:=h9
     subst h9
     have hx:=h.opnd x
     rw[hb,svm]at hx
     refine⟨goInt (b.den env).toStr.size,fun w' _=>?_,rfl⟩
     simp only[execOp,ho,resolve,invoke,builtin,Sem.run_bind,Sem.run_pure,Result.andThen_ok,List.map_toArray,List.map_cons,List.map_nil,hx]
     simp[Builtin.len_,run_underlying h2]
    ·trivial
   case min =>
    simp only[nf]
    split
    case h_2=>trivial
    rename_i x y ha
    have ha':args=#[x,y]:=by apply Array.ext';exact ha
    subst ha'
    split
    case h_2=>trivial
    rename_i k m k' n hx hy
    split
    case h_2=>trivial
    rename_i hk
    have:=cQ hk;subst this
    have hx':=cJ h hx
    have hy':=cJ h hy
    refine⟨_,fun w' _=>?_,rfl⟩
    simp only[execOp,ho,resolve,invoke,builtin,Sem.run_bind,Sem.run_pure,Result.andThen_ok,List.map_toArray,List.map_cons,List.map_nil,hx',hy',run_min_int2]
    rfl
   case max =>
    simp only[nf]
    split
    case h_2=>trivial
    rename_i x y ha
    have ha':args=#[x,y]:=by apply Array.ext';exact ha
    subst ha'
    split
    case h_2=>trivial
    rename_i k m k' n hx hy
    split
    case h_2=>trivial
    rename_i hk
    have:=cQ hk;subst this
    have hx':=cJ h hx
    have hy':=cJ h hy
    refine⟨_,fun w' _=>?_,rfl⟩
    simp only[execOp,ho,resolve,invoke,builtin,Sem.run_bind,Sem.run_pure,Result.andThen_ok,List.map_toArray,List.map_cons,List.map_nil,hx',hy',run_max_int2]
    rfl
 all_goals trivial
end
end Dx
namespace Dx
open Go
mutual
def SV.sub(k:Nat)(l:At):SV->SV
 | .sl j=>match Nat.beq j k with
  | true=>.view true l
  | false=>.sl j
 | .fn f vs=>.fn f (SV.subs k l vs)
 | .agg vs=>.agg (SV.subs k l vs)
 | .tuple vs=>.tuple (SV.subs k l vs)
 | x=>x
def SV.subs(k:Nat)(l:At):List SV->List SV
 | []=>[]
 | x::xs=>x.sub k l::SV.subs k l xs
end
def SObj.sub(k:Nat)(l:At):SObj->SObj
 | .cells vs=>.cells (SV.subs k l vs)
 | .arr e row l'=>.arr e row l'
 | .foc e row l' i vs=>.foc e row l' i (SV.subs k l vs)
 | .map es=>.map es
 | .smap es=>.smap es
 | .bld T e a=>.bld T e a
def ul(k:Nat)(l:At):List (Nat×SObj)->List (Nat×SObj)
 | []=>[]
 | (j,o)::r=>(j,o.sub k l)::ul k l r
def St.sub(k:Nat)(l:At)(s:St):St:={s with sl:=SV.subs k l s.sl,hp:=ul k l s.hp}
def frz(k:Nat)(l:At)(s:St):St:=St.sub k l {s with hp:=cw s.hp k}
theorem jE(k:Nat)(l:At):∀(hp:List (Nat×SObj)) (j:Nat),ar (ul k l hp) j=(ar hp j).map (SObj.sub k l)
 | [],_=>rfl
 | (i,o)::r,j=>by
  simp only[ul]
  rw[aq,aq]
  split
  ·rfl
  ·exact jE k l r j
theorem kP(k:Nat)(l:At):∀ xs:List SV,(SV.subs k l xs).length=xs.length
 | []=>rfl
 | x::xs=>by simp[SV.subs,kP k l xs]
theorem rL(k:Nat)(l:At):∀(xs:List SV) (i:Nat),cr (SV.subs k l xs) i=(cr xs i).sub k l
 | [],i=>by simp[SV.subs,cr,SV.sub]
 | x::xs,0=>rfl
 | x::xs,i+1=>rL k l xs i
section
variable {cx:Ctx} {M:Nat->Prop} {N:Nm} {env:List C} {s:St} {tm:Array Value} {w:World}
mutual
theorem Az{R:Nat->Prop}{k:Nat}{l:At}(hk:repC w M (.list (l.den env).toList) (N k).v):∀(x:SV) (v:Value),svm w M R N env x v->svm w M R N env (x.sub k l) v
 | .sl j,v,h=>by
  simp only[SV.sub]
  split
  ·rename_i e
   have:=br e;subst this
   rw[svm]at h
   rw[svm]
   subst h;exact hk
  ·exact h
 | .fn f vs,v,h=>by
  simp only[SV.sub];rw[svm]at h ⊢
  obtain⟨cs,h1,h2⟩:=h
  exact⟨cs,h1,dO hk vs _ h2⟩
 | .agg vs,v,h=>by
  simp only[SV.sub];rw[svm]at h ⊢
  obtain⟨cs,h1,h2⟩:=h
  exact⟨cs,h1,dO hk vs _ h2⟩
 | .tuple vs,v,h=>by
  simp only[SV.sub];rw[svm]at h ⊢
  obtain⟨cs,h1,h2⟩:=h
  exact⟨cs,h1,dO hk vs _ h2⟩
 | .any,_,h|.int _ _,_,h|.bool _,_,h|.str _,_,h|.view _ _,_,h|.nil,_,h|.ptr _ _,_,h|.eptr _ _ _ _,_,h|.vptr _ _,_,h|.nilptr,_,h|.blob,_,h=>h
theorem dO{R:Nat->Prop}{k:Nat}{l:At}(hk:repC w M (.list (l.den env).toList) (N k).v):∀(xs:List SV) (vs:List Value),svms w M R N env xs vs->svms w M R N env (SV.subs k l xs) vs
 | [],_,h=>h
 | x::xs,vs,h=>by
  simp only[SV.subs];rw[svms]at h ⊢
  obtain⟨v,vs',h1,h2,h3⟩:=h
  exact⟨v,vs',h1,Az hk x v h2,dO hk xs vs' h3⟩
end
theorem FJ{R:Nat->Prop}{k:Nat}{l:At}(hk:repC w M (.list (l.den env).toList) (N k).v){j:Nat}{o:SObj}(h:obm w M R N env j o):obm w M R N env j (o.sub k l):=by
 cases o with
 | cells vs =>
  obtain⟨b,arr,us,h1,h2,h3,h4,h5⟩:=h
  exact⟨b,arr,us,h1,h2,h3,h4,dO hk vs us h5⟩
 | arr e row l'=>exact h
 | foc e row l' i vs =>
  obtain⟨vals,X1,X2,j',es,h1,h2,h3,h4,h5,h6,h7,h8,h9⟩:=h
  exact⟨vals,X1,X2,j',es,h1,h2,h3,h4,h5,h6,dO hk vs _ h7,by rw[kP];exact h8,h9⟩
 | map es=>exact h
 | smap es=>exact h
 | bld T e a=>exact h
theorem Sat.sub(h:Sat cx M N env s tm w){k:Nat}{l:At}(hk:repC w M (.list (l.den env).toList) (N k).v):Sat cx M N env (St.sub k l s) tm w:=by
 have old:∀ j o,ar (ul k l s.hp) j=some o->∃ o',ar s.hp j=some o'/\o=o'.sub k l:=fun j o hg=>by
  rw[jE]at hg
  cases hq:ar s.hp j with
  | none=>rw[hq]at hg;cases hg
  | some o'=>rw[hq]at hg;simp only[Option.map_some,Option.some.injEq]at hg;exact⟨o',rfl,hg.symm⟩
 exact {h with
  slen:=by simp[St.sub,kP,h.slen]
  slots:=fun i=>by show svm w M cx.R N env (cr (SV.subs k l s.sl) i) _;rw[rL];exact Az hk _ _ (h.slots i)
  objs:=fun j o hg=>by obtain⟨o',h1,rfl⟩:=old j o hg;exact FJ hk (h.objs j o' h1)
  blt:=fun j o b hg hb=>by obtain⟨o',h1,_⟩:=old j o hg;exact h.blt j o' b h1 hb
  nodup:=fun j o hg=>by obtain⟨o',h1,_⟩:=old j o hg;exact h.nodup j o' h1
  apart:=fun j o b hg hb=>by obtain⟨o',h1,_⟩:=old j o hg;exact h.apart j o' b h1 hb
  dist:=fun j j' o o' b h1 h2=>by
   obtain⟨o1,g1,_⟩:=old j o h1
   obtain⟨o2,g2,_⟩:=old j' o' h2
   exact h.dist j j' o1 o2 b g1 g2}
theorem Sat.drop(h:Sat cx M N env s tm w){k:Nat}{o:SObj}(hg:ar s.hp k=some o):Sat cx (fun b=>M b\/b∈(N k).φ) N env {s with hp:=cw s.hp k} tm w:=by
 have hM:∀ b,M b->(M b\/b∈(N k).φ)/\w.heap[b]?=w.heap[b]?:=fun b hb=>⟨.inl hb,rfl⟩
 refine h.step (K:=fun _=>true) (V:=fun _=>true) (nx:=s.nx) (nv:=s.nv) rfl rfl rfl (Nat.le_refl _) hM (fun _ _=>rfl) (fun b hb=>hb.elim (h.mlt b) (h.blt k o b hg)) (fun b hb=>hb.imp id (fun e=>(h.apart k o b hg e).2)) (fun _ _=>KI.same.rfl' _) (fun _ _=>rfl) (SV.alls_true _) (fun _ _=>rfl) h.nv ?_ ?_ ?_ ?_ ?_
 ·intro j o' hj
  exact obm.mono (K:=fun _=>true) (V:=fun _=>true) hM (fun _ _=>rfl) (fun _ _=>KI.same.rfl' _) (fun _ _=>rfl) rfl (SObj.all_true _) (fun _ _=>rfl) (h.objs j o' (ay hj).1)
 ·intro j o' b hj hb;exact h.blt j o' b (ay hj).1 hb
 ·intro j o' hj;exact h.nodup j o' (ay hj).1
 ·intro j o' b hj hb
  obtain⟨h1,h2⟩:=ay hj
  have:=h.apart j o' b h1 hb
  exact⟨fun hm=>hm.elim this.1 (fun e=>h2 (h.dist j k o' o b h1 hg hb e)),this.2⟩
 ·intro j j' o1 o2 b h1 h2 hb1 hb2
  exact h.dist j j' o1 o2 b (ay h1).1 (ay h2).1 hb1 hb2
theorem Sat.arrRep(h:Sat cx M N env s tm w){k e:Nat}{row:List Sh}{l:At}(hg:ar s.hp k=some (.arr e row l)):repC w (fun b=>M b\/b∈(N k).φ) (.list (l.den env).toList) (N k).v :=
 shC.rep (fun _ hb=>.inl hb) _ _ _ _ (fun _ hb=>.inr hb) (h.objs k _ hg)
theorem Sat.frz(h:Sat cx M N env s tm w){k e:Nat}{row:List Sh}{l:At}(hg:ar s.hp k=some (.arr e row l)):Sat cx (fun b=>M b\/b∈(N k).φ) N env (frz k l s) tm w :=
 (h.drop hg).sub (h.arrRep hg)
def give(s:St):SV->Option (St×Cell×Option (Nat×At))
 | .int k a=>some (s,ci k a,none)
 | .bool a=>some (s,cb a,none)
 | .str a=>some (s,Dx.cs a,none)
 | .view true a=>some (s,cl a,none)
 | .nil=>some (s,cl .e,none)
 | .blob=>some (s,⟨.hole,.e⟩,none)
 | .sl k=>match ar s.hp k with
  | some (.arr _ _ l)=>some (frz k l s,cl l,some (k,l))
  | _=>none
 | _=>none
mutual
def Sh.beq:Sh->Sh->Bool
 | .val,.val=>true
 | .arr e row,.arr e' row'=>match Nat.beq e e' with
  | true=>Sh.beqs row row'
  | false=>false
 | _,_=>false
def Sh.beqs:List Sh->List Sh->Bool
 | [],[]=>true
 | x::xs,y::ys=>match x.beq y with
  | true=>Sh.beqs xs ys
  | false=>false
 | _,_=>false
end
mutual
theorem Sh.beq_ok:∀(x y:Sh),x.beq y=true->x=y
 | .val,.val,_=>rfl
 | .arr e row,.arr e' row',h=>by
  simp only[Sh.beq]at h
  split at h
  ·rename_i he;rw[br he,Sh.beqs_ok row row' h]
  ·cases h
 | .val,.arr _ _,h=>by simp[Sh.beq]at h
 | .arr _ _,.val,h=>by simp[Sh.beq]at h
theorem Sh.beqs_ok:∀(xs ys:List Sh),Sh.beqs xs ys=true->xs=ys
 | [],[],_=>rfl
 | x::xs,y::ys,h=>by
  simp only[Sh.beqs]at h
  split at h
  ·rename_i he;rw[Sh.beq_ok x y he,Sh.beqs_ok xs ys h]
  ·cases h
 | [],_::_,h=>by simp[Sh.beqs]at h
 | _::_,[],h=>by simp[Sh.beqs]at h
end
def conC(s:St):Sh->SV->Option (St×Cell×Option (Nat×At))
 | .val,x=>give s x
 | .arr e row,x=>match x with
  | .nil=>match row with
   | []=>none
   | _::_=>some (s,cl .e,none)
  | .sl k=>match ar s.hp k with
   | some (.arr e' row' l)=>match Nat.beq e e' || Nat.beq e (BIG+e') && eH e',Sh.beqs row row' with
    | true,true=>some ({s with hp:=cw s.hp k},cl l,none)
    | _,_=>none
   | _=>none
  | _=>none
def mK:Option (Nat×At)->List SV->List SV
 | none,xs=>xs
 | some (k,l),xs=>SV.subs k l xs
def jb(s:St):List Sh->List SV->Option (St×List Cell)
 | [],[]=>some (s,[])
 | sh::shs,x::xs=>match conC s sh x with
  | some (s1,c,σ)=>match jb s1 shs (mK σ xs)with
   | some (s2,cs)=>some (s2,c::cs)
   | none=>none
  | none=>none
 | _,_=>none
def oq(cx:Ctx)(M:Nat->Prop)(N:Nm)(hp:List (Nat×SObj))(X:List Nat):Prop :=
 ∀ b∈X,¬ M b/\¬ cx.R b/\∀ k o,ar hp k=some o->b∉(N k).φ
structure Handed (cx:Ctx) (N:Nm) (env:List C) (tm:Array Value) (w:World) (M:Nat->Prop) (s:St) (Y:List Nat) (M':Nat->Prop) (s':St) (X:List Nat):Prop where
 sat:Sat cx M' N env s' tm w
 sub:∀ b,M b->M' b
 from':∀ b,M' b->M b\/∃ k o,ar s.hp k=some o/\b∈(N k).φ
 less:∀ k o,ar s'.hp k=some o->∃ o',ar s.hp k=some o'
 free:oq cx M' N s'.hp (X++Y)
 nodup:(X++Y).Nodup
 lt:∀ b∈X,b<w.heap.size
 was:∀ b∈X,∃ k o,ar s.hp k=some o/\b∈(N k).φ
 same:s'.nx=s.nx/\s'.nv=s.nv/\s'.pk=s.pk
theorem Handed.refl(h:Sat cx M N env s tm w){Y:List Nat}(hf:oq cx M N s.hp Y)(hn:Y.Nodup):Handed cx N env tm w M s Y M s [] :=
 ⟨h,fun _ hb=>hb,fun _ hb=>.inl hb,fun _ o hg=>⟨o,hg⟩,by simpa using hf,by simpa using hn,by simp,by simp,rfl,rfl,rfl⟩
theorem vG{k j:Nat}{l:At}{o:SObj}(h:ar (Dx.frz k l s).hp j=some o):∃ o',ar s.hp j=some o'/\j≠k:=by
 have h':ar (ul k l (cw s.hp k)) j=some o:=h
 rw[jE]at h'
 cases hq:ar (cw s.hp k) j with
 | none=>rw[hq]at h';cases h'
 | some o'=>have:=ay hq;exact⟨o',this.1,this.2⟩
theorem FK(h:Sat cx M N env s tm w){x:SV}{v:Value}{c:Cell}{s':St}{σ:Option (Nat×At)}(hc:give s x=some (s',c,σ))(hx:svm w M cx.R N env x v){Y:List Nat}(hf:oq cx M N s.hp Y)(hn:Y.Nodup) :
  ∃ M',Handed cx N env tm w M s Y M' s' []/\repC w M' (c.den env) v/\∀ xs vs,svms w M cx.R N env xs vs->svms w M' cx.R N env (mK σ xs) vs:=by
 have plain:∀ c',repC w M (c'.den env) v->some (s,c',(none:Option (Nat×At)))=some (s',c,σ)->∃ M',Handed cx N env tm w M s Y M' s' []/\repC w M' (c.den env) v/\∀ xs vs,svms w M cx.R N env xs vs->svms w M' cx.R N env (mK σ xs) vs:=by
  intro c' hr he
  simp only[Option.some.injEq,Prod.mk.injEq]at he
  obtain⟨rfl,rfl,rfl⟩:=he
  exact⟨M,Handed.refl h hf hn,hr,fun _ _ hh=>hh⟩
 cases x<;>simp only[give,reduceCtorEq]at hc
 case int k n=>rw[svm]at hx;exact plain _ (by simp only[Cell.den,ci];rw[repC];exact hx) hc
 case bool b=>rw[svm]at hx;exact plain _ (by simp only[Cell.den,cb];rw[repC];exact hx) hc
 case str b=>rw[svm]at hx;exact plain _ (by simp only[Cell.den,Dx.cs];rw[repC];exact hx) hc
 case view t l =>
  cases t with
  | true=>rw[svm]at hx;exact plain (cl l) hx hc
  | false=>simp at hc
 case blob=>rw[svm]at hx;exact plain _ (by simp only[Cell.den];rw[repC];exact hx) hc
 case nil =>
  rw[svm]at hx;subst hx
  exact plain _ (by simp only[Cell.den,cl,At.den,C.toList];rw[repC];exact⟨none,0,rfl,by simp,by simp,.inl rfl⟩) hc
 case sl k =>
  split at hc
  case h_2=>cases hc
  rename_i e row l hg
  simp only[Option.some.injEq,Prod.mk.injEq]at hc
  obtain⟨rfl,rfl,rfl⟩:=hc
  rw[svm]at hx;subst hx
  have hr:=h.arrRep hg
  refine⟨_,⟨h.frz hg,fun _ hb=>.inl hb,fun b hb=>hb.imp id (fun e1=>⟨k,_,hg,e1⟩),fun j o hj=>?_,?_,by simpa using hn,by simp,by simp,rfl,rfl,rfl⟩,hr,fun xs vs hh=>?_⟩
  ·obtain⟨o',h1,_⟩:=vG hj;exact⟨o',h1⟩
  ·intro b hb
   have:=hf b (by simpa using hb)
   refine⟨fun hm=>hm.elim this.1 (this.2.2 k _ hg),this.2.1,fun j o hj=>?_⟩
   obtain⟨o',h1,_⟩:=vG hj
   exact this.2.2 j o' h1
  ·exact dO hr _ _ (svms.keep (fun b hb=>⟨.inl hb,rfl⟩) (fun _ _=>rfl) hh)
theorem vH{e e':Nat}{row:List Sh}{c:C}{v:Value}{X:List Nat}(c1:(Nat.beq e e' || Nat.beq e (BIG+e') && eH e')=true)(hob:shC w M (.arr e' row) c v X):shC w M (.arr e row) c v X:=by
 rcases Bool.or_eq_true _ _ ▸ c1 with c1|c1
 ·have:=br c1;subst this;exact hob
 ·simp only[Bool.and_eq_true]at c1
  have:=br c1.1;subst this
  rw[shC]at hob ⊢
  obtain⟨es,vals,X',q1,q2,q3,q4⟩:=hob
  exact⟨es,vals,X',q1,q2,Ow.weak (q3.own c1.2),q4⟩
theorem FL(h:Sat cx M N env s tm w){sh:Sh}{x:SV}{v:Value}{c:Cell}{s':St}{σ:Option (Nat×At)}(hc:conC s sh x=some (s',c,σ))(hx:svm w M cx.R N env x v){Y:List Nat}(hf:oq cx M N s.hp Y)(hn:Y.Nodup) :
  ∃ M' X,Handed cx N env tm w M s Y M' s' X/\shC w M' sh (c.den env) v X/\∀ xs vs,svms w M cx.R N env xs vs->svms w M' cx.R N env (mK σ xs) vs:=by
 cases sh with
 | val =>
  obtain⟨M',h1,h2,h3⟩:=FK h hc hx hf hn
  exact⟨M',[],h1,by rw[shC];exact⟨rfl,h2⟩,h3⟩
 | arr e row =>
  simp only[conC]at hc
  split at hc
  case h_3=>cases hc
  ·split at hc
   ·cases hc
   ·rename_i r0 rs
    simp only[Option.some.injEq,Prod.mk.injEq]at hc
    obtain⟨rfl,rfl,rfl⟩:=hc
    rw[svm]at hx;subst hx
    refine⟨M,[],Handed.refl h hf hn,?_,fun _ _ hh=>hh⟩
    rw[shC]
    exact⟨[],[],[],rfl,rfl,.inl (World.ownsRow_nil w 0 e _),rfl,by simp,by simp⟩
  ·rename_i k
   split at hc
   case h_2=>cases hc
   rename_i e' row' l hg
   split at hc
   case h_2=>cases hc
   rename_i c1 c2
   have e2:=Sh.beqs_ok _ _ c2
   subst e2
   simp only[Option.some.injEq,Prod.mk.injEq]at hc
   obtain⟨rfl,rfl,rfl⟩:=hc
   rw[svm]at hx;subst hx
   have hob:shC w M (.arr e row) (.list (l.den env).toList) (N k).v (N k).φ:=vH c1 (h.objs k _ hg)
   refine⟨M,(N k).φ,⟨h.less fun j o hj=>(ay hj).1,fun _ hb=>hb,fun _ hb=>.inl hb,fun j o hj=>⟨o,(ay hj).1⟩,?_,?_,fun b hb=>h.blt k _ b hg hb,fun b hb=>⟨k,_,hg,hb⟩,rfl,rfl,rfl⟩,hob,fun _ _ hh=>hh⟩
   ·intro b hb
    rcases List.mem_append.1 hb with hb|hb
    ·have:=h.apart k _ b hg hb
     refine⟨this.1,this.2,fun j o hj hb'=>?_⟩
     obtain⟨g1,g2⟩:=ay hj
     exact g2 (h.dist j k o _ b g1 hg hb' hb)
    ·have:=hf b hb
     exact⟨this.1,this.2.1,fun j o hj=>this.2.2 j o (ay hj).1⟩
   ·exact List.nodup_append.2 ⟨h.nodup k _ hg,hn,fun a ha b hb e=>(hf b hb).2.2 k _ hg (e ▸ ha)⟩
theorem eg:∀(shs:List Sh) {M:Nat->Prop} {s:St} {xs:List SV} {vs:List Value} {cs:List Cell} {s':St} {Y:List Nat},Sat cx M N env s tm w->jb s shs xs=some (s',cs)->svms w M cx.R N env xs vs->oq cx M N s.hp Y->Y.Nodup ->
  ∃ M' X,Handed cx N env tm w M s Y M' s' X/\shR w M' shs (aK env cs) vs X
 | [],M,s,xs,vs,cs,s',Y,h,hc,hx,hf,hn=>by
  cases xs with
  | cons=>simp[jb]at hc
  | nil =>
   simp only[jb,Option.some.injEq,Prod.mk.injEq]at hc
   obtain⟨rfl,rfl⟩:=hc
   rw[svms]at hx;subst hx
   exact⟨M,[],Handed.refl h hf hn,by rw[shR];exact⟨rfl,rfl,rfl⟩⟩
 | sh::shs,M,s,xs,vs,cs,s',Y,h,hc,hx,hf,hn=>by
  cases xs with
  | nil=>simp[jb]at hc
  | cons x xs =>
   simp only[jb]at hc
   split at hc
   case h_2=>cases hc
   rename_i s1 c σ h1
   split at hc
   case h_2=>cases hc
   rename_i s2 cs' h2
   simp only[Option.some.injEq,Prod.mk.injEq]at hc
   obtain⟨rfl,rfl⟩:=hc
   rw[svms]at hx;obtain⟨v,vs',rfl,k1,k2⟩:=hx
   obtain⟨M1,X1,g1,g2,g3⟩:=FL h h1 k1 hf hn
   obtain⟨M2,X2,j1,j2⟩:=eg shs g1.sat h2 (g3 _ _ k2) g1.free g1.nodup
   have perm:(X2++(X1++Y)).Perm ((X1++X2)++Y):=by
    rw[<-List.append_assoc];exact List.Perm.append_right Y List.perm_append_comm
   refine⟨M2,X1++X2,⟨j1.sat,fun b hb=>j1.sub b (g1.sub b hb),fun b hb=>?_,fun k o hk=>?_,fun b hb=>j1.free b (perm.mem_iff.2 hb),perm.nodup_iff.1 j1.nodup,?_,?_,?_⟩,?_⟩
   ·rcases j1.from' b hb with hm|⟨k,o,e1,e2⟩
    ·exact g1.from' b hm
    ·obtain⟨o',e3⟩:=g1.less k o e1;exact .inr ⟨k,o',e3,e2⟩
   ·obtain⟨o1,e1⟩:=j1.less k o hk;exact g1.less k o1 e1
   ·intro b hb;exact(List.mem_append.1 hb).elim (g1.lt b) (j1.lt b)
   ·intro b hb
    refine(List.mem_append.1 hb).elim (g1.was b) (fun hb=>?_)
    obtain⟨k,o,e1,e2⟩:=j1.was b hb
    obtain⟨o',e3⟩:=g1.less k o e1
    exact⟨k,o',e3,e2⟩
   ·obtain⟨p1,p2,p3⟩:=g1.same
    obtain⟨q1,q2,q3⟩:=j1.same
    exact⟨q1.trans p1,q2.trans p2,q3.trans p3⟩
   ·simp only[aK];rw[shR]
    exact⟨_,_,v,vs',X1,X2,rfl,rfl,rfl,shC.mono (fun b hb=>⟨j1.sub b hb,rfl⟩) _ _ _ _ (fun _ _=>rfl) g2,j2⟩
def ro(s:St):SV->Option Cell
 | .int k a=>some (ci k a)
 | .bool a=>some (cb a)
 | .str a=>some (Dx.cs a)
 | .view _ a=>some (cl a)
 | .nil=>some (cl .e)
 | .blob=>some ⟨.hole,.e⟩
 | .sl k=>match ar s.hp k with
  | some (.arr _ _ l)=>some (cl l)
  | _=>none
 | _=>none
def ros(s:St):List SV->Option (List Cell)
 | []=>some []
 | x::xs=>match ro s x with
  | some c=>match ros s xs with
   | some cs=>some (c::cs)
   | none=>none
  | none=>none
theorem ro_ok(h:Sat cx M N env s tm w){Z:Nat->Prop}(hM:∀ b,M b->Z b)(hR:∀ b,cx.R b->Z b)(hO:∀ k o b,ar s.hp k=some o->b∈(N k).φ->Z b){x:SV}{c:Cell}{v:Value}(hc:ro s x=some c)(hx:svm w M cx.R N env x v):repC w Z (c.den env) v:=by
 cases x<;>simp only[ro,Option.some.injEq,reduceCtorEq]at hc
 case int k n=>subst hc;rw[svm]at hx;simp only[Cell.den,ci];rw[repC];exact hx
 case bool b=>subst hc;rw[svm]at hx;simp only[Cell.den,cb];rw[repC];exact hx
 case str b=>subst hc;rw[svm]at hx;simp only[Cell.den,Dx.cs];rw[repC];exact hx
 case view t l =>
  subst hc;rw[svm]at hx
  exact repC.mono (fun b hb=>⟨by cases t with
   | true=>exact hM b hb
   | false=>exact hb.elim (hM b) (hR b),rfl⟩) _ _ hx
 case blob=>subst hc;rw[svm]at hx;simp only[Cell.den];rw[repC];exact hx
 case nil=>subst hc;rw[svm]at hx;subst hx;simp only[Cell.den,cl,At.den,C.toList];rw[repC];exact⟨none,0,rfl,by simp,by simp,.inl rfl⟩
 case sl k =>
  split at hc
  case h_2=>cases hc
  rename_i e row l hg
  simp only[Option.some.injEq]at hc;subst hc
  rw[svm]at hx;subst hx
  exact repC.mono (fun b hb=>⟨hb.elim (hM b) (hO k _ b hg),rfl⟩) _ _ (h.arrRep hg)
theorem um(h:Sat cx M N env s tm w){Z:Nat->Prop}(hM:∀ b,M b->Z b)(hR:∀ b,cx.R b->Z b)(hO:∀ k o b,ar s.hp k=some o->b∈(N k).φ->Z b):∀ {xs:List SV} {cs:List Cell} {vs:List Value},ros s xs=some cs->svms w M cx.R N env xs vs->repRow w Z (aK env cs) vs/\cs.length=xs.length
 | [],cs,vs,hc,hx=>by
  simp only[ros,Option.some.injEq]at hc;subst hc
  exact⟨cZ _,rfl⟩
 | x::xs,cs,vs,hc,hx=>by
  simp only[ros]at hc
  split at hc
  case h_2=>cases hc
  rename_i c h1
  split at hc
  case h_2=>cases hc
  rename_i cs' h2
  simp only[Option.some.injEq]at hc;subst hc
  rw[svms]at hx;obtain⟨v,vs',rfl,k1,k2⟩:=hx
  obtain⟨g1,g2⟩:=um h hM hR hO h2 k2
  simp only[aK]
  refine⟨?_,by simp[g2]⟩
  rw[repRow]
  exact⟨v,vs',rfl,ro_ok h hM hR hO h1 k1,g1⟩
end
end Dx
