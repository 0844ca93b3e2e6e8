import Derived.Test.YtkpnlbinfagpcaaGreatXd
import Derived.Carry
import Derived.ChangeSlices
import Derived.Deep.Slices
import Derived.JoinedCond
import Derived.OpenShut
import Derived.ProofKit
import Derived.WalkKit
set_option linter.all false
namespace Dx
open Go Go.ChangeShapes Go.WideShapes Go.ChangeAt Go.RowKit
def cB(n:Int):List C:=[.int .u8 n]
section
variable {H:Type} {enc:TypeId×Value->H} {P:Program} {W:World}
theorem iz{M:Nat->Prop}:∀ {zs:List Int} {vs:List Value},(∀ i,i<zs.length->vs[i]?=some (.int .u8 (zs.getD i 0)))->repRows W M 1 (zs.map cB) vs
 | [],_,_=>by rw[List.map_nil,repRows];trivial
 | z::zs,vs,h=>by
  rw[List.map_cons,repRows]
  have h0:=h 0 (by simp)
  cases vs with
  | nil=>simp at h0
  | cons v vs =>
   simp only[List.getElem?_cons_zero,Option.some.injEq,List.getD_cons_zero]at h0
   refine⟨rfl,?_,?_⟩
   ·rw[cB,repRow];exact⟨v,vs,rfl,by rw[repC];exact h0,by rw[repRow];trivial⟩
   ·refine iz fun i hi=>?_
    have:=h (i+1) (by simp;omega)
    simpa using this
theorem MS{t e base:Nat}{v:Value}{d:DataW H}{p:List MemPlace}(ht:P.underlying t=some (.slice e))(he:P.underlying e=some (.int .u8))(hc:P.cellsOf e=1)
  (hval:Value.okWide P W .any base t v) (h:DataW.Trod enc P W 0 (fun _=>true) true t v d p) :
  ∃ code:List Int,(∀ b∈code,0<=b/\b<=255)/\repC W (fun b=>b<W.heap.size) (.list (code.map cB)) v/\(d=.nil/\code=[]\/∃ spare,d=.slice (Go.ChangeShapes.lits .u8 code) spare) ∧
   (∀ W':World,(∀ b,b<W.heap.size->W'.heap[b]?=W.heap[b]?)->DataW.Trod enc P W' 0 (fun b=>decide (b<W.heap.size)) true t v d p):=by
 obtain⟨a1,len,cap,rfl⟩:=okWide_slice ht hval
 obtain⟨fuel,hf⟩:=h
 rcases open_ints ht he hc hf with ⟨hcs,hx⟩|⟨a,len',cap',zs,hcs,_,hl,hm,hz,hx,hcell,hwz⟩
 ·simp[Value.cells]at hcs
  obtain⟨rfl,rfl,rfl⟩:=hcs
  simp only[Prod.mk.injEq]at hx
  obtain⟨rfl,rfl⟩:=hx
  refine⟨[],by simp,?_,.inl ⟨rfl,rfl⟩,fun W' _=>shut_slice_nil ht⟩
  rw[repC];exact⟨none,0,rfl,Nat.le_refl _,Nat.zero_le _,.inl rfl⟩
 ·simp[Value.cells]at hcs
  obtain⟨rfl,rfl,rfl⟩:=hcs
  simp only[Prod.mk.injEq]at hx
  obtain⟨rfl,rfl⟩:=hx
  simp only[if_true]at hz
  have hlen:(zs.take len).length=len:=by simp;omega
  have blk:0<zs.length->∃ c e' fr,W.heap[a.block]?=some (.cells c e' fr)/\a.spot=none/\∀ i,i<zs.length->c[a.off+i]?=some (.int .u8 (zs.getD i 0)):=by
   intro h0
   have hs:a.spot=none:=by have:=World.cell?_spot (hcell 0 h0);simpa [Addr.add] using this
   obtain⟨ab,ao,as⟩:=a
   simp only at hs;subst hs
   have c0:=hcell 0 h0
   rw[Addr.add_lit]at c0
   unfold World.cell? at c0
   split at c0
   case h_2=>cases c0
   rename_i c e' fr hb
   refine⟨c,e',fr,hb,rfl,fun i hi=>?_⟩
   have ci:=hcell i hi
   rw[Addr.add_lit]at ci
   unfold World.cell? at ci
   simp only[hb]at ci
   simpa using ci
  refine⟨zs.take len,fun b hb=>?_,?_,.inr ⟨_,rfl⟩,fun W' hW'=>?_⟩
  ·have:=hwz b (List.mem_of_mem_take hb)
   simpa [Lit.wf,IntKind.min,IntKind.max,IntKind.signed,IntKind.bits] using this
  ·rw[repC]
   refine⟨some a,cap,by simp;omega,by simp;omega,by rw[List.length_map,hlen];exact Nat.le_trans hl hm,?_⟩
   by_cases h0:len=0
   ·left;simp[h0]
   ·right
    obtain⟨c,e',fr,hb,hs,hi⟩:=blk (by omega)
    obtain⟨ab,ao,as⟩:=a
    simp only at hs;subst hs
    refine⟨ab,ao,1,c,e',fr,rfl,(Array.getElem?_eq_some_iff.1 hb).1,hb,by omega,iz fun i hi'=>?_⟩
    rw[hlen]at hi'
    rw[List.getElem?_drop,Array.getElem?_toList,hi i (by omega)]
    congr 2
    simp[List.getD,List.getElem?_take,hi']
  ·have hcell':∀ i,i<zs.length->W'.cell? (a.add i)=some (.int .u8 (zs.getD i 0)):=fun i hi=>by
    rw[<-hcell i hi]
    obtain⟨c,e',fr,hb,_,_⟩:=blk (by omega)
    have:=hW' a.block (Array.getElem?_eq_some_iff.1 hb).1
    unfold World.cell?
    rw[block_add,this]
   have hz':zs.length=(if(fun b=>decide (b<W.heap.size)) a.block then cap else len):=by
    by_cases h0:0<zs.length
    ·obtain⟨c,e',fr,hb,_,_⟩:=blk h0
     have:=(Array.getElem?_eq_some_iff.1 hb).1
     simp[this,hz]
    ·have:cap=0:=by omega
     have:len=0:=by omega
     split<;>omega
   exact⟨_,shut_ints 0 ht he hc (Nat.zero_le _) hl hm hz' hcell' hwz⟩
theorem rH{W':World}(h1:W'.os=W.os)(h2:W'.output=W.output)(h3:∀ b,b<W.heap.size->W'.heap[b]?=W.heap[b]?)(may:MemPlace->Prop):W.keptBut W' may:=by
 refine⟨h1,h2,fun i hi=>?_⟩
 rw[h3 i hi]
 cases h:W.heap[i]? with
 | none=>rfl
 | some o=>cases o<;>first|exact⟨rfl,rfl,rfl,fun _ _=>rfl⟩|exact .inr ⟨rfl,rfl⟩|rfl
end
def zp:Par:=.own false [.val] [.list] false
def tp:Ret:=⟨false,[.val],[.bool],false⟩
theorem MT{P:Program}{f:FuncId}{φ:List C->Option (List C)}{ps:List Par}(h:Has P f ⟨ps,[tp]⟩ φ){W:World}{cs:List C}{vs:List Value}(hps:∀ p∈ps,p=zp)
  (hv:jW W (fun b=>b<W.heap.size) (fun b=>b<W.heap.size/\b∉([]:List Nat)) ps cs vs []) (hφ:φ cs=some [.bool true]) :
  Calls P f vs.toArray W fun e W'=>e=.returned (.bool true)/\W'.os=W.os/\W'.output=W.output/\∀ b,b<W.heap.size->W'.heap[b]?=W.heap[b]?:=by
 refine(h.walk W (fun b=>b<W.heap.size) cs vs [] (fun b hb=>⟨hb,by simp⟩) hv List.nodup_nil (by simp) _ hφ).mono ?_
 rintro e W' ⟨M',rvs,r1,r2,X1,X2,rfl,hr,h1,_,h2,_,h3,_,_,h5,h6,_,_⟩
 have hback:∀ {ps:List Par} {vs:List Value} {c X},(∀ p∈ps,p=zp)->ft W W' M' ps vs c X->c=[]/\X=[]:=by
  intro ps
  induction ps with
  | nil=>intro vs c X _ hb;exact hb.2
  | cons p ps ih =>
   intro vs c X hp hb
   obtain⟨v,vs',c1,c2,X1,X2,rfl,rfl,rfl,hb1,hb2⟩:=hb
   obtain⟨rfl,rfl⟩:=ih (fun q hq=>hp q (by simp[hq])) hb2
   rw[hp p (by simp)]at hb1
   obtain⟨rfl,rfl⟩:=(show c1=[]/\X1=[] from hb1)
   exact⟨rfl,rfl⟩
 obtain⟨rfl,rfl⟩:=hback hps h6
 rw[List.append_nil]at hr
 subst hr
 simp only[gj]at h5
 obtain⟨c1,c2,v,vs',Y1,Y2,e1,rfl,rfl,_,h7,rfl,rfl,rfl⟩:=h5
 simp only[List.append_nil]at e1;subst e1
 simp only[fv,tp]at h7
 obtain⟨us,h8,h9⟩:=h7
 have h9:us=[v]:=h9
 subst h9
 rw[shR]at h8
 obtain⟨c,cs',v',vs',Z1,Z2,e2,e3,rfl,h10,_⟩:=h8
 simp only[List.cons.injEq]at e2 e3
 rw[<-e2.1,<-e3.1,shC]at h10
 have:=h10.2
 rw[repC]at this
 subst this
 exact⟨rfl,h1,h2,fun b hb=>h3 b hb (by simp)⟩
theorem law_par{W:World}{code:List Int}{v:Value}(h:repC W (fun b=>b<W.heap.size) (.list (code.map cB)) v):ym W (fun b=>b<W.heap.size) (fun b=>b<W.heap.size/\b∉([]:List Nat)) zp [.list (code.map cB)] v []:=by
 refine⟨rfl,[v],?_,rfl⟩
 rw[shR]
 refine⟨_,[],v,[],[],[],rfl,rfl,rfl,?_,by rw[shR];exact⟨rfl,rfl,rfl⟩⟩
 rw[shC];exact⟨rfl,h⟩
end Dx
namespace Dx
open Go Go.ChangeShapes Go.WideShapes Go.ChangeAt Go.RowKit
section
variable {H:Type} {enc:TypeId×Value->H} {P:Program} {W:World} {X Y:Type}
def Opn(enc:TypeId×Value->H)(P:Program)(W:World)(t k:Nat){X:Type}(F:X->List C)(Q:X->Prop):Prop :=
 ∀(fuel:Nat) (cs:List Value) (x:DataW H×List MemPlace),DataW.trod enc P W 0 (fun _=>true) true fuel t cs=some x->∃ y,Q y/\cs.length=k/\(F y).length=k/\repRow W (fun b=>b<W.heap.size) (F y) cs
theorem zq{t:Nat}(ht:P.underlying t=some (.int .i64)):Opn enc P W t 1 (fun n:Int=>[.int .i64 n]) (fun _=>True):=by
 intro fuel cs x h
 obtain⟨n,rfl,rfl,_⟩:=DataW.trod_int ht h
 exact⟨n,trivial,rfl,rfl,by rw[repRow];exact⟨_,_,rfl,by rw[repC],bx _⟩⟩
theorem rI{t:Nat}(ht:P.underlying t=some .bool):Opn enc P W t 1 (fun b:Bool=>[.bool b]) (fun _=>True):=by
 intro fuel cs x h
 obtain⟨n,rfl,rfl⟩:=DataW.trod_bool ht h
 exact⟨n,trivial,rfl,rfl,by rw[repRow];exact⟨_,_,rfl,by rw[repC],bx _⟩⟩
theorem Opn.map{t k:Nat}{F:X->List C}{Q:X->Prop}{F':Y->List C}{Q':Y->Prop}(h:Opn enc P W t k F Q)(g:X->Y)(hF:∀ x,F' (g x)=F x)(hQ:∀ x,Q x->Q' (g x)):Opn enc P W t k F' Q':=by
 intro fuel cs x hx
 obtain⟨y,h1,h2,h3,h4⟩:=h fuel cs x hx
 exact⟨g y,hQ y h1,h2,by rw[hF];exact h3,by rw[hF];exact h4⟩
theorem Aq{M:Nat->Prop}{F:X->List C}{k:Nat}:∀(n:Nat) (Z:Nat->X) (vs:List Value),(∀ i,i<n->(F (Z i)).length=k/\repRow W M (F (Z i)) (vs.drop (i*k)))->repRows W M k (((List.range n).map Z).map F) vs
 | 0,_,_,_=>by simp[repRows]
 | n+1,Z,vs,h=>by
  rw[List.range_succ_eq_map,List.map_cons,List.map_cons,repRows]
  have h0:=h 0 (by omega)
  refine⟨h0.1,by simpa using h0.2,?_⟩
  have e0:(List.map Nat.succ (List.range n)).map Z=(List.range n).map (Z ∘ Nat.succ):=List.map_map
  rw[e0]
  refine Aq n (Z ∘ Nat.succ) _ fun i hi=>?_
  have h1:=h (i+1) (by omega)
  refine⟨h1.1,?_⟩
  rw[List.drop_drop]
  have e:k+i*k=(i+1)*k:=by rw[Nat.add_mul];omega
  rw[e]
  exact h1.2
theorem bV[Inhabited X]{t e k:Nat}{F:X->List C}{Q:X->Prop}(ht:P.underlying t=some (.slice e))(hc:P.cellsOf e=k)(hk:0<k)(h:Opn enc P W e k F Q) :
  Opn enc P W t 1 (fun l:List X=>[.list (l.map F)]) (fun l=>l.length<=bS/\∀ y∈l,Q y):=by
 intro fuel cs x hx
 rcases Deep.open_slice ht hx with ⟨rfl,rfl⟩|⟨a,len,cap,m,n,D,Pl,rfl,_,hl,hm,hmm,rfl,hi⟩
 ·refine⟨[],⟨Nat.zero_le _,by simp⟩,rfl,rfl,?_⟩
  rw[repRow]
  refine⟨_,_,rfl,?_,bx _⟩
  rw[repC];exact⟨none,0,rfl,Nat.le_refl _,Nat.zero_le _,.inl rfl⟩
 ·simp only[if_true]at hmm
  subst hmm
  rw[hc]at hi
  have hlen:len<=bS:=Nat.le_trans hl hm
  obtain⟨Z,hZ⟩:=Deep.choose_lt (α:=X×List Value) (n:=len) (p:=fun i yc=>W.cells? 0 (a.add (i*k)) k=some yc.2/\Q yc.1/\yc.2.length=k/\(F yc.1).length=k/\repRow W (fun b=>b<W.heap.size) (F yc.1) yc.2) (fun i hil=>by
   obtain⟨ci,h1,h2⟩:=hi i (by omega)
   obtain⟨y,h3,h4,h5,h6⟩:=h n ci (D i,Pl i) h2
   exact⟨(y,ci),h1,h3,h4,h5,h6⟩)
  refine⟨(List.range len).map fun i=>(Z i).1,⟨by simpa using hlen,fun y hy=>?_⟩,rfl,rfl,?_⟩
  ·obtain⟨i,hi',rfl⟩:=List.mem_map.1 hy
   exact(hZ i (List.mem_range.1 hi')).2.1
  rw[repRow]
  refine⟨_,_,rfl,?_,bx _⟩
  rw[repC]
  refine⟨some a,m,by simp,by simpa using hl,by simp;omega,?_⟩
  by_cases h0:len=0
  ·left;simp[h0]
  right
  have cell:∀ i j,i<len->j<k->W.cell? (a.add (i*k+j))=(Z i).2[j]?:=by
   intro i j hi' hj
   have:=(World.cells?_some (hZ i hi').1).2.2 j hj
   rwa [Deep.add_add]at this
  have cellS:∀ i j,i<len->j<k->∃ v,(Z i).2[j]?=some v:=fun i j hi' hj=>⟨_,List.getElem?_eq_getElem (by have:=(hZ i hi').2.2.1;omega)⟩
  obtain⟨v0,hv0⟩:=cellS 0 0 (by omega) hk
  have c0:=cell 0 0 (by omega) hk
  rw[hv0]at c0
  have hs:a.spot=none:=by have:=World.cell?_spot c0;simpa [Addr.add] using this
  obtain⟨ab,ao,az⟩:=a
  simp only at hs;subst hs
  have c0':=c0
  rw[Addr.add_lit]at c0'
  unfold World.cell? at c0'
  split at c0'
  case h_2=>cases c0'
  rename_i c e' fr hbl
  have hbl:W.heap[ab]?=some (.cells c e' fr):=by simpa using hbl
  refine⟨ab,ao,k,c,e',fr,rfl,(Array.getElem?_eq_some_iff.1 hbl).1,hbl,hk,?_⟩
  refine Aq len (fun i=>(Z i).1) _ fun i hi'=>⟨(hZ i hi').2.2.2.1,?_⟩
  refine bJ (hZ i hi').2.2.2.2 ?_
  rw[(hZ i hi').2.2.2.1]
  refine List.ext_getElem? fun j=>?_
  by_cases hj:j<k
  ·rw[List.getElem?_take,if_pos hj,List.getElem?_take,if_pos hj,List.getElem?_drop,List.getElem?_drop,Array.getElem?_toList]
   obtain⟨v,hv⟩:=cellS i j hi' hj
   have cj:=cell i j hi' hj
   rw[hv,Addr.add_lit]at cj
   unfold World.cell? at cj
   simp only[hbl]at cj
   rw[hv,<-cj]
   simp[Nat.add_assoc,Nat.add_comm,Nat.add_left_comm]
  ·rw[List.getElem?_take,if_neg hj,List.getElem?_take,if_neg hj]
def fieldsOf(P:Program)(t:Nat):List (Nat×Nat×Nat) :=
 match P.underlying t with
 | some (.struct fs)=>fs.toList.map fun f=>(f.type,f.offset,P.cellsOf f.type)
 | _=>[]
def BS(P:Program)(t:Nat):Bool :=
 match P.underlying t with
 | some (.struct _)=>true
 | _=>false
def JG(enc:TypeId×Value->H)(P:Program)(W:World)(fl:List (Nat×Nat×Nat))(o k:Nat){X:Type}(F:X->List C)(Q:X->Prop):Prop :=
 ∀(n:Nat) (cs:List Value) (xs:List (DataW H×List MemPlace)),xs.length=fl.length->(∀(i:Nat) (q:Nat×Nat×Nat),fl[i]?=some q->DataW.trod enc P W 0 (fun _=>true) true n q.1 ((cs.drop q.2.1).take q.2.2)=xs[i]?) ->
  ∃ y,Q y/\(F y).length=k/\repRow W (fun b=>b<W.heap.size) (F y) (cs.drop o)
theorem cn{o:Nat}:JG enc P W [] o 0 (fun _:Unit=>[]) (fun _=>True) :=
 fun _ _ _ _ _=>⟨(),trivial,rfl,bx _⟩
theorem ax{t o k1 k2:Nat}{fl:List (Nat×Nat×Nat)}{F1:X->List C}{Q1:X->Prop}{F2:Y->List C}{Q2:Y->Prop}(h1:Opn enc P W t k1 F1 Q1)(h2:JG enc P W fl (o+k1) k2 F2 Q2) :
  JG enc P W ((t,o,k1)::fl) o (k1+k2) (fun y:X×Y=>F1 y.1++F2 y.2) (fun y=>Q1 y.1/\Q2 y.2):=by
 intro n cs xs hl hx
 cases xs with
 | nil=>simp at hl
 | cons x xs =>
  have h0:DataW.trod enc P W 0 (fun _=>true) true n t ((cs.drop o).take k1)=some x:=hx 0 (t,o,k1) rfl
  obtain⟨y1,a1,a2,a3,a4⟩:=h1 _ _ _ h0
  obtain⟨y2,b1,b2,b3⟩:=h2 n cs xs (by simpa using hl) (fun i q hq=>hx (i+1) q (by simpa using hq))
  refine⟨(y1,y2),⟨a1,b1⟩,by simp[a3,b2],repRow_append.2 ⟨bJ a4 ?_,?_⟩⟩
  ·rw[a3,List.take_take,Nat.min_self]
  ·rw[a3,List.drop_drop];exact b3
theorem co{t k:Nat}{fl:List (Nat×Nat×Nat)}{F:X->List C}{Q:X->Prop}(hs:BS P t=true)(hf:fieldsOf P t=fl)(hc:P.cellsOf t=k)(h:JG enc P W fl 0 k F Q):Opn enc P W t k F Q:=by
 intro fuel cs x hx
 unfold BS at hs
 split at hs
 case h_2=>cases hs
 rename_i fs ht
 obtain⟨xs,n,rfl,rfl,e1,e2,e3⟩:=DataW.trod_struct ht hx
 have hf':fs.toList.map (fun f=>(f.type,f.offset,P.cellsOf f.type))=fl:=by rw[<-hf];unfold fieldsOf;rw[ht]
 obtain⟨y,h1,h2,h3⟩:=h n cs xs (by rw[e2,<-hf'];simp) (fun i q hq=>by
  rw[<-hf',List.getElem?_map,Option.map_eq_some_iff]at hq
  obtain⟨f,hq,rfl⟩:=hq
  exact e3 i f (by simpa using hq))
 exact⟨y,h1,by rw[e1,hc],h2,by simpa using h3⟩
theorem uP{M:Nat->Prop}:∀ {cs:List C} {vs:List Value},repRow W M cs vs->cs.length=vs.length->shR W M (cs.map fun _=>Sh.val) cs vs []
 | [],[],_,_=>by rw[List.map_nil,shR];exact⟨rfl,rfl,rfl⟩
 | [],_::_,_,h=>by simp at h
 | c::cs,vs,h,hl=>by
  rw[repRow]at h
  obtain⟨v,vs',rfl,h1,h2⟩:=h
  rw[List.map_cons,shR]
  exact⟨c,cs,v,vs',[],[],rfl,rfl,rfl,by rw[shC];exact⟨rfl,h1⟩,uP h2 (by simpa using hl)⟩
theorem zr{t base:Nat}{r:Reach}{v:Value}(hs:BS P t=true)(h:Value.okWide P W r base t v):isV true v.cells.toList v:=by
 unfold BS at hs
 split at hs
 case h_2=>cases hs
 rename_i fs ht
 obtain⟨cs,rfl,_⟩:=okWide_struct ht h
 simp[isV,Value.cells]
theorem DN{t e base:Nat}{r:Reach}{v:Value}(ht:P.underlying t=some (.slice e))(h:Value.okWide P W r base t v):isV false v.cells.toList v:=by
 obtain⟨a,len,cap,rfl⟩:=okWide_slice ht h
 rfl
theorem Gb{t base:Nat}{k:IntKind}{r:Reach}{v:Value}(ht:P.underlying t=some (.int k))(h:Value.okWide P W r base t v):isV false v.cells.toList v:=by
 obtain⟨n,rfl⟩:=okWide_int ht h
 rfl
theorem lP{t k:Nat}{F:X->List C}{Q:X->Prop}(o:Opn enc P W t k F Q){Z:Nat->Prop}{a:Bool}{shs:List Sh}{ks:List CK}{v:Value}{d:DataW H}{p:List MemPlace}(hv:isV a v.cells.toList v)
  (h:DataW.Trod enc P W 0 (fun _=>true) true t v d p) (hk:∀ y,ai ks (F y)=true) (hs:∀ y,((F y).map fun _=>Sh.val)=shs):∃ y,Q y/\ym W (fun b=>b<W.heap.size) Z (.own a shs ks false) (F y) v []:=by
 obtain⟨fuel,hf⟩:=h
 obtain⟨y,h1,h2,h3,h4⟩:=o _ _ _ hf
 refine⟨y,h1,hk y,v.cells.toList,?_,hv⟩
 rw[<-hs y]
 exact uP h4 (by omega)
theorem fR{t:Nat}(hl:laidOutB P=true)(hr:P.readableRec t=true)(hrow:t<P.types.size){W':World}{v:Value}{d:DataW H}{ps:List MemPlace}
  (h:DataW.Trod enc P W 0 (fun _=>true) true t v d ps) (hW:∀ b,b<W.heap.size->W'.heap[b]?=W.heap[b]?) (hlt:∀ x∈ps,x.block<W.heap.size) :
  DataW.Trod enc P W' 0 (fun b=>decide (b<W.heap.size)) true t v d ps :=
 WideElems.Trod_stays hl hr hrow h (fun x hx=>by
  cases x with
  | cell b o=>exact World.cell?_of_block (w:=W) (hW b (hlt _ hx))
  | map b=>exact hW b (hlt _ hx)) (fun x hx=>by simpa using hlt x hx)
end
theorem iY{P:Program}{f:FuncId}{φ:List C->Option (List C)}{ps:List Par}(h:Has P f ⟨ps,[tp]⟩ φ){W:World}{cs:List C}{vs:List Value}(hps:∀ p∈ps,∃ a shs ks,p=Par.own a shs ks false)
  (hv:jW W (fun b=>b<W.heap.size) (fun b=>b<W.heap.size/\b∉([]:List Nat)) ps cs vs []) (hφ:φ cs=some [.bool true]) :
  Calls P f vs.toArray W fun e W'=>e=.returned (.bool true)/\W'.os=W.os/\W'.output=W.output/\∀ b,b<W.heap.size->W'.heap[b]?=W.heap[b]?:=by
 refine(h.walk W (fun b=>b<W.heap.size) cs vs [] (fun b hb=>⟨hb,by simp⟩) hv List.nodup_nil (by simp) _ hφ).mono ?_
 rintro e W' ⟨M',rvs,r1,r2,X1,X2,rfl,hr,h1,_,h2,_,h3,_,_,h5,h6,_,_⟩
 have hback:∀ {ps:List Par} {vs:List Value} {c X},(∀ p∈ps,∃ a shs ks,p=Par.own a shs ks false)->ft W W' M' ps vs c X->c=[]/\X=[]:=by
  intro ps
  induction ps with
  | nil=>intro vs c X _ hb;exact hb.2
  | cons p ps ih =>
   intro vs c X hp hb
   obtain⟨v,vs',c1,c2,X1,X2,rfl,rfl,rfl,hb1,hb2⟩:=hb
   obtain⟨rfl,rfl⟩:=ih (fun q hq=>hp q (by simp[hq])) hb2
   obtain⟨a,shs,ks,e⟩:=hp p (by simp)
   rw[e]at hb1
   obtain⟨rfl,rfl⟩:=(show c1=[]/\X1=[] from hb1)
   exact⟨rfl,rfl⟩
 obtain⟨rfl,rfl⟩:=hback hps h6
 rw[List.append_nil]at hr
 subst hr
 simp only[gj]at h5
 obtain⟨c1,c2,v,vs',Y1,Y2,e1,rfl,rfl,_,h7,rfl,rfl,rfl⟩:=h5
 simp only[List.append_nil]at e1;subst e1
 simp only[fv,tp]at h7
 obtain⟨us,h8,h9⟩:=h7
 have h9:us=[v]:=h9
 subst h9
 rw[shR]at h8
 obtain⟨c,cs',v',vs',Z1,Z2,e2,e3,rfl,h10,_⟩:=h8
 simp only[List.cons.injEq]at e2 e3
 rw[<-e2.1,<-e3.1,shC]at h10
 have:=h10.2
 rw[repC]at this
 subst this
 exact⟨rfl,h1,h2,fun b hb=>h3 b hb (by simp)⟩
end Dx
