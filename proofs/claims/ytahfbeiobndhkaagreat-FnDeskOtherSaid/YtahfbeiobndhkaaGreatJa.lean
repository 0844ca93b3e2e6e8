import Derived.Test.YtahfbeiobndhkaaGreatXd
import Derived.ChangeSlices
import Derived.JoinedCond
import Derived.OpenShut
import Derived.ProofKit
import Derived.WalkKit
set_option linter.all false
namespace Dx
open Go Go.ChangeShapes Go.WideShapes Go.ChangeAt Go.RowKit
def cB(n:Int):List C:=[.int .u8 n]
section
variable {H:Type} {enc:TypeId×Value->H} {P:Program} {W:World}
theorem i5{M:Nat->Prop}:∀ {zs:List Int} {vs:List Value},(∀ i,i<zs.length->vs[i]?=some (.int .u8 (zs.getD i 0)))->repRows W M 1 (zs.map cB) vs
 | [],_,_=>by rw[List.map_nil,repRows];trivial
 | z::zs,vs,h=>by
  rw[List.map_cons,repRows]
  have h0:=h 0 (by simp)
  cases vs with
  | nil=>simp at h0
  | cons v vs =>
   simp only[List.getElem?_cons_zero,Option.some.injEq,List.getD_cons_zero]at h0
   refine⟨rfl,?_,?_⟩
   ·rw[cB,repRow];exact⟨v,vs,rfl,by rw[repC];exact h0,by rw[repRow];trivial⟩
   ·refine i5 fun i hi=>?_
    have:=h (i+1) (by simp;omega)
    simpa using this
theorem bA{t e base:Nat}{v:Value}{d:DataW H}{p:List MemPlace}(ht:P.underlying t=some (.slice e))(he:P.underlying e=some (.int .u8))(hc:P.cellsOf e=1)
  (hval:Value.okWide P W .any base t v) (h:DataW.Trod enc P W 0 (fun _=>true) true t v d p) :
  ∃ code:List Int,(∀ b∈code,0<=b/\b<=255)/\repC W (fun b=>b<W.heap.size) (.list (code.map cB)) v/\(d=.nil/\code=[]\/∃ spare,d=.slice (Go.ChangeShapes.lits .u8 code) spare) ∧
   (∀ W':World,(∀ b,b<W.heap.size->W'.heap[b]?=W.heap[b]?)->DataW.Trod enc P W' 0 (fun b=>decide (b<W.heap.size)) true t v d p):=by
 obtain⟨a1,len,cap,rfl⟩:=okWide_slice ht hval
 obtain⟨fuel,hf⟩:=h
 rcases open_ints ht he hc hf with ⟨hcs,hx⟩|⟨a,len',cap',zs,hcs,_,hl,hm,hz,hx,hcell,hwz⟩
 ·simp[Value.cells]at hcs
  obtain⟨rfl,rfl,rfl⟩:=hcs
  simp only[Prod.mk.injEq]at hx
  obtain⟨rfl,rfl⟩:=hx
  refine⟨[],by simp,?_,.inl ⟨rfl,rfl⟩,fun W' _=>shut_slice_nil ht⟩
  rw[repC];exact⟨none,0,rfl,Nat.le_refl _,Nat.zero_le _,.inl rfl⟩
 ·simp[Value.cells]at hcs
  obtain⟨rfl,rfl,rfl⟩:=hcs
  simp only[Prod.mk.injEq]at hx
  obtain⟨rfl,rfl⟩:=hx
  simp only[if_true]at hz
  have hlen:(zs.take len).length=len:=by simp;omega
  have blk:0<zs.length->∃ c e' fr,W.heap[a.block]?=some (.cells c e' fr)/\a.spot=none/\∀ i,i<zs.length->c[a.off+i]?=some (.int .u8 (zs.getD i 0)):=by
   intro h0
   have hs:a.spot=none:=by have:=World.cell?_spot (hcell 0 h0);simpa [Addr.add] using this
   obtain⟨ab,ao,as⟩:=a
   simp only at hs;subst hs
   have c0:=hcell 0 h0
   rw[Addr.add_lit]at c0
   unfold World.cell? at c0
   split at c0
   case h_2=>cases c0
   rename_i c e' fr hb
   refine⟨c,e',fr,hb,rfl,fun i hi=>?_⟩
   have ci:=hcell i hi
   rw[Addr.add_lit]at ci
   unfold World.cell? at ci
   simp only[hb]at ci
   simpa using ci
  refine⟨zs.take len,fun b hb=>?_,?_,.inr ⟨_,rfl⟩,fun W' hW'=>?_⟩
  ·have:=hwz b (List.mem_of_mem_take hb)
   simpa [Lit.wf,IntKind.min,IntKind.max,IntKind.signed,IntKind.bits] using this
  ·rw[repC]
   refine⟨some a,cap,by simp;omega,by simp;omega,by rw[List.length_map,hlen];exact Nat.le_trans hl hm,?_⟩
   by_cases h0:len=0
   ·left;simp[h0]
   ·right
    obtain⟨c,e',fr,hb,hs,hi⟩:=blk (by omega)
    obtain⟨ab,ao,as⟩:=a
    simp only at hs;subst hs
    refine⟨ab,ao,1,c,e',fr,rfl,(Array.getElem?_eq_some_iff.1 hb).1,hb,by omega,i5 fun i hi'=>?_⟩
    rw[hlen]at hi'
    rw[List.getElem?_drop,Array.getElem?_toList,hi i (by omega)]
    congr 2
    simp[List.getD,List.getElem?_take,hi']
  ·have hcell':∀ i,i<zs.length->W'.cell? (a.add i)=some (.int .u8 (zs.getD i 0)):=fun i hi=>by
    rw[<-hcell i hi]
    obtain⟨c,e',fr,hb,_,_⟩:=blk (by omega)
    have:=hW' a.block (Array.getElem?_eq_some_iff.1 hb).1
    unfold World.cell?
    rw[block_add,this]
   have hz':zs.length=(if(fun b=>decide (b<W.heap.size)) a.block then cap else len):=by
    by_cases h0:0<zs.length
    ·obtain⟨c,e',fr,hb,_,_⟩:=blk h0
     have:=(Array.getElem?_eq_some_iff.1 hb).1
     simp[this,hz]
    ·have:cap=0:=by omega
     have:len=0:=by omega
     split<;>omega
   exact⟨_,shut_ints 0 ht he hc (Nat.zero_le _) hl hm hz' hcell' hwz⟩
theorem de{W':World}(h1:W'.os=W.os)(h2:W'.output=W.output)(h3:∀ b,b<W.heap.size->W'.heap[b]?=W.heap[b]?)(may:MemPlace->Prop):W.keptBut W' may:=by
 refine⟨h1,h2,fun i hi=>?_⟩
 rw[h3 i hi]
 cases h:W.heap[i]? with
 | none=>rfl
 | some o=>cases o<;>first|exact⟨rfl,rfl,rfl,fun _ _=>rfl⟩|exact .inr ⟨rfl,rfl⟩|rfl
end
def dq:Par:=.own false [.val] [.list] false
def Dy:Ret:=⟨false,[.val],[.bool],false⟩
theorem bU{P:Program}{f:FuncId}{φ:List C->Option (List C)}{ps:List Par}(h:Has P f ⟨ps,[Dy]⟩ φ){W:World}{cs:List C}{vs:List Value}(hps:∀ p∈ps,p=dq)
  (hv:oD W (fun b=>b<W.heap.size) (fun b=>b<W.heap.size/\b∉([]:List Nat)) ps cs vs []) (hφ:φ cs=some [.bool true]) :
  Calls P f vs.toArray W fun e W'=>e=.returned (.bool true)/\W'.os=W.os/\W'.output=W.output/\∀ b,b<W.heap.size->W'.heap[b]?=W.heap[b]?:=by
 refine(h.walk W (fun b=>b<W.heap.size) cs vs [] (fun b hb=>⟨hb,by simp⟩) hv List.nodup_nil (by simp) _ hφ).mono ?_
 rintro e W' ⟨M',rvs,r1,r2,X1,X2,rfl,hr,h1,_,h2,_,h3,_,_,h5,h6,_,_⟩
 have hback:∀ {ps:List Par} {vs:List Value} {c X},(∀ p∈ps,p=dq)->jg W W' M' ps vs c X->c=[]/\X=[]:=by
  intro ps
  induction ps with
  | nil=>intro vs c X _ hb;exact hb.2
  | cons p ps ih =>
   intro vs c X hp hb
   obtain⟨v,vs',c1,c2,X1,X2,rfl,rfl,rfl,hb1,hb2⟩:=hb
   obtain⟨rfl,rfl⟩:=ih (fun q hq=>hp q (by simp[hq])) hb2
   rw[hp p (by simp)]at hb1
   obtain⟨rfl,rfl⟩:=(show c1=[]/\X1=[] from hb1)
   exact⟨rfl,rfl⟩
 obtain⟨rfl,rfl⟩:=hback hps h6
 rw[List.append_nil]at hr
 subst hr
 simp only[jJ]at h5
 obtain⟨c1,c2,v,vs',Y1,Y2,e1,rfl,rfl,_,h7,rfl,rfl,rfl⟩:=h5
 simp only[List.append_nil]at e1;subst e1
 simp only[ij,Dy]at h7
 obtain⟨us,h8,h9⟩:=h7
 have h9:us=[v]:=h9
 subst h9
 rw[shR]at h8
 obtain⟨c,cs',v',vs',Z1,Z2,e2,e3,rfl,h10,_⟩:=h8
 simp only[List.cons.injEq]at e2 e3
 rw[<-e2.1,<-e3.1,shC]at h10
 have:=h10.2
 rw[repC]at this
 subst this
 exact⟨rfl,h1,h2,fun b hb=>h3 b hb (by simp)⟩
theorem cv{W:World}{code:List Int}{v:Value}(h:repC W (fun b=>b<W.heap.size) (.list (code.map cB)) v):Ce W (fun b=>b<W.heap.size) (fun b=>b<W.heap.size/\b∉([]:List Nat)) dq [.list (code.map cB)] v []:=by
 refine⟨rfl,[v],?_,rfl⟩
 rw[shR]
 refine⟨_,[],v,[],[],[],rfl,rfl,rfl,?_,by rw[shR];exact⟨rfl,rfl,rfl⟩⟩
 rw[shC];exact⟨rfl,h⟩
end Dx
