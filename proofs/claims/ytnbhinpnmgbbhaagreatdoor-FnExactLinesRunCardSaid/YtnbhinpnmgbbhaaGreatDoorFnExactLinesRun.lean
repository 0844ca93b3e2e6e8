/- PROVED: the card of FnExactLinesRun (CardSaid). No condition beyond the statement's own. -/
import Derived.Test.YtnbhinpnmgbbhaaGreatDoorZb
import Derived.Test.YtnbhinpnmgbbhaaGreatDoorHa
import Derived.Test.YtnbhinpnmgbbhaaGreatDoorJa
import Derived.Test.YtnbhinpnmgbbhaaGreatDoorRows
import Derived.Test.YtnbhinpnmgbbhaaGreatDoorCards
import Derived.Test.YtnbhinpnmgbbhaaGreatDoorTie
import Derived.LaidMore
import Derived.Lay
import Derived.SevenTiedAt
import Derived.Stop.Joined
import Derived.Deep.DeepHandedRow
set_option linter.all false
namespace Dx
open Go Go.Proofs
def t_aw:Tree :=
 .letp .len [⟨.list,(.v 0)⟩]<|
 .letp .gtI [⟨(.int .i64),(.v 2)⟩,⟨(.int .i64),(.n 1048576)⟩]<|
 .ite (.v 3) (
 .ret [⟨.bool,(.b true)⟩])<|
 .letp .slen [⟨.str,(.v 1)⟩]<|
 .letp .gtI [⟨(.int .i64),(.v 4)⟩,⟨(.int .i64),(.n 1048576)⟩]<|
 .ite (.v 5) (
 .ret [⟨.bool,(.b true)⟩])<|
 .call 0 [⟨.list,(.v 0)⟩] [.list]<|
 .call 1 [⟨.list,(.v 6)⟩,⟨.str,(.v 1)⟩] [.str]<|
 .call 0 [⟨.list,(.v 0)⟩] [.list]<|
 .call 2 [⟨.list,(.v 8)⟩,⟨.str,(.v 1)⟩] [.str]<|
 .letp .neS [⟨.str,(.v 9)⟩,⟨.str,(.v 7)⟩]<|
 .ite (.v 10) (
 .ret [⟨.bool,(.b false)⟩])<|
 .call 0 [⟨.list,(.v 0)⟩] [.list]<|
 .call 3 [⟨.list,(.v 8)⟩,⟨.list,(.v 11)⟩] [.bool]<|
 .letp .not [⟨.bool,(.v 12)⟩]<|
 .ite (.v 13) (
 .ret [⟨.bool,(.b false)⟩])<|
 .ret [⟨.bool,(.b true)⟩]
noncomputable def Φ_aw:Phi:=fun n=>match n with
 | 0=>y9
 | 1=>eY
 | 2=>bD
 | 3=>za
 | _=>fun _=>none
noncomputable def φ_aw(cs:List C):Option (List C):=ai (den Φ_aw t_aw cs)
end Dx
namespace Dx
open Go
theorem m_toIntS{l:List Int}(hl:l.length<=1099511627775):y9 [.list (l.map eI)]=some [.list (l.map eI)]:=by
 rw[q_gb]
 have key:=am (l:=l) (F:=fun ps=>vp (l.map eI) ((aa ps 0).toInt) ((aa ps 1).toList)) (enc:=fun i (s:List Int)=>[.int .i64 i,.list (s.map eI)])
  (res:=fun _ _ _=>.ret [.list (l.map eI)]) (fun i s=>s=l.take i++List.replicate (l.length-i) 0) (s:=List.replicate l.length 0) (by simp) ?_ ?_
 ·have key:aq _ [C.int .i64 0,.list ((List.replicate l.length (0:Int)).map eI)]=_:=key
  rw[List.map_replicate]at key
  have hb:(((l.length:Nat):Int)==((l.length:Nat):Int))=true:=by simp
  simp (disch:=first|assumption|omega|(simp only[zL];omega)) only[F_gb,List.length_map,hb,Int.toNat_natCast,Int.reduceEq,reduceIte,zU,zT,aa]
  show ai (aq _ [C.int .i64 0,.list (List.replicate l.length (eI 0))])=_
  rw[key];rfl
 ·intro i x xs s hx hs
  have hi:=(List.getElem?_eq_some_iff.1 hx).1
  have hi':(i:Int)<(l.length:Nat):=by omega
  have hi0:(0:Int)<=i:=by omega
  have hsl:s.length=l.length:=by rw[hs];simp;omega
  have hi2:(i:Int)<(s.length:Nat):=by omega
  have hse:setRow 0 (s.map eI) i [.int .i64 x]=(s.set i x).map eI:=by
   have:(s.map eI)[i]?=some (eI (s[i]'(by omega))):=by rw[List.getElem?_map,List.getElem?_eq_getElem (by omega)];rfl
   unfold setRow
   rw[this,List.map_set];rfl
  refine .inl ⟨s.set i x,?_,?_,rfl⟩
  ·simp (disch:=first|assumption|omega|(simp only[zL];omega)) only[vp,List.length_map,hi',if_true,iP hx,eI,hi0,hi2,decide_true,Bool.and_self,Int.toNat_natCast,ap,Int.reduceEq,reduceIte,zU,zT,aa]
   rw[<-hse]
  ·rw[hs,show l.length-i=(l.length-(i+1))+1 by omega,List.replicate_succ,List.set_append_right (h:=by rw[List.length_take];omega),List.take_add_one,hx]
   rw[List.length_take,Nat.min_eq_left (by omega),Nat.sub_self]
   simp
 ·intro s hs
  have h:¬ ((l.length:Int)<(l.length:Nat)):=by omega
  simp (disch:=first|assumption|omega|(simp only[zL];omega)) only[vp,List.length_map,h,if_false,Int.reduceEq,reduceIte,zU,zT,aa]
  simp[hs]
theorem m_eqIntS{l:List Int}(hl:l.length<=1099511627775):za [.list (l.map eI),.list (l.map eI)]=some [.bool true]:=by
 rw[q_gj]
 have key:=am (l:=l) (F:=fun ps=>vq (l.map eI) (l.map eI) ((aa ps 0).toInt)) (enc:=fun i (_:Unit)=>[.int .i64 i])
  (res:=fun _ _ _=>.ret [.bool true]) (fun _ _=>True) (s:=()) trivial ?_ ?_
 ·simp (disch:=first|assumption|omega|(simp only[zL];omega)) only[F_gj,List.length_map,Int.reduceEq,reduceIte,zU,zT,aa]
  have key:aq _ [C.int .i64 0]=_:=key
  simp only[if_true,key]
  rfl
 ·intro i x xs s hx _
  have hi:=(List.getElem?_eq_some_iff.1 hx).1
  have hi':(i:Int)<(l.length:Nat):=by omega
  refine .inl ⟨(),?_,trivial,rfl⟩
  simp (disch:=first|assumption|omega|(simp only[zL];omega)) only[vq,List.length_map,hi',if_true,iP hx,eI,ap,Int.reduceEq,reduceIte,zU,zT,aa]
 ·intro s hs
  have h:¬ ((l.length:Int)<(l.length:Nat)):=by omega
  simp (disch:=first|assumption|omega|(simp only[zL];omega)) only[vq,List.length_map,h,if_false,Int.reduceEq,reduceIte,zU,zT,aa]
theorem law_ExactLinesRun{rooms:List Int}{text:List UInt8}:φ_aw [.list (rooms.map eI),.str (mkB text)]=some [.bool true]:=by
 unfold φ_aw t_aw
 have e0:Φ_aw 0=y9:=rfl
 have e1:Φ_aw 1=eY:=rfl
 have e2:Φ_aw 2=bD:=rfl
 have e3:Φ_aw 3=za:=rfl
 by_cases h1:((rooms.length:Nat):Int)>1048576
 ·simp (disch:=first|assumption|omega|(simp only[zL];omega)) only[iC,dK,bH,cy,bn,bv,bo,aR,bd,bu,aQ,aN,Cell.den,At.den,Prim.den,List.cons_append,List.nil_append,c9,bQ,CK.of,iB,gN,Bool.decide_eq_true,List.length_map,h1,if_true,Int.reduceEq,reduceIte,zU,zT,aa]
 by_cases h2:(text.length:Int)>1048576
 ·simp (disch:=first|assumption|omega|(simp only[zL];omega)) only[iC,dK,bH,cy,bn,bv,bo,aR,bd,bu,aQ,aN,Cell.den,At.den,Prim.den,List.cons_append,List.nil_append,c9,bQ,CK.of,iB,gN,Bool.decide_eq_true,List.length_map,h1,if_false,ak,h2,if_true,Int.reduceEq,reduceIte,zU,zT,aa]
 have a:=m_toIntS (l:=rooms) (by omega)
 have b:=m_eqIntS (l:=rooms) (by omega)
 have c:=bY (rooms:=rooms) (text:=text) (by omega) (by omega)
 have d:=fR (rooms:=rooms) (text:=text) (by omega) (by omega)
 simp (disch:=first|assumption|omega|(simp only[zL];omega)) only[iC,dK,bH,cy,bn,bv,bo,aR,bd,bu,aQ,aN,Cell.den,At.den,Prim.den,List.cons_append,List.nil_append,c9,bQ,CK.of,iB,gN,Bool.decide_eq_true,List.length_map,h1,if_false,ak,h2,e0,e1,e2,e3,a,b,c,d,sB,cm,zp,decide_true,Bool.not_true,Int.reduceEq,reduceIte,zU,zT,aa]
end Dx
namespace Dx
open Go Go.Proofs
def c_aw:Con:=⟨[.own false [.val] [.list] false,.own false [.val] [.str] false],[⟨false,[.val],[.bool],false⟩]⟩
theorem has_aw:Has Tryz.prog 6 c_aw φ_aw:=fp (R:=[]) (tr:=false) (E:=[(17,0,c_gb),(16,1,sY),(15,2,sX),(18,3,c_gj)]) (Φ:=Φ_aw) (t:=t_aw) ⟨Nc,gv,gu,Nd,trivial⟩ Tryz.f6 hE (by kernel_rfl)
end Dx
namespace Go.Proofs.YtnbhinpnmgbbhaaGreatDoor.fnExactLinesRun
open Go.ChangeShapes Go.WideShapes Go.ChangeAt Go.RowKit Dx
set_option maxRecDepth 100000
theorem own:ownKnob Tryz.prog.godebug=none:=by kernel_rfl
theorem pm:Tryz.f6.params=#[23,9]:=by kernel_rfl
theorem t22:Tryz.prog.underlying 23=some (.slice 3):=by kernel_rfl
theorem t5:Tryz.prog.underlying 3=some (.int .i64):=by kernel_rfl
theorem t9:Tryz.prog.underlying 9=some .string:=by kernel_rfl
theorem t4:Tryz.prog.underlying 4=some .bool:=by kernel_rfl
theorem c5:Tryz.prog.cellsOf 3=1:=by kernel_rfl
theorem fc:Tryz.prog.funcs[6]?=some Tryz.f6:=by kernel_rfl
section
variable {H:Type} {enc:TypeId×Value->H} {P:Program} {W:World}
theorem ri{M:Nat->Prop}:∀ {zs:List Int} {vs:List Value},(∀ i,i<zs.length->vs[i]?=some (.int .i64 (zs.getD i 0)))->repRows W M 1 (zs.map eI) vs
 | [],_,_=>by rw[List.map_nil,repRows];trivial
 | z::zs,vs,h=>by
  rw[List.map_cons,repRows]
  have h0:=h 0 (by simp)
  cases vs with
  | nil=>simp at h0
  | cons v vs =>
   simp only[List.getElem?_cons_zero,Option.some.injEq,List.getD_cons_zero]at h0
   refine⟨rfl,?_,?_⟩
   ·rw[eI,repRow];exact⟨v,vs,rfl,by rw[repC];exact h0,by rw[repRow];trivial⟩
   ·refine ri fun i hi=>?_
    have:=h (i+1) (by simp;omega)
    simpa using this
theorem on{t e base:Nat}{v:Value}{d:DataW H}{p:List MemPlace}(ht:P.underlying t=some (.slice e))(he:P.underlying e=some (.int .i64))(hc:P.cellsOf e=1)
  (hv:Value.okWide P W .any base t v) (h:DataW.Trod enc P W 0 (fun _=>true) true t v d p) :
  ∃ cz:List Int,repC W (fun b=>b<W.heap.size) (.list (cz.map eI)) v/\(d=.nil/\cz=[]\/∃ spare,d=.slice (lits .i64 cz) spare) ∧
   (∀ W':World,(∀ b,b<W.heap.size->W'.heap[b]?=W.heap[b]?)->DataW.Trod enc P W' 0 (fun b=>decide (b<W.heap.size)) true t v d p):=by
 obtain⟨a1,len,cap,rfl⟩:=okWide_slice ht hv
 obtain⟨fuel,hf⟩:=h
 rcases open_ints ht he hc hf with ⟨hcs,hx⟩|⟨a,len',cap',zs,hcs,_,hl,hm,hz,hx,hC,hwz⟩
 ·simp[Value.cells]at hcs
  obtain⟨rfl,rfl,rfl⟩:=hcs
  simp only[Prod.mk.injEq]at hx
  obtain⟨rfl,rfl⟩:=hx
  refine⟨[],?_,.inl ⟨rfl,rfl⟩,fun W' _=>shut_slice_nil ht⟩
  rw[repC];exact⟨none,0,rfl,Nat.le_refl _,Nat.zero_le _,.inl rfl⟩
 ·simp[Value.cells]at hcs
  obtain⟨rfl,rfl,rfl⟩:=hcs
  simp only[Prod.mk.injEq]at hx
  obtain⟨rfl,rfl⟩:=hx
  simp only[if_true]at hz
  have hn:(zs.take len).length=len:=by simp;omega
  have blk:0<zs.length->∃ c e' fr,W.heap[a.block]?=some (.cells c e' fr)/\a.spot=none/\∀ i,i<zs.length->c[a.off+i]?=some (.int .i64 (zs.getD i 0)):=by
   intro h0
   have hs:a.spot=none:=by have:=World.cell?_spot (hC 0 h0);simpa [Addr.add] using this
   obtain⟨ab,ao,az⟩:=a
   simp only at hs;subst hs
   have c0:=hC 0 h0
   rw[Addr.add_lit]at c0
   unfold World.cell? at c0
   split at c0
   case h_2=>cases c0
   rename_i c e' fr hb
   refine⟨c,e',fr,hb,rfl,fun i hi=>?_⟩
   have ci:=hC i hi
   rw[Addr.add_lit]at ci
   unfold World.cell? at ci
   simp only[hb]at ci
   simpa using ci
  refine⟨zs.take len,?_,.inr ⟨_,rfl⟩,fun W' hW'=>?_⟩
  ·rw[repC]
   refine⟨some a,cap,by simp;omega,by simp;omega,by rw[List.length_map,hn];exact Nat.le_trans hl hm,?_⟩
   by_cases h0:len=0
   ·left;simp[h0]
   ·right
    obtain⟨c,e',fr,hb,hs,hi⟩:=blk (by omega)
    obtain⟨ab,ao,az⟩:=a
    simp only at hs;subst hs
    refine⟨ab,ao,1,c,e',fr,rfl,(Array.getElem?_eq_some_iff.1 hb).1,hb,by omega,ri fun i hi'=>?_⟩
    rw[hn]at hi'
    rw[List.getElem?_drop,Array.getElem?_toList,hi i (by omega)]
    congr 2
    simp[List.getD,List.getElem?_take,hi']
  ·have hC':∀ i,i<zs.length->W'.cell? (a.add i)=some (.int .i64 (zs.getD i 0)):=fun i hi=>by
    rw[<-hC i hi]
    obtain⟨c,e',fr,hb,_,_⟩:=blk (by omega)
    have:=hW' a.block (Array.getElem?_eq_some_iff.1 hb).1
    unfold World.cell?
    rw[block_add,this]
   have hz':zs.length=(if(fun b=>decide (b<W.heap.size)) a.block then cap else len):=by
    by_cases h0:0<zs.length
    ·obtain⟨c,e',fr,hb,_,_⟩:=blk h0
     have:=(Array.getElem?_eq_some_iff.1 hb).1
     simp[this,hz]
    ·have:cap=0:=by omega
     have:len=0:=by omega
     split<;>omega
   exact⟨_,shut_ints 0 ht he hc (Nat.zero_le _) hl hm hz' hC' hwz⟩
end
theorem lc{P:Program}{f:FuncId}{φ:List C->Option (List C)}{ps:List Par}(h:Has P f ⟨ps,[vC]⟩ φ){W:World}{cs:List C}{vs:List Value}(hps:∀ p∈ps,∃ ks,p=Par.own false [.val] ks false)
  (hv:iw W (fun b=>b<W.heap.size) (fun b=>b<W.heap.size/\b∉([]:List Nat)) ps cs vs []) (hφ:φ cs=some [.bool true]) :
  Calls P f vs.toArray W fun e W'=>e=.returned (.bool true)/\W'.os=W.os/\W'.output=W.output/\∀ b,b<W.heap.size->W'.heap[b]?=W.heap[b]?:=by
 refine(h.walk W (fun b=>b<W.heap.size) cs vs [] (fun b hb=>⟨hb,by simp⟩) hv List.nodup_nil (by simp) _ hφ).mono ?_
 rintro e W' ⟨M',rvs,r1,r2,X1,X2,rfl,hr,h1,_,h2,_,h3,_,_,h5,h6,_,_⟩
 have hk:∀ {ps:List Par} {vs:List Value} {c X},(∀ p∈ps,∃ ks,p=Par.own false [.val] ks false)->dD W W' M' ps vs c X->c=[]/\X=[]:=by
  intro ps
  induction ps with
  | nil=>intro vs c X _ hb;exact hb.2
  | cons p ps ih =>
   intro vs c X hp hb
   obtain⟨v,vs',c1,c2,X1,X2,rfl,rfl,rfl,hb1,hb2⟩:=hb
   obtain⟨rfl,rfl⟩:=ih (fun q hq=>hp q (by simp[hq])) hb2
   obtain⟨ks,e⟩:=hp p (by simp)
   rw[e]at hb1
   obtain⟨rfl,rfl⟩:=(show c1=[]/\X1=[] from hb1)
   exact⟨rfl,rfl⟩
 obtain⟨rfl,rfl⟩:=hk hps h6
 rw[List.append_nil]at hr
 subst hr
 simp only[eM]at h5
 obtain⟨c1,c2,v,vs',Y1,Y2,e1,rfl,rfl,_,h7,rfl,rfl,rfl⟩:=h5
 simp only[List.append_nil]at e1;subst e1
 simp only[dO,vC]at h7
 obtain⟨us,h8,h9⟩:=h7
 have h9:us=[v]:=h9
 subst h9
 rw[shR]at h8
 obtain⟨c,cs',v',vs',Z1,Z2,e2,e3,rfl,h10,_⟩:=h8
 simp only[List.cons.injEq]at e2 e3
 rw[<-e2.1,<-e3.1,shC]at h10
 have:=h10.2
 rw[repC]at this
 subst this
 exact⟨rfl,h1,h2,fun b hb=>h3 b hb (by simp)⟩
theorem pn{W:World}{cz:List Int}{v:Value}(h:repC W (fun b=>b<W.heap.size) (.list (cz.map eI)) v):pD W (fun b=>b<W.heap.size) (fun b=>b<W.heap.size/\b∉([]:List Nat)) eH [.list (cz.map eI)] v []:=by
 refine⟨rfl,[v],?_,rfl⟩
 rw[shR]
 refine⟨_,[],v,[],[],[],rfl,rfl,rfl,?_,by rw[shR];exact⟨rfl,rfl,rfl⟩⟩
 rw[shC];exact⟨rfl,h⟩
theorem pt{W:World}{s:ByteArray}:pD W (fun b=>b<W.heap.size) (fun b=>b<W.heap.size/\b∉([]:List Nat)) (.own false [.val] [.str] false) [.str s] (.string s) []:=by
 refine⟨rfl,[.string s],?_,rfl⟩
 rw[shR]
 refine⟨_,[],.string s,[],[],[],rfl,rfl,rfl,?_,by rw[shR];exact⟨rfl,rfl,rfl⟩⟩
 rw[shC];exact⟨rfl,by rw[repC]⟩
theorem ct(H:Type)(enc:TypeId×Value->H)(W:World)(base:Nat)(args:Array Value)(ds gs:List (DataW H))(bf:List MemPlace)
  (hv:∀(j:Nat) t v,Tryz.f6.params[j]?=some t->args[j]?=some v->Value.okWide Tryz.prog W .any base t v)
  (hW:DataW.Whole enc Tryz.prog Tryz.f6.params.toList Rows.fnExactLinesRunSpec.vars false W args.toList ds gs bf) :
  Calls Tryz.prog 6 args W fun e W'=>∃ v,e=.returned v/\Rows.fnExactLinesRunSpec.post enc Tryz.prog Tryz.f6 false true false false W args v W':=by
 have hW':=hW
 obtain⟨p,q,hA0,hV,rfl,hfz,hnd⟩:=hW
 have hA:DataW.TrodAll enc Tryz.prog W 0 (fun _=>true) true Tryz.f6.params.toList args.toList ds p:=hA0
 rw[pm]at hA hv
 obtain⟨v0,vs0,d0,ds0,p0,q0,ha,rfl,rfl,h0,r0⟩:=trodAll_cons hA
 obtain⟨v1,vs1,d1,ds1,p1,q1,rfl,rfl,rfl,h1,r1⟩:=trodAll_cons r0
 obtain⟨rfl,rfl,rfl⟩:=trodAll_nil r1
 obtain rfl:args=#[v0,v1]:=by cases args;simp_all
 obtain⟨rfl,rfl⟩:=trodVars_none hV
 obtain⟨cz,hp,hd,hj⟩:=on t22 t5 c5 (hv 0 23 v0 rfl rfl) h0
 obtain⟨s,rfl,rfl,rfl,hsm⟩:=Go.ChangeMaps.open_string t9 (hv 1 9 v1 rfl rfl) h1
 have hL:φ_aw [.list (cz.map eI),.str s]=some [.bool true]:=law_ExactLinesRun (rooms:=cz) (text:=s.data.toList)
 refine(lc (vs:=[v0,.string s]) has_aw (by intro p hp;simp only[List.mem_cons,List.mem_nil_iff,or_false]at hp;rcases hp with rfl|rfl<;>exact⟨_,rfl⟩) ⟨[.list (cz.map eI)],[.str s],v0,[.string s],[],[],rfl,rfl,rfl,pn hp,[.str s],[],.string s,[],[],[],rfl,rfl,rfl,pt,rfl,rfl,rfl⟩ hL).mono ?_
 rintro e W' ⟨rfl,g1,g2,g3⟩
 refine⟨_,rfl,[d0,.lit (.string s.data.toList)],[],p0++[],[],p0++[],[],by simpa using hW',trodAll_cons_mk (shut_bool t4 _) trodAll_mk0,?_,rfl,eu g1 g2 g3 _,fun h=>by cases h⟩
 rw[pm]
 have:=trodAll_cons_mk (hj W' g3) (trodAll_cons_mk (Go.ChangeMaps.shut_string t9 hsm) trodAll_mk0)
 rw[List.append_nil]at this
 exact this
def inp:Input:=⟨#[],#[.slice none 0 0,.string ⟨#[]⟩],[]⟩
theorem lf(os:Os)(sd:os.Started)(H:Type)(enc:TypeId×Value->H)(F:Stop.Interp) :
  ReturnsInHanded {} Tryz.checked os 6 .any ((OpenSpec.ofChange Rows.fnExactLinesRunSpec).preRow enc Tryz.prog Tryz.f6 Rows.fnExactLinesRunRow.domain false Rows.fnExactLinesRunRow.laid) (((OpenSpec.ofChange Rows.fnExactLinesRunSpec).at F).post enc Tryz.prog Tryz.f6 false true false false):=by
 have hok:Input.okWideB Tryz.prog ((World.laidAll Tryz.prog os Rows.fnExactLinesRunRow.laid).forCall (fun _ _=>0) inp) 6 inp=true:=by kernel_rfl
 refine returnsInHanded_of_row (C:=Tryz.checked) (s:=OpenSpec.ofChange Rows.fnExactLinesRunSpec) (laid:=Rows.fnExactLinesRunRow.laid) own sd (by kernel_rfl) fc
  ⟨World.laidAll Tryz.prog os Rows.fnExactLinesRunRow.laid,fun _ _=>0,inp,World.laidAll_os _ _ _,World.shaped_of_ZipB (by kernel_rfl) (by kernel_rfl),rfl,(Input.okWide_of_okWideB hok).2,
   OpenSpec.preRow_of_cond 8 (x:=([.nil,.lit (.string [])],[],[])) (by kernel_rfl) rfl (fun k hk=>by cases hk) (by kernel_rfl) (by rw[MakeChecks.laidMetH_plain _ _ _ (by kernel_rfl)];exact laidMet_laidAll _ (by kernel_rfl) (by kernel_rfl)),by
    simp only[Assume.holds]
    exact⟨by simp,by simp,fun _=>Modest.zero,by simp,by simp⟩⟩ ?_
 intro W base args ds gs bf hv hW _ _ _ _ _ _
 exact ct H enc W base args ds gs bf hv hW
theorem nm:Tryz.prog.funcNamed "loop.example/concierge/laws.FnExactLinesRun"=some 6:=by kernel_rfl
theorem jA:jfA Tryz.prog 6 Tryz.f6 (OpenSpec.ofChange Rows.fnExactLinesRunSpec).bare Rows.fnExactLinesRunRow=true:=by kernel_rfl
theorem jB:jfB Tryz.prog 6 Tryz.f6 (OpenSpec.ofChange Rows.fnExactLinesRunSpec).bare Rows.fnExactLinesRunRow=true:=by kernel_rfl
theorem mi:Tryz.prog.mainIs=some (true,"90b4ebd20bc5108c07d469a11527756e776b88e51ea502c6222d269f2ada4b91".toList):=by kernel_rfl
theorem gb:false=Rows.fnExactLinesRunRow.goesBy Tryz.prog:=by kernel_rfl
theorem proved:Rows.FnExactLinesRunSaid :=
 OpenClaim.holds_of_cond 6 Tryz.f6 rfl rfl rfl rfl rfl rfl rfl ⟨rfl,rfl,rfl,rfl,rfl⟩ rfl rfl rfl rfl rfl nm fc (kq jA jB)
  (of_decide_eq_true (by kernel_rfl)) (by unfold Func.isWrapper;first|(rw[if_pos (by decide +kernel)];kernel_rfl)|(rw[if_neg (by decide +kernel)];exact⟨rfl,rfl⟩))
  (fun os sd H enc _ F=>by rw[OpenClaim.pre_eq_preRow];exact lf os sd H enc F)
theorem card:Rows.FnExactLinesRunCardSaid :=
 Claim7.holds_tied_plain_at .later [] [.data,.data,.data,.data,.sentinel,.sentinel,.pinned] true (true,"90b4ebd20bc5108c07d469a11527756e776b88e51ea502c6222d269f2ada4b91") true
  proved (fun _ h=>by cases h) (by kernel_rfl) (fun _ h=>by cases h) fnExactLinesRun_row_tie rfl ⟨rfl,rfl⟩ mi rfl
  (fun f fn hf hfn=>by
   obtain rfl:f=6:=Option.some.inj (nm.symm.trans hf) |>.symm
   obtain rfl:fn=Tryz.f6:=(Option.some.inj (fc.symm.trans hfn)).symm
   exact⟨by kernel_rfl,fun j t ht=>by
    rw[pm]at ht
    have hm:t∈[23,9]:=by simpa using Array.mem_of_getElem? ht
    have hall:([23,9].all fun u=>!Tryz.prog.wantsStandIn u)=true:=by kernel_rfl
    exact(show Tryz.prog.wantsStandIn t=false by simpa using List.all_eq_true.1 hall t hm)⟩)
  gb
#print axioms card
end Go.Proofs.YtnbhinpnmgbbhaaGreatDoor.fnExactLinesRun
