/- PROVED: Rows.FnWorldDownSaid: whatever the input, laws.FnWorldDown returns true, and its arguments read as they did. No condition beyond the statement's own. -/
import Derived.Test.YtmjkolpalcpgfaaGreatZb
import Derived.Test.YtmjkolpalcpgfaaGreatHa
import Derived.Test.YtmjkolpalcpgfaaGreatJa
import Derived.Test.YtmjkolpalcpgfaaGreatRows
set_option linter.all false
namespace Dx
open Go Go.Proofs
def t_bn:Tree :=
 fK<|
 .iter [⟨(.int .i64),(.n 0)⟩,⟨.bool,(.v 5)⟩,⟨.list,(.v 6)⟩,⟨(.int .i64),(.v 7)⟩,⟨.list,(.v 8)⟩,⟨.list,(.v 9)⟩,⟨.list,(.v 10)⟩]<|
 .letp .leI [⟨(.int .i64),(.v 23)⟩,⟨(.int .i64),(.n 3)⟩]<|
 .ite (.v 30) (
 .call 4 [⟨.bool,(.v 24)⟩,⟨.list,(.v 25)⟩,⟨(.int .i64),(.v 26)⟩,⟨.list,(.v 27)⟩,⟨.list,(.v 28)⟩,⟨.list,(.v 29)⟩,⟨(.int .i64),(.n 8)⟩,⟨(.int .i64),(.v 23)⟩,⟨(.int .i64),(.n 0)⟩,⟨.list,.e⟩] [.bool,.list,(.int .i64),.list,.list,.list]<|
 .letp (.add .i64) [⟨(.int .i64),(.v 23)⟩,⟨(.int .i64),(.n 1)⟩]<|
 .jump [⟨(.int .i64),(.v 37)⟩,⟨.bool,(.v 31)⟩,⟨.list,(.v 32)⟩,⟨(.int .i64),(.v 33)⟩,⟨.list,(.v 34)⟩,⟨.list,(.v 35)⟩,⟨.list,(.v 36)⟩])<|
 .up<|
 .call 5 [⟨.bool,(.v 24)⟩,⟨.list,(.v 25)⟩,⟨(.int .i64),(.v 26)⟩,⟨.list,(.v 27)⟩,⟨.list,(.v 28)⟩,⟨.list,(.v 29)⟩,⟨(.int .i64),(.n 9)⟩] [.bool,.list,(.int .i64),.list,.list,.list]<|
 .call 6 [⟨.bool,(.v 5)⟩,⟨.list,(.v 6)⟩,⟨(.int .i64),(.v 7)⟩,⟨.list,(.v 8)⟩,⟨.bool,(.b true)⟩] [.list]<|
 .call 6 [⟨.bool,(.v 31)⟩,⟨.list,(.v 32)⟩,⟨(.int .i64),(.v 33)⟩,⟨.list,(.v 34)⟩,⟨.bool,(.b true)⟩] [.list]<|
 .iter [⟨(.int .i64),(.n 0)⟩]<|
 .letp .len [⟨.list,(.v 37)⟩]<|
 .letp .ltI [⟨(.int .i64),(.v 39)⟩,⟨(.int .i64),(.v 40)⟩]<|
 .ite (.v 41) (
 .row (.v 38) (.v 39) [.list,(.int .i64)]<|
 .row (.v 37) (.v 39) [.list,(.int .i64)]<|
 .letp .eqI [⟨(.int .i64),(.v 45)⟩,⟨(.int .i64),(.n 2)⟩]<|
 .ite (.v 46) (
 .letp .neI [⟨(.int .i64),(.v 43)⟩,⟨(.int .i64),(.n 4)⟩]<|
 .ite (.v 47) (
 .up<|
 .ret [⟨.bool,(.b false)⟩])<|
 .row (.v 37) (.v 39) [.list,(.int .i64)]<|
 .letp .eqI [⟨(.int .i64),(.v 49)⟩,⟨(.int .i64),(.n 3)⟩]<|
 .ite (.v 50) (
 .letp .neI [⟨(.int .i64),(.v 43)⟩,⟨(.int .i64),(.n 5)⟩]<|
 .ite (.v 51) (
 .up<|
 .ret [⟨.bool,(.b false)⟩])<|
 .letp .ltI [⟨(.int .i64),(.v 43)⟩,⟨(.int .i64),(.n 4)⟩]<|
 .ite (.v 52) (
 .up<|
 .ret [⟨.bool,(.b false)⟩])<|
 .letp (.add .i64) [⟨(.int .i64),(.v 39)⟩,⟨(.int .i64),(.n 1)⟩]<|
 .jump [⟨(.int .i64),(.v 53)⟩])<|
 .letp .ltI [⟨(.int .i64),(.v 43)⟩,⟨(.int .i64),(.n 4)⟩]<|
 .ite (.v 51) (
 .up<|
 .ret [⟨.bool,(.b false)⟩])<|
 .letp (.add .i64) [⟨(.int .i64),(.v 39)⟩,⟨(.int .i64),(.n 1)⟩]<|
 .jump [⟨(.int .i64),(.v 52)⟩])<|
 .row (.v 37) (.v 39) [.list,(.int .i64)]<|
 .letp .eqI [⟨(.int .i64),(.v 48)⟩,⟨(.int .i64),(.n 3)⟩]<|
 .ite (.v 49) (
 .letp .neI [⟨(.int .i64),(.v 43)⟩,⟨(.int .i64),(.n 5)⟩]<|
 .ite (.v 50) (
 .up<|
 .ret [⟨.bool,(.b false)⟩])<|
 .letp .ltI [⟨(.int .i64),(.v 43)⟩,⟨(.int .i64),(.n 4)⟩]<|
 .ite (.v 51) (
 .up<|
 .ret [⟨.bool,(.b false)⟩])<|
 .letp (.add .i64) [⟨(.int .i64),(.v 39)⟩,⟨(.int .i64),(.n 1)⟩]<|
 .jump [⟨(.int .i64),(.v 52)⟩])<|
 .letp .ltI [⟨(.int .i64),(.v 43)⟩,⟨(.int .i64),(.n 4)⟩]<|
 .ite (.v 50) (
 .up<|
 .ret [⟨.bool,(.b false)⟩])<|
 .letp (.add .i64) [⟨(.int .i64),(.v 39)⟩,⟨(.int .i64),(.n 1)⟩]<|
 .jump [⟨(.int .i64),(.v 51)⟩])<|
 .up<|
 .call 7 [⟨.bool,(.v 24)⟩,⟨.list,(.v 25)⟩,⟨(.int .i64),(.v 26)⟩,⟨.list,(.v 27)⟩,⟨.list,(.v 28)⟩,⟨.list,(.v 29)⟩] [.bool]<|
 .ite (.v 42) (
 .call 7 [⟨.bool,(.v 31)⟩,⟨.list,(.v 32)⟩,⟨(.int .i64),(.v 33)⟩,⟨.list,(.v 34)⟩,⟨.list,(.v 35)⟩,⟨.list,(.v 36)⟩] [.bool]<|
 .ite (.v 43) (
 .letp .len [⟨.list,(.v 37)⟩]<|
 .letp .len [⟨.list,(.v 38)⟩]<|
 .letp .eqI [⟨(.int .i64),(.v 44)⟩,⟨(.int .i64),(.v 45)⟩]<|
 .ret [⟨.bool,(.v 46)⟩])<|
 .ret [⟨.bool,(.b false)⟩])<|
 .ret [⟨.bool,(.b false)⟩]
noncomputable def Φ_bn:Phi:=fun n=>match n with
 | 0=>gZ
 | 1=>g0
 | 2=>hD
 | 3=>cY
 | 4=>dI
 | 5=>db
 | 6=>dH
 | 7=>mR
 | _=>fun _=>none
noncomputable def φ_bn(cs:List C):Option (List C):=ah (den Φ_bn t_bn cs)
end Dx
namespace Dx
open Go
section
variable {code more:List Int}
theorem law_WorldDown(hl:code.length ≤ 1099511627776)(hc:fQ code):φ_bn [.list (code.map eB)]=some [.bool true]:=by
 unfold φ_bn t_bn
 refine ev rfl rfl rfl rfl hl hc fun rooms es w hw hr hel hes=>?_
 obtain⟨ow,I⟩:=gG hw
 have e4:Φ_bn 4=dI:=rfl
 have e5:Φ_bn 5=db:=rfl
 have e6:Φ_bn 6=dH:=rfl
 have e7:Φ_bn 7=mR:=rfl
 rw[cD]
 simp only[ax,Cell.den,At.den,C.toInt_int,cA,aa,C.toBool_bool,C.toList_list]
 refine Eq.trans (congrArg ah (qm (l:=([0,1,2,3]:List Int)) (enc:=fun i (x:Wd)=>.int .i64 i::x.e) (P:=fun i x=>x=nY w i) (s0:=w) (o:=.ret [.bool true]) rfl ?_ ?_)) rfl
 ·intro i a x ha hx
  have hi:=(List.getElem?_eq_some_iff.1 ha).1
  simp at hi
  have hi':(i:Int) ≤ 3:=by omega
  have ox:=(ja ow I i).1
  rw[← hx]at ox
  have d1:=bX ox (e:=⟨8,(i:Int),0,[]⟩) (by simp)
  simp only[List.map_nil,Wd.e]at d1
  refine⟨wdo x ⟨8,i,0,[]⟩,?_,by rw[hx];rfl⟩
  simp (disch:=first|assumption|omega|(simp only[List.length_append,List.length_map,List.length_cons,List.length_nil];omega)) only[cA,bp,aO,aS,aC,aN,aD,aq,aE,aK,ap,ax,Cell.den,At.den,Prim.den,List.cons_append,List.nil_append,bU,aR,CK.of,cp,cr,Bool.decide_eq_true,Wd.e,hi',if_true,e4,d1,al,Int.reduceEq,reduceIte,zU,zT,aa,Bool.and_true,List.length_map,List.length_nil,List.length_cons,List.nil_append]
  try rfl
 ·intro x hx
  obtain⟨ox,Ix⟩:=ja ow I 4
  have hA:=FO w
  have hx:x=nY w 4:=hx
  rw[← hx]at ox Ix hA
  have h4:¬ (((4:Nat):Int) ≤ 3):=by omega
  have c1:_=some (bu x 9).e:=bA ox (r:=9) (by omega)
  obtain⟨hlen,hout⟩:=pv ox Ix
  have f:=fU ox Ix
  generalize bu x 9=y at *
  have oy:=f.ok
  have key:=fun {i:Nat} {x:Trip}=>sm (b:=ai w.dk.lg true) (a:=ai y.dk.lg true) (i:=i) (x:=x) (by rw[hA]at hlen;exact hlen) (fun t h1 h2=>by rw[hA]at hout;exact⟨(hout t h1 h2).1,(hout t h1 h2).2.1,(hout t h1 h2).2.2.1⟩)
  have tr6:(ai w.dk.lg true).length ≤ 6:=(ow.dk.trOk true).len
  have hlen':(((ai w.dk.lg true).length:Nat):Int)=((ai y.dk.lg true).length:Nat):=by
   have:(ai y.dk.lg true).length=(ai w.dk.lg true).length:=by rw[hA]at hlen;exact hlen
   rw[this]
  have hdS:DkS ⟨w.dk.up,⟨w.dk.lg.rs,w.dk.lg.f⟩,w.dk.td⟩:=ow.dk.S
  have hdo:bH ⟨w.dk.up,⟨w.dk.lg.rs,w.dk.lg.f⟩,w.dk.td⟩=true:=deskOk_iff.2 ow.dk
  have hdS':DkS ⟨y.dk.up,⟨y.dk.lg.rs,y.dk.lg.f⟩,y.dk.td⟩:=oy.dk.S
  have hdo':bH ⟨y.dk.up,⟨y.dk.lg.rs,y.dk.lg.f⟩,y.dk.td⟩=true:=deskOk_iff.2 oy.dk
  simp only[Wd.e]at c1
  simp (disch:=first|assumption|omega|(simp only[List.length_append,List.length_map,List.length_cons,List.length_nil];omega)) only[cA,bp,aO,aS,aC,aN,aD,aq,aE,aK,ap,ax,Cell.den,At.den,Prim.den,List.cons_append,List.nil_append,bU,aR,CK.of,cp,cr,Bool.decide_eq_true,Wd.e,List.length_cons,List.length_nil,Nat.zero_add,Nat.reduceAdd,h4,if_false,e5,c1,e6,bi hdS,hdo,bi hdS',hdo',if_true,Int.reduceEq,reduceIte,zU,zT,aa,Bool.and_true,List.length_map,List.length_nil,List.length_cons,List.nil_append]
  rw[cD]
  simp only[ax,Cell.den,At.den,C.toInt_int]
  rw[fR (l:=ai w.dk.lg true) (o:=.ret [.bool true])]
  ·rfl
  ·intro i b hb
   have hi:=(List.getElem?_eq_some_iff.1 hb).1
   have hi':(i:Int)<((ai w.dk.lg true).length:Nat):=by omega
   obtain⟨a,ha,k2,k3,k4⟩:=key hb
   by_cases h2:b.s=2
   ·have k:=k2 h2
    simp (disch:=first|assumption|omega|(simp only[List.length_append,List.length_map,List.length_cons,List.length_nil];omega)) only[cA,bp,aO,aS,aC,aN,aD,aq,aE,aK,ap,ax,Cell.den,At.den,Prim.den,List.cons_append,List.nil_append,bU,aR,CK.of,cp,cr,Bool.decide_eq_true,hi',if_true,dS hb,dS ha,Trip.e,h2,k,al,Int.reduceEq,reduceIte,zU,zT,aa,Bool.and_true,List.length_map,List.length_nil,List.length_cons,List.nil_append]
    try rfl
   ·by_cases h3:b.s=3
    ·have k:=k3 h3
     simp (disch:=first|assumption|omega|(simp only[List.length_append,List.length_map,List.length_cons,List.length_nil];omega)) only[cA,bp,aO,aS,aC,aN,aD,aq,aE,aK,ap,ax,Cell.den,At.den,Prim.den,List.cons_append,List.nil_append,bU,aR,CK.of,cp,cr,Bool.decide_eq_true,hi',if_true,dS hb,dS ha,Trip.e,h3,k,if_false,al,Int.reduceEq,reduceIte,zU,zT,aa,Bool.and_true,List.length_map,List.length_nil,List.length_cons,List.nil_append]
     try rfl
    ·simp (disch:=first|assumption|omega|(simp only[List.length_append,List.length_map,List.length_cons,List.length_nil];omega)) only[cA,bp,aO,aS,aC,aN,aD,aq,aE,aK,ap,ax,Cell.den,At.den,Prim.den,List.cons_append,List.nil_append,bU,aR,CK.of,cp,cr,Bool.decide_eq_true,hi',if_true,dS hb,dS ha,Trip.e,h2,h3,k4,if_false,al,Int.reduceEq,reduceIte,zU,zT,aa,Bool.and_true,List.length_map,List.length_nil,List.length_cons,List.nil_append]
     try rfl
  ·have h:¬ (((ai w.dk.lg true).length:Int)<((ai w.dk.lg true).length:Nat)):=by omega
   simp (disch:=first|assumption|omega|(simp only[List.length_append,List.length_map,List.length_cons,List.length_nil];omega)) only[cA,bp,aO,aS,aC,aN,aD,aq,aE,aK,ap,ax,Cell.den,At.den,Prim.den,List.cons_append,List.nil_append,bU,aR,CK.of,cp,cr,Bool.decide_eq_true,h,if_false,e7,Cn ox Ix,Cn oy f.I,if_true,Int.reduceEq,reduceIte,zU,zT,aa,Bool.and_true,List.length_map,List.length_nil,List.length_cons,List.nil_append]
   simp (disch:=first|assumption|omega|(simp only[List.length_append,List.length_map,List.length_cons,List.length_nil];omega)) only[cA,bp,aO,aS,aC,aN,aD,aq,aE,aK,ap,ax,Cell.den,At.den,Prim.den,List.cons_append,List.nil_append,bU,aR,CK.of,cp,cr,Bool.decide_eq_true,hlen',decide_true,Int.reduceEq,reduceIte,zU,zT,aa,Bool.and_true,List.length_map,List.length_nil,List.length_cons,List.nil_append]
   try rfl
end
end Dx
namespace Dx
open Go Go.Proofs
def c_bn:Con:=⟨[.own false [.val] [.list] false],[⟨false,[.val],[.bool],false⟩]⟩
def h_bn:How:=⟨aw [(2,⟨[kI],[(2,(.bool (.b false))),(14,(sI 0))],[],[],0⟩),(0,⟨[kI,.bool,.list,kI,.list,.list,.list],[(10,(sI 0))],[(2,.cells [(.bool (.v 1)),(.view true (.v 2)),(sI 3),(.view true (.v 4)),(.view true (.v 5)),(.view true (.v 6))])],[],0⟩)],
 aw [],
 aw []⟩
theorem has_bn:Has Tryz.prog 11 c_bn φ_bn:=fp (R:=[]) (tr:=false) (E:=[(21,0,wc),(22,1,wd),(23,2,we),(17,3,qy),(28,4,yP),(16,5,tD),(24,6,wg),(30,7,Jo)]) (Φ:=Φ_bn) (t:=t_bn) ⟨iI,iJ,iK,fF,jF,gH,iL,Al,trivial⟩ Tryz.f11 h_bn (by kernel_rfl)
end Dx
namespace Go.Proofs.YtmjkolpalcpgfaaGreat.fnWorldDown
open Go.ChangeShapes Go.WideShapes Go.ChangeAt Go.RowKit Dx
set_option linter.unusedVariables false
set_option maxRecDepth 100000
theorem own:ownKnob Tryz.prog.godebug=none:=by kernel_rfl
theorem params:Tryz.f11.params=#[22]:=by kernel_rfl
theorem results:Tryz.f11.resultTypes=#[4]:=by kernel_rfl
theorem t22:Tryz.prog.underlying 22=some (.slice 5):=by kernel_rfl
theorem t5:Tryz.prog.underlying 5=some (.int .u8):=by kernel_rfl
theorem t4:Tryz.prog.underlying 4=some .bool:=by kernel_rfl
theorem c5:Tryz.prog.cellsOf 5=1:=by kernel_rfl
theorem func:Tryz.prog.funcs[11]?=some Tryz.f11:=by kernel_rfl
theorem contract(H:Type)(enc:TypeId×Value → H)(W:World)(base:Nat)(args:Array Value)(ds gs:List (DataW H))(before:List MemPlace)
  (hval:∀(j:Nat) t v,Tryz.f11.params[j]?=some t → args[j]?=some v → Value.okWide Tryz.prog W .any base t v)
  (hW:DataW.Whole enc Tryz.prog Tryz.f11.params.toList Rows.fnWorldDownSpec.vars false W args.toList ds gs before) :
  Calls Tryz.prog 11 args W fun e W'=>∃ v,e=.returned v ∧ Rows.fnWorldDownSpec.post enc Tryz.prog Tryz.f11 false true false false W args v W':=by
 have hW':=hW
 obtain⟨p,q,hA0,hV,rfl,hfz,hnd⟩:=hW
 have hA:DataW.TrodAll enc Tryz.prog W 0 (fun _=>true) true Tryz.f11.params.toList args.toList ds p:=hA0
 rw[params]at hA hval
 obtain⟨v0,vs0,d0,ds0,p0,q0,hargs,rfl,rfl,h0,r0⟩:=trodAll_cons hA
 obtain⟨rfl,rfl,rfl⟩:=trodAll_nil r0
 obtain rfl:args=#[v0]:=by cases args;simp_all
 obtain⟨rfl,rfl⟩:=trodVars_none hV
 obtain⟨code,hb,hrep,hd,hshut⟩:=bx t22 t5 c5 (hval 0 22 v0 rfl rfl) h0
 have hlaw:φ_bn [.list (code.map cB)]=some [.bool true]:=by
  by_cases h:code.length ≤ 1048576
  ·exact law_WorldDown (by omega) hb
  ·unfold φ_bn t_bn
   exact vf (by rw[List.length_map];omega)
 refine(cz (vs:=[v0]) has_bn (by simp[dZ]) ⟨[.list (code.map cB)],[],v0,[],[],[],rfl,rfl,rfl,ct hrep,rfl,rfl,rfl⟩ hlaw).mono ?_
 rintro e W' ⟨rfl,h1,h2,h3⟩
 refine⟨_,rfl,[d0],[],p0,[],p0,[],by simpa using hW',trodAll_cons_mk (shut_bool t4 _) trodAll_mk0,?_,rfl,dQ h1 h2 h3 _,fun h=>by cases h⟩
 rw[params]
 have:=trodAll_cons_mk (hshut W' h3) (trodAll_mk0 (enc:=enc) (P:=Tryz.prog) (w:=W') (base:=0) (spare:=fun b=>decide (b<W.heap.size)) (held:=true))
 rw[List.append_nil]at this
 exact this
set_option maxRecDepth 100000 in
theorem lifted(os:Os)(started:os.Started)(H:Type)(enc:TypeId×Value → H) :
  ReturnsInHanded {} Tryz.checked os 11 .any (Rows.fnWorldDownSpec.pre6 enc Tryz.prog Tryz.f11 Rows.fnWorldDownRow.domain false) (Rows.fnWorldDownSpec.post enc Tryz.prog Tryz.f11 false true false false):=by
 refine returnsInHanded_of_change (C:=Tryz.checked) own started (by kernel_rfl) func
  (ChangeSpec.witness6 (enc:=enc) (C:=Tryz.checked) false ⟨#[],#[.slice none 0 0],[]⟩ 8 (by kernel_rfl) (by kernel_rfl) (by kernel_rfl) (by kernel_rfl)) ?_
 intro W base args ds gs before hval hW _ _
 exact contract H enc W base args ds gs before hval hW
theorem proved:Rows.FnWorldDownSaid :=
 OpenClaim.holds_of_wide 11 Tryz.f11 rfl rfl rfl rfl rfl rfl rfl ⟨rfl,rfl,rfl,rfl,rfl⟩ rfl rfl rfl rfl rfl (by kernel_rfl) func (by kernel_rfl)
  (of_decide_eq_true (by kernel_rfl)) (by unfold Func.isWrapper;first|(rw[if_pos (by decide +kernel)];kernel_rfl)|(rw[if_neg (by decide +kernel)];exact⟨rfl,rfl⟩))
  (fun os started H enc _=>lifted os started H enc)
#print axioms proved
end Go.Proofs.YtmjkolpalcpgfaaGreat.fnWorldDown
