/- PROVED: Rows.FnWorldGiveSaid: whatever the input, laws.FnWorldGive returns true, and its arguments read as they did. No condition beyond the statement's own. -/
import Derived.Test.YtmjkolpalcpgfaaGreatZb
import Derived.Test.YtmjkolpalcpgfaaGreatHa
import Derived.Test.YtmjkolpalcpgfaaGreatJa
import Derived.Test.YtmjkolpalcpgfaaGreatRows
set_option linter.all false
namespace Dx
open Go Go.Proofs
def t_bh:Tree :=
 dN<|
 .call 4 [⟨.bool,(.v 8)⟩,⟨.list,(.v 9)⟩,⟨(.int .i64),(.v 10)⟩,⟨.list,(.v 11)⟩,⟨.bool,(.b false)⟩] [.list]<|
 .letp .len [⟨.list,(.v 26)⟩]<|
 .letp .eqI [⟨(.int .i64),(.v 27)⟩,⟨(.int .i64),(.n 0)⟩]<|
 .ite (.v 28) (
 .ret [⟨.bool,(.b true)⟩])<|
 .letp .not [⟨.bool,(.v 8)⟩]<|
 .ite (.v 29) (
 .ret [⟨.bool,(.b true)⟩])<|
 .letp .len [⟨.list,(.v 1)⟩]<|
 .letp .len [⟨.list,(.v 26)⟩]<|
 .chk .nz [⟨(.int .i64),(.v 31)⟩]<|
 .letp (.rem .i64) [⟨(.int .i64),(.v 30)⟩,⟨(.int .i64),(.v 31)⟩]<|
 .letp (.add .i64) [⟨(.int .i64),(.n 1)⟩,⟨(.int .i64),(.v 32)⟩]<|
 .call 5 [⟨.bool,(.v 8)⟩,⟨.list,(.v 9)⟩,⟨(.int .i64),(.v 10)⟩,⟨.list,(.v 11)⟩,⟨.list,(.v 12)⟩,⟨.list,(.v 13)⟩,⟨(.int .i64),(.n 2)⟩,⟨(.int .i64),(.v 33)⟩,⟨(.int .i64),(.n 0)⟩,⟨.list,.e⟩] [.bool,.list,(.int .i64),.list,.list,.list]<|
 .letp (.sub .i64) [⟨(.int .i64),(.v 33)⟩,⟨(.int .i64),(.n 1)⟩]<|
 .row (.v 26) (.v 40) [.list,(.int .i64)]<|
 .letp .neI [⟨(.int .i64),(.v 42)⟩,⟨(.int .i64),(.n 1)⟩]<|
 .ite (.v 43) (
 .call 3 [⟨.bool,(.v 34)⟩,⟨.list,(.v 35)⟩,⟨(.int .i64),(.v 36)⟩,⟨.list,(.v 37)⟩,⟨.list,(.v 38)⟩,⟨.list,(.v 39)⟩,⟨.bool,(.v 8)⟩,⟨.list,(.v 9)⟩,⟨(.int .i64),(.v 10)⟩,⟨.list,(.v 11)⟩,⟨.list,(.v 12)⟩,⟨.list,(.v 13)⟩] [.bool]<|
 .ret [⟨.bool,(.v 44)⟩])<|
 .call 6 [⟨.bool,(.v 34)⟩,⟨.list,(.v 35)⟩,⟨(.int .i64),(.v 36)⟩,⟨.list,(.v 37)⟩,⟨.list,(.v 38)⟩,⟨.list,(.v 39)⟩,⟨(.int .i64),(.n 9)⟩] [.bool,.list,(.int .i64),.list,.list,.list]<|
 .call 7 [⟨.bool,(.v 44)⟩,⟨.list,(.v 45)⟩,⟨(.int .i64),(.v 46)⟩,⟨.list,(.v 47)⟩,⟨.list,(.v 48)⟩,⟨.list,(.v 49)⟩,⟨(.int .i64),(.v 33)⟩] [.list]<|
 .iter [⟨(.int .i64),(.n 0)⟩]<|
 .letp .len [⟨.list,(.v 50)⟩]<|
 .letp .ltI [⟨(.int .i64),(.v 51)⟩,⟨(.int .i64),(.v 52)⟩]<|
 .ite (.v 53) (
 .letp (.sub .i64) [⟨(.int .i64),(.v 33)⟩,⟨(.int .i64),(.n 1)⟩]<|
 .row (.v 26) (.v 54) [.list,(.int .i64)]<|
 .row (.v 55) (.v 51) [(.int .i64)]<|
 .letp .gtI [⟨(.int .i64),(.v 57)⟩,⟨(.int .i64),(.n 0)⟩]<|
 .ite (.v 58) (
 .row (.v 50) (.v 51) [(.int .i64),(.int .i64)]<|
 .letp .neI [⟨(.int .i64),(.v 60)⟩,⟨(.int .i64),(.n 3)⟩]<|
 .ite (.v 61) (
 .up<|
 .ret [⟨.bool,(.b false)⟩])<|
 .letp (.add .i64) [⟨(.int .i64),(.v 51)⟩,⟨(.int .i64),(.n 1)⟩]<|
 .jump [⟨(.int .i64),(.v 62)⟩])<|
 .letp (.add .i64) [⟨(.int .i64),(.v 51)⟩,⟨(.int .i64),(.n 1)⟩]<|
 .jump [⟨(.int .i64),(.v 59)⟩])<|
 .up<|
 .call 4 [⟨.bool,(.v 44)⟩,⟨.list,(.v 45)⟩,⟨(.int .i64),(.v 46)⟩,⟨.list,(.v 47)⟩,⟨.bool,(.b true)⟩] [.list]<|
 .letp (.sub .i64) [⟨(.int .i64),(.v 33)⟩,⟨(.int .i64),(.n 1)⟩]<|
 .row (.v 54) (.v 55) [.list,(.int .i64)]<|
 .letp .eqI [⟨(.int .i64),(.v 57)⟩,⟨(.int .i64),(.n 5)⟩]<|
 .ret [⟨.bool,(.v 58)⟩]
noncomputable def Φ_bh:Phi:=fun n=>match n with
 | 0=>gZ
 | 1=>g0
 | 2=>hD
 | 3=>cY
 | 4=>dH
 | 5=>dI
 | 6=>db
 | 7=>mQ
 | _=>fun _=>none
noncomputable def φ_bh(cs:List C):Option (List C):=ah (den Φ_bh t_bh cs)
end Dx
namespace Dx
open Go
section
variable {code more:List Int}
theorem law_WorldGive(hl:code.length ≤ 1099511627776)(hc:fQ code):φ_bh [.list (code.map eB),.list (more.map eB)]=some [.bool true]:=by
 unfold φ_bh t_bh
 refine da rfl rfl rfl rfl hl hc fun rooms es w hm hw hr hel hes=>?_
 obtain⟨ow,I⟩:=gG hw
 have e3:Φ_bh 3=cY:=rfl
 have e4:Φ_bh 4=dH:=rfl
 have e5:Φ_bh 5=dI:=rfl
 have e6:Φ_bh 6=db:=rfl
 have e7:Φ_bh 7=mQ:=rfl
 have hdS:DkS ⟨w.dk.up,⟨w.dk.lg.rs,w.dk.lg.f⟩,w.dk.td⟩:=ow.dk.S
 have hdo:bH ⟨w.dk.up,⟨w.dk.lg.rs,w.dk.lg.f⟩,w.dk.td⟩=true:=deskOk_iff.2 ow.dk
 have tr:TrOk (ai w.dk.lg false):=ow.dk.trOk false
 have tr6:=tr.len
 by_cases h0:(ai w.dk.lg false).length=0
 ·simp (disch:=first|assumption|omega|(simp only[List.length_append,List.length_map,List.length_cons,List.length_nil];omega)) only[cA,bp,aO,aS,aC,aN,aD,aq,aE,aK,ap,ax,Cell.den,At.den,Prim.den,List.cons_append,List.nil_append,bU,aR,CK.of,cp,cr,Bool.decide_eq_true,e4,bi hdS,hdo,h0,Int.natCast_zero,if_true,decide_true,Int.reduceEq,reduceIte,zU,zT,aa,Bool.and_true,List.length_map,List.length_nil,List.length_cons,List.nil_append]
  try rfl
 have h0':¬ (((ai w.dk.lg false).length:Int)=0):=by omega
 by_cases hu:w.dk.up=true
 ·have hu':(!w.dk.up)=false:=by rw[hu];rfl
  have hlt:=Nat.mod_lt more.length (show 0<(ai w.dk.lg false).length by omega)
  have hmod:Int.tmod ((more.length:Nat):Int) ((ai w.dk.lg false).length:Nat)=((more.length % (ai w.dk.lg false).length:Nat):Int):=rfl
  generalize hk:more.length % (ai w.dk.lg false).length=k at hlt hmod
  have hw1:IntKind.wrap .i64 (1+(k:Int))=((k+1:Nat):Int):=by rw[wrap64 (by omega) (by omega)];omega
  have hw2:IntKind.wrap .i64 (((k+1:Nat):Int)-1)=((k+1:Nat):Int)-1:=wrap64 (by omega) (by omega)
  have ht:isT ((k+1:Nat):Int):=⟨by omega,by omega⟩
  have ht1:(1:Int) ≤ ((k+1:Nat):Int):=by omega
  have htl:((k+1:Nat):Int) ≤ ((ai w.dk.lg false).length:Nat):=by omega
  have d1:=bX ow (e:=⟨2,((k+1:Nat):Int),0,[]⟩) (by simp)
  simp only[List.map_nil]at d1
  by_cases hs:(tAt (ai w.dk.lg false) ((k+1:Nat):Int)).s=1
  ·have hsA:(tAt (vw w).A ((k+1:Nat):Int)).s=1:=hs
   obtain⟨g1,g2,g3⟩:=CY ow I ht hu hsA
   have ox:=ow.do_ ⟨2,((k+1:Nat):Int),0,[]⟩
   have Ix:=tj ow I ⟨2,((k+1:Nat):Int),0,[]⟩
   generalize wdo w ⟨2,((k+1:Nat):Int),0,[]⟩=x at *
   have c1:_=some (bu x 9).e:=bA ox (r:=9) (by omega)
   obtain⟨hlen,hout⟩:=pv ox Ix
   have f:=fU ox Ix
   generalize bu x 9=y at *
   have oy:=f.ok
   have hAl:(vw w).A.length=(ai w.dk.lg false).length:=rfl
   have hFl:(vw y).F.length=(ai y.dk.lg true).length:=rfl
   have ho:=hout ((k+1:Nat):Int) ht1 (by rw[g3];exact htl)
   have hsy:(tAt (ai y.dk.lg true) ((k+1:Nat):Int)).s=5:=ho.2.1 g1
   have hmy:(tAt (vw y).F ((k+1:Nat):Int)).m=(tAt (ai w.dk.lg false) ((k+1:Nat):Int)).m:=ho.2.2.2.trans g2
   have hho:=gU oy (t:=((k+1:Nat):Int)) ht
   have hdS':DkS ⟨y.dk.up,⟨y.dk.lg.rs,y.dk.lg.f⟩,y.dk.td⟩:=oy.dk.S
   have hdo':bH ⟨y.dk.up,⟨y.dk.lg.rs,y.dk.lg.f⟩,y.dk.td⟩=true:=deskOk_iff.2 oy.dk
   have hto:=tripOk_iff.1 (tr.ok _ (eT (l:=ai w.dk.lg false) (t:=((k+1:Nat):Int)) (by omega)))
   have hm3:=bt hto.1
   have htly:((k+1:Nat):Int) ≤ ((ai y.dk.lg true).length:Nat):=by omega
   simp only[Wd.e]at c1 d1
   simp (disch:=first|assumption|omega|(simp only[List.length_append,List.length_map,List.length_cons,List.length_nil];omega)) only[cA,bp,aO,aS,aC,aN,aD,aq,aE,aK,ap,ax,Cell.den,At.den,Prim.den,List.cons_append,List.nil_append,bU,aR,CK.of,cp,cr,Bool.decide_eq_true,e4,bi hdS,hdo,h0',hu',hmod,hk,hw1,e5,d1,hw2,og ht1 htl,Trip.e,hs,if_true,if_false,e6,c1,e7,hho,decide_true,decide_false,Bool.not_false,Int.reduceEq,reduceIte,zU,zT,aa,Bool.and_true,List.length_map,List.length_nil,List.length_cons,List.nil_append]
   rw[cD]
   simp only[ax,Cell.den,At.den,C.toInt_int]
   have hh3:(bK y ((k+1:Nat):Int)).length=3:=by unfold bK;rw[List.length_map,oy.len]
   rw[fR (l:=bK y ((k+1:Nat):Int)) (o:=.ret [.bool true])]
   ·rfl
   ·intro h z hz
    have hh:=(List.getElem?_eq_some_iff.1 hz).1
    have hh':(h:Int)<((bK y ((k+1:Nat):Int)).length:Nat):=by omega
    have hlt:h<3:=by omega
    have hzA:z=(vw y).hA ((h+1:Nat):Int) ((k+1:Nat):Int):=by
     have:=pE oy hlt ((k+1:Nat):Int)
     rw[hz]at this
     simpa using this
    have hH:isH ((h+1:Nat):Int):=⟨by omega,by omega⟩
    have hhd:=f.hold hH ht
    rw[← hzA]at hhd
    have hwant:(vw y).want ((k+1:Nat):Int) ((h+1:Nat):Int)=mAt (tAt (ai w.dk.lg false) ((k+1:Nat):Int)).m ((h+1:Nat):Int):=by unfold V.want;rw[hmy]
    have hsF:(vw y).sF ((k+1:Nat):Int)=5:=hsy
    rw[hwant,hsF]at hhd
    by_cases hp:mAt (tAt (ai w.dk.lg false) ((k+1:Nat):Int)).m ((h+1:Nat):Int)>0
    ·have hz3:z.s=3:=by omega
     simp (disch:=first|assumption|omega|(simp only[List.length_append,List.length_map,List.length_cons,List.length_nil];omega)) only[cA,bp,aO,aS,aC,aN,aD,aq,aE,aK,ap,ax,Cell.den,At.den,Prim.den,List.cons_append,List.nil_append,bU,aR,CK.of,cp,cr,Bool.decide_eq_true,rD hz,Hold.e,hh',hw2,og ht1 htl,Trip.e,IZ hm3 hlt,eI,hp,hz3,if_true,al,Int.reduceEq,reduceIte,zU,zT,aa,Bool.and_true,List.length_map,List.length_nil,List.length_cons,List.nil_append]
     try rfl
    ·simp (disch:=first|assumption|omega|(simp only[List.length_append,List.length_map,List.length_cons,List.length_nil];omega)) only[cA,bp,aO,aS,aC,aN,aD,aq,aE,aK,ap,ax,Cell.den,At.den,Prim.den,List.cons_append,List.nil_append,bU,aR,CK.of,cp,cr,Bool.decide_eq_true,rD hz,Hold.e,hh',hw2,og ht1 htl,Trip.e,IZ hm3 hlt,eI,hp,if_true,if_false,al,Int.reduceEq,reduceIte,zU,zT,aa,Bool.and_true,List.length_map,List.length_nil,List.length_cons,List.nil_append]
     try rfl
   ·have h:¬ (((bK y ((k+1:Nat):Int)).length:Int)<((bK y ((k+1:Nat):Int)).length:Nat)):=by omega
    simp (disch:=first|assumption|omega|(simp only[List.length_append,List.length_map,List.length_cons,List.length_nil];omega)) only[cA,bp,aO,aS,aC,aN,aD,aq,aE,aK,ap,ax,Cell.den,At.den,Prim.den,List.cons_append,List.nil_append,bU,aR,CK.of,cp,cr,Bool.decide_eq_true,h,if_false,e4,bi hdS',hdo',hw2,og ht1 htly,Trip.e,hsy,if_true,decide_true,Int.reduceEq,reduceIte,zU,zT,aa,Bool.and_true,List.length_map,List.length_nil,List.length_cons,List.nil_append]
    try rfl
  ·have hx:=CX ow ht (t:=((k+1:Nat):Int)) hs
   rw[hx]at d1
   have hn:=ow.n (w':=w)
   simp only[Wd.e]at d1
   simp (disch:=first|assumption|omega|(simp only[List.length_append,List.length_map,List.length_cons,List.length_nil];omega)) only[cA,bp,aO,aS,aC,aN,aD,aq,aE,aK,ap,ax,Cell.den,At.den,Prim.den,List.cons_append,List.nil_append,bU,aR,CK.of,cp,cr,Bool.decide_eq_true,e4,bi hdS,hdo,h0',hu',hmod,hk,hw1,e5,d1,hw2,og ht1 htl,Trip.e,hs,e3,hn,if_true,if_false,decide_true,decide_false,Bool.not_false,Int.reduceEq,reduceIte,zU,zT,aa,Bool.and_true,List.length_map,List.length_nil,List.length_cons,List.nil_append]
   try rfl
 ·have hu':w.dk.up=false:=by simpa using hu
  rw[hu']at hdS hdo
  simp (disch:=first|assumption|omega|(simp only[List.length_append,List.length_map,List.length_cons,List.length_nil];omega)) only[cA,bp,aO,aS,aC,aN,aD,aq,aE,aK,ap,ax,Cell.den,At.den,Prim.den,List.cons_append,List.nil_append,bU,aR,CK.of,cp,cr,Bool.decide_eq_true,e4,bi hdS,hdo,h0',hu',if_true,if_false,Bool.not_false,Int.reduceEq,reduceIte,zU,zT,aa,Bool.and_true,List.length_map,List.length_nil,List.length_cons,List.nil_append]
  try rfl
end
end Dx
namespace Dx
open Go Go.Proofs
def c_bh:Con:=⟨[.own false [.val] [.list] false,.own false [.val] [.list] false],[⟨false,[.val],[.bool],false⟩]⟩
def h_bh:How:=⟨aw [(0,⟨[kI],[(4,(.bool (.b false))),(16,(sI 0))],[],[],0⟩)],
 aw [],
 aw []⟩
theorem has_bh:Has Tryz.prog 7 c_bh φ_bh:=fp (R:=[]) (tr:=false) (E:=[(21,0,wc),(22,1,wd),(23,2,we),(17,3,qy),(24,4,wg),(28,5,yP),(16,6,tD),(29,7,Jn)]) (Φ:=Φ_bh) (t:=t_bh) ⟨iI,iJ,iK,fF,iL,jF,gH,Ak,trivial⟩ Tryz.f7 h_bh (by kernel_rfl)
end Dx
namespace Go.Proofs.YtmjkolpalcpgfaaGreat.fnWorldGive
open Go.ChangeShapes Go.WideShapes Go.ChangeAt Go.RowKit Dx
set_option linter.unusedVariables false
set_option maxRecDepth 100000
theorem own:ownKnob Tryz.prog.godebug=none:=by kernel_rfl
theorem params:Tryz.f7.params=#[22,22]:=by kernel_rfl
theorem results:Tryz.f7.resultTypes=#[4]:=by kernel_rfl
theorem t22:Tryz.prog.underlying 22=some (.slice 5):=by kernel_rfl
theorem t5:Tryz.prog.underlying 5=some (.int .u8):=by kernel_rfl
theorem t4:Tryz.prog.underlying 4=some .bool:=by kernel_rfl
theorem c5:Tryz.prog.cellsOf 5=1:=by kernel_rfl
theorem func:Tryz.prog.funcs[7]?=some Tryz.f7:=by kernel_rfl
theorem contract(H:Type)(enc:TypeId×Value → H)(W:World)(base:Nat)(args:Array Value)(ds gs:List (DataW H))(before:List MemPlace)
  (hval:∀(j:Nat) t v,Tryz.f7.params[j]?=some t → args[j]?=some v → Value.okWide Tryz.prog W .any base t v)
  (hW:DataW.Whole enc Tryz.prog Tryz.f7.params.toList Rows.fnWorldGiveSpec.vars false W args.toList ds gs before) :
  Calls Tryz.prog 7 args W fun e W'=>∃ v,e=.returned v ∧ Rows.fnWorldGiveSpec.post enc Tryz.prog Tryz.f7 false true false false W args v W':=by
 have hW':=hW
 obtain⟨p,q,hA0,hV,rfl,hfz,hnd⟩:=hW
 have hA:DataW.TrodAll enc Tryz.prog W 0 (fun _=>true) true Tryz.f7.params.toList args.toList ds p:=hA0
 rw[params]at hA hval
 obtain⟨v0,vs0,d0,ds0,p0,q0,hargs,rfl,rfl,h0,r0⟩:=trodAll_cons hA
 obtain⟨v1,vs1,d1,ds1,p1,q1,rfl,rfl,rfl,h1,r1⟩:=trodAll_cons r0
 obtain⟨rfl,rfl,rfl⟩:=trodAll_nil r1
 obtain rfl:args=#[v0,v1]:=by cases args;simp_all
 obtain⟨rfl,rfl⟩:=trodVars_none hV
 obtain⟨code,hb,hrep,hd,hshut⟩:=bx t22 t5 c5 (hval 0 22 v0 rfl rfl) h0
 obtain⟨more,hb1,hrep1,hd1,hshut1⟩:=bx t22 t5 c5 (hval 1 22 v1 rfl rfl) h1
 have hlaw:φ_bh [.list (code.map cB),.list (more.map cB)]=some [.bool true]:=by
  by_cases h:code.length ≤ 1048576
  ·exact law_WorldGive (by omega) hb
  ·unfold φ_bh t_bh
   exact vg (by rw[List.length_map];omega)
 refine(cz (vs:=[v0,v1]) has_bh (by simp[dZ]) ⟨[.list (code.map cB)],[.list (more.map cB)],v0,[v1],[],[],rfl,rfl,rfl,ct hrep,[.list (more.map cB)],[],v1,[],[],[],rfl,rfl,rfl,ct hrep1,rfl,rfl,rfl⟩ hlaw).mono ?_
 rintro e W' ⟨rfl,g1,g2,g3⟩
 refine⟨_,rfl,[d0,d1],[],p0++p1,[],p0++p1,[],by simpa using hW',trodAll_cons_mk (shut_bool t4 _) trodAll_mk0,?_,rfl,dQ g1 g2 g3 _,fun h=>by cases h⟩
 rw[params]
 have:=trodAll_cons_mk (hshut W' g3) (trodAll_cons_mk (hshut1 W' g3) (trodAll_mk0 (enc:=enc) (P:=Tryz.prog) (w:=W') (base:=0) (spare:=fun b=>decide (b<W.heap.size)) (held:=true)))
 rw[List.append_nil]at this
 exact this
set_option maxRecDepth 100000 in
theorem lifted(os:Os)(started:os.Started)(H:Type)(enc:TypeId×Value → H) :
  ReturnsInHanded {} Tryz.checked os 7 .any (Rows.fnWorldGiveSpec.pre6 enc Tryz.prog Tryz.f7 Rows.fnWorldGiveRow.domain false) (Rows.fnWorldGiveSpec.post enc Tryz.prog Tryz.f7 false true false false):=by
 refine returnsInHanded_of_change (C:=Tryz.checked) own started (by kernel_rfl) func
  (ChangeSpec.witness6 (enc:=enc) (C:=Tryz.checked) false ⟨#[],#[.slice none 0 0,.slice none 0 0],[]⟩ 8 (by kernel_rfl) (by kernel_rfl) (by kernel_rfl) (by kernel_rfl)) ?_
 intro W base args ds gs before hval hW _ _
 exact contract H enc W base args ds gs before hval hW
theorem proved:Rows.FnWorldGiveSaid :=
 OpenClaim.holds_of_wide 7 Tryz.f7 rfl rfl rfl rfl rfl rfl rfl ⟨rfl,rfl,rfl,rfl,rfl⟩ rfl rfl rfl rfl rfl (by kernel_rfl) func (by kernel_rfl)
  (of_decide_eq_true (by kernel_rfl)) (by unfold Func.isWrapper;first|(rw[if_pos (by decide +kernel)];kernel_rfl)|(rw[if_neg (by decide +kernel)];exact⟨rfl,rfl⟩))
  (fun os started H enc _=>lifted os started H enc)
#print axioms proved
end Go.Proofs.YtmjkolpalcpgfaaGreat.fnWorldGive
