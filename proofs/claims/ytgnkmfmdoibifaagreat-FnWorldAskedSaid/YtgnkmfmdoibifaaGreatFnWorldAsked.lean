/- PROVED: Rows.FnWorldAskedSaid: whatever the input, laws.FnWorldAsked returns true, and its arguments read as they did. No condition beyond the statement's own. -/
import Derived.Test.YtgnkmfmdoibifaaGreatZb
import Derived.Test.YtgnkmfmdoibifaaGreatHa
import Derived.Test.YtgnkmfmdoibifaaGreatJa
import Derived.Test.YtgnkmfmdoibifaaGreatRows
set_option linter.all false
namespace Dx
open Go Go.Proofs
def t_bd:Tree :=
 cH<|
 .call 4 [⟨.bool,(.v 5)⟩,⟨.list,(.v 6)⟩,⟨(.int .i64),(.v 7)⟩,⟨.list,(.v 8)⟩,⟨.bool,(.b false)⟩] [.list]<|
 .iter [⟨(.int .i64),(.n 1)⟩]<|
 .letp .len [⟨.list,(.v 23)⟩]<|
 .letp .leI [⟨(.int .i64),(.v 24)⟩,⟨(.int .i64),(.v 25)⟩]<|
 .ite (.v 26) (
 .call 5 [⟨.bool,(.v 5)⟩,⟨.list,(.v 6)⟩,⟨(.int .i64),(.v 7)⟩,⟨.list,(.v 8)⟩,⟨.list,(.v 9)⟩,⟨.list,(.v 10)⟩,⟨(.int .i64),(.v 24)⟩] [.list]<|
 .iter [⟨(.int .i64),(.n 0)⟩]<|
 .letp .len [⟨.list,(.v 27)⟩]<|
 .letp .ltI [⟨(.int .i64),(.v 28)⟩,⟨(.int .i64),(.v 29)⟩]<|
 .ite (.v 30) (
 .row (.v 27) (.v 28) [(.int .i64),(.int .i64)]<|
 .letp .eqI [⟨(.int .i64),(.v 32)⟩,⟨(.int .i64),(.n 2)⟩]<|
 .ite (.v 33) (
 .letp (.sub .i64) [⟨(.int .i64),(.v 24)⟩,⟨(.int .i64),(.n 1)⟩]<|
 .row (.v 23) (.v 34) [.list,(.int .i64)]<|
 .letp .eqI [⟨(.int .i64),(.v 36)⟩,⟨(.int .i64),(.n 3)⟩]<|
 .ite (.v 37) (
 .up<|
 .up<|
 .ret [⟨.bool,(.b false)⟩])<|
 .letp (.sub .i64) [⟨(.int .i64),(.v 24)⟩,⟨(.int .i64),(.n 1)⟩]<|
 .row (.v 23) (.v 38) [.list,(.int .i64)]<|
 .letp .eqI [⟨(.int .i64),(.v 40)⟩,⟨(.int .i64),(.n 1)⟩]<|
 .ite (.v 41) (
 .up<|
 .up<|
 .ret [⟨.bool,(.b false)⟩])<|
 .row (.v 27) (.v 28) [(.int .i64),(.int .i64)]<|
 .letp (.sub .i64) [⟨(.int .i64),(.v 24)⟩,⟨(.int .i64),(.n 1)⟩]<|
 .row (.v 23) (.v 44) [.list,(.int .i64)]<|
 .row (.v 45) (.v 28) [(.int .i64)]<|
 .letp .gtI [⟨(.int .i64),(.v 42)⟩,⟨(.int .i64),(.v 47)⟩]<|
 .ite (.v 48) (
 .up<|
 .up<|
 .ret [⟨.bool,(.b false)⟩])<|
 .letp (.add .i64) [⟨(.int .i64),(.v 28)⟩,⟨(.int .i64),(.n 1)⟩]<|
 .jump [⟨(.int .i64),(.v 49)⟩])<|
 .row (.v 27) (.v 28) [(.int .i64),(.int .i64)]<|
 .letp (.sub .i64) [⟨(.int .i64),(.v 24)⟩,⟨(.int .i64),(.n 1)⟩]<|
 .row (.v 23) (.v 36) [.list,(.int .i64)]<|
 .row (.v 37) (.v 28) [(.int .i64)]<|
 .letp .gtI [⟨(.int .i64),(.v 34)⟩,⟨(.int .i64),(.v 39)⟩]<|
 .ite (.v 40) (
 .up<|
 .up<|
 .ret [⟨.bool,(.b false)⟩])<|
 .letp (.add .i64) [⟨(.int .i64),(.v 28)⟩,⟨(.int .i64),(.n 1)⟩]<|
 .jump [⟨(.int .i64),(.v 41)⟩])<|
 .up<|
 .letp (.add .i64) [⟨(.int .i64),(.v 24)⟩,⟨(.int .i64),(.n 1)⟩]<|
 .jump [⟨(.int .i64),(.v 31)⟩])<|
 .up<|
 .ret [⟨.bool,(.b true)⟩]
noncomputable def Φ_bd:Phi:=fun n=>match n with
 | 0=>eV
 | 1=>dq
 | 2=>eW
 | 3=>dV
 | 4=>ev
 | 5=>pc
 | _=>fun _=>none
noncomputable def φ_bd(cs:List C):Option (List C):=ai (den Φ_bd t_bd cs)
end Dx
namespace Dx
open Go
section
variable {code:List Int}
theorem law_WorldAsked(hl:code.length ≤ 1099511627776)(hc:gp code):φ_bd [.list (code.map eB)]=some [.bool true]:=by
 unfold φ_bd t_bd
 refine bK rfl rfl rfl rfl hl hc fun rooms es w hw hr hel hes=>?_
 obtain⟨ow,I⟩:=cF hw
 have e4:Φ_bd 4=ev:=rfl
 have e5:Φ_bd 5=pc:=rfl
 have hdS:DkS ⟨w.dk.up,⟨w.dk.lg.rs,w.dk.lg.f⟩,w.dk.td⟩:=ow.dk.S
 have hdo:cm ⟨w.dk.up,⟨w.dk.lg.rs,w.dk.lg.f⟩,w.dk.td⟩=true:=deskOk_iff.2 ow.dk
 have tr:TrOk (aj w.dk.lg false):=ow.dk.trOk false
 have tr6:=tr.len
 have hsA:∀ t,(vw w).sA t=(tAt (aj w.dk.lg false) t).s:=fun _=>rfl
 have hAm:∀ t,tAt (vw w).A t=tAt (aj w.dk.lg false) t:=fun _=>rfl
 simp (disch:=first|assumption|omega|(simp only[zL];omega)) only[cI,bp,aP,aX,aI,aQ,aJ,ar,aH,aK,ap,ax,Cell.den,At.den,Prim.den,List.cons_append,List.nil_append,bL,aS,CK.of,cy,cz,Bool.decide_eq_true,e4,cq hdS,hdo,if_true,Int.reduceEq,reduceIte,zU,zT,aa]
 rw[be]
 simp only[ax,Cell.den,At.den,C.toInt_int]
 rw[sP (l:=aj w.dk.lg false) (o:=.ret [.bool true])]
 ·rfl
 ·intro i x hx
  have hi:=(List.getElem?_eq_some_iff.1 hx).1
  have hi':((i+1:Nat):Int) ≤ ((aj w.dk.lg false).length:Nat):=by omega
  have ht1:(1:Int) ≤ ((i+1:Nat):Int):=by omega
  have ht:isT ((i+1:Nat):Int):=⟨by omega,by omega⟩
  have hho:=jv ow (t:=((i+1:Nat):Int)) ht
  simp (disch:=first|assumption|omega|(simp only[zL];omega)) only[cI,bp,aP,aX,aI,aQ,aJ,ar,aH,aK,ap,ax,Cell.den,At.den,Prim.den,List.cons_append,List.nil_append,bL,aS,CK.of,cy,cz,Bool.decide_eq_true,hi',if_true,e5,hho,Int.reduceEq,reduceIte,zU,zT,aa]
  rw[be]
  simp only[ax,Cell.den,At.den,C.toInt_int]
  have hh3:(bW w ((i+1:Nat):Int)).length=3:=by unfold bW;rw[List.length_map,ow.len]
  rw[dc (l:=bW w ((i+1:Nat):Int)) (o:=.jump [.int .i64 ((i+1+1:Nat):Int)])]
  ·intro h y hy
   have hh:=(List.getElem?_eq_some_iff.1 hy).1
   have hh':(h:Int)<((bW w ((i+1:Nat):Int)).length:Nat):=by omega
   have hlt:h<3:=by omega
   have hyA:y=(vw w).hA ((h+1:Nat):Int) ((i+1:Nat):Int):=by
    have:=sQ ow hlt ((i+1:Nat):Int)
    rw[hy]at this
    simpa using this
   have hH:isH ((h+1:Nat):Int):=⟨by omega,by omega⟩
   have hto:=tripOk_iff.1 (tr.ok _ (fa (l:=aj w.dk.lg false) (t:=((i+1:Nat):Int)) (by omega)))
   have hm3:=bc hto.1
   have f:=fun hs=>I.hold ((h+1:Nat):Int) ((i+1:Nat):Int) hH ht hs
   rw[← hyA]at f
   have hok:=I.okA ((h+1:Nat):Int) ((i+1:Nat):Int) hH ht
   rw[← hyA]at hok
   have hm0:0 ≤ mAt (tAt (aj w.dk.lg false) ((i+1:Nat):Int)).m ((h+1:Nat):Int):=by
    rw[ri (by omega)]
    exact(gk hto.1 (List.getElem_mem _)).1
   have key:y.m ≤ mAt (tAt (aj w.dk.lg false) ((i+1:Nat):Int)).m ((h+1:Nat):Int):=by
    by_cases h0:y.s=0
    ·have:y.m=0:=by unfold bg at hok;rw[if_pos h0]at hok;simpa using hok
     omega
    ·have g:=f h0
     have hF:=I.toBase.FA_m ht.1 g.s ((h+1:Nat):Int)
     rw[hAm]at hF
     rw[hF]
     have g1:=g.m
     have g3:=g.m3
     have gw:=g.w
     rw[← hyA]at g1 g3
     by_cases e3:y.s=3
     ·have:=g3 e3;omega
     ·have:=g1 e3;omega
   have key':¬ (y.m>mAt (tAt (aj w.dk.lg false) ((i+1:Nat):Int)).m ((h+1:Nat):Int)):=by omega
   have hw64:IntKind.wrap .i64 (((i+1:Nat):Int)-1)=((i+1:Nat):Int)-1:=aE (by omega) (by omega)
   by_cases h2:y.s=2
   ·have g:=f (by omega)
    have gc:=g.c
    rw[← hyA]at gc
    have hF:=I.toBase.FA_s ht.1 g.s
    rw[hsA]at hF
    have:=gc h2
    have n3:¬ ((tAt (aj w.dk.lg false) ((i+1:Nat):Int)).s=3):=by omega
    have n1:¬ ((tAt (aj w.dk.lg false) ((i+1:Nat):Int)).s=1):=by omega
    simp (disch:=first|assumption|omega|(simp only[zL];omega)) only[cI,bp,aP,aX,aI,aQ,aJ,ar,aH,aK,ap,ax,Cell.den,At.den,Prim.den,List.cons_append,List.nil_append,bL,aS,CK.of,cy,cz,Bool.decide_eq_true,jK hy,Hold.e,hh',h2,hw64,qg ht1 hi',Trip.e,n3,n1,rowN hm3 hlt,eI,key',if_true,if_false,al,Int.reduceEq,reduceIte,zU,zT,aa]
    try rfl
   ·simp (disch:=first|assumption|omega|(simp only[zL];omega)) only[cI,bp,aP,aX,aI,aQ,aJ,ar,aH,aK,ap,ax,Cell.den,At.den,Prim.den,List.cons_append,List.nil_append,bL,aS,CK.of,cy,cz,Bool.decide_eq_true,jK hy,Hold.e,hh',h2,hw64,qg ht1 hi',Trip.e,rowN hm3 hlt,eI,key',if_true,if_false,al,Int.reduceEq,reduceIte,zU,zT,aa]
    try rfl
  ·have h:¬ (((bW w ((i+1:Nat):Int)).length:Int)<((bW w ((i+1:Nat):Int)).length:Nat)):=by omega
   simp (disch:=first|assumption|omega|(simp only[zL];omega)) only[cI,bp,aP,aX,aI,aQ,aJ,ar,aH,aK,ap,ax,Cell.den,At.den,Prim.den,List.cons_append,List.nil_append,bL,aS,CK.of,cy,cz,Bool.decide_eq_true,h,if_false,al,Int.reduceEq,reduceIte,zU,zT,aa]
   try rfl
 ·have h:¬ ((((aj w.dk.lg false).length+1:Nat):Int) ≤ ((aj w.dk.lg false).length:Nat)):=by omega
  simp (disch:=first|assumption|omega|(simp only[zL];omega)) only[cI,bp,aP,aX,aI,aQ,aJ,ar,aH,aK,ap,ax,Cell.den,At.den,Prim.den,List.cons_append,List.nil_append,bL,aS,CK.of,cy,cz,Bool.decide_eq_true,h,if_false,Int.reduceEq,reduceIte,zU,zT,aa]
  try rfl
end
end Dx
namespace Dx
open Go Go.Proofs
def c_bd:Con:=⟨[.own false [.val] [.list] false],[⟨false,[.val],[.bool],false⟩]⟩
def h_bd:How:=⟨aC [(0,⟨[kI],[(2,(.bool (.b false))),(10,(sI 0))],[],[],0⟩),(2,⟨[kI],[(2,(.bool (.b false))),(12,(sI 0))],[],[],0⟩)],
 aC [],
 aC []⟩
theorem has_bd:Has Tryz.prog 11 c_bd φ_bd:=fp (R:=[]) (tr:=false) (E:=[(15,0,nZ),(16,1,og),(17,2,ol),(18,3,om),(19,4,xz),(27,5,c_cd)]) (Φ:=Φ_bd) (t:=t_bd) ⟨eM,eN,eO,eP,jD,Ba,trivial⟩ Tryz.f11 h_bd (by kernel_rfl)
end Dx
namespace Go.Proofs.YtgnkmfmdoibifaaGreat.fnWorldAsked
open Go.ChangeShapes Go.WideShapes Go.ChangeAt Go.RowKit Dx
set_option linter.unusedVariables false
set_option maxRecDepth 100000
theorem own:ownKnob Tryz.prog.godebug=none:=by kernel_rfl
theorem params:Tryz.f11.params=#[22]:=by kernel_rfl
theorem results:Tryz.f11.resultTypes=#[4]:=by kernel_rfl
theorem t22:Tryz.prog.underlying 22=some (.slice 5):=by kernel_rfl
theorem t5:Tryz.prog.underlying 5=some (.int .u8):=by kernel_rfl
theorem t4:Tryz.prog.underlying 4=some .bool:=by kernel_rfl
theorem c5:Tryz.prog.cellsOf 5=1:=by kernel_rfl
theorem func:Tryz.prog.funcs[11]?=some Tryz.f11:=by kernel_rfl
theorem contract(H:Type)(enc:TypeId×Value → H)(W:World)(base:Nat)(args:Array Value)(ds gs:List (DataW H))(before:List MemPlace)
  (hval:∀(j:Nat) t v,Tryz.f11.params[j]?=some t → args[j]?=some v → Value.okWide Tryz.prog W .any base t v)
  (hW:DataW.Whole enc Tryz.prog Tryz.f11.params.toList Rows.fnWorldAskedSpec.vars false W args.toList ds gs before) :
  Calls Tryz.prog 11 args W fun e W'=>∃ v,e=.returned v ∧ Rows.fnWorldAskedSpec.post enc Tryz.prog Tryz.f11 false true false false W args v W':=by
 have hW':=hW
 obtain⟨p,q,hA0,hV,rfl,hfz,hnd⟩:=hW
 have hA:DataW.TrodAll enc Tryz.prog W 0 (fun _=>true) true Tryz.f11.params.toList args.toList ds p:=hA0
 rw[params]at hA hval
 obtain⟨v0,vs0,d0,ds0,p0,q0,hargs,rfl,rfl,h0,r0⟩:=trodAll_cons hA
 obtain⟨rfl,rfl,rfl⟩:=trodAll_nil r0
 obtain rfl:args=#[v0]:=by cases args;simp_all
 obtain⟨rfl,rfl⟩:=trodVars_none hV
 obtain⟨code,hb,hrep,hd,hshut⟩:=bu t22 t5 c5 (hval 0 22 v0 rfl rfl) h0
 have hlaw:φ_bd [.list (code.map cB)]=some [.bool true]:=by
  by_cases h:code.length ≤ 1048576
  ·exact law_WorldAsked (by omega) hb
  ·unfold φ_bd t_bd
   exact m7 (by rw[List.length_map];omega)
 refine(bZ (vs:=[v0]) has_bd (by simp[dy]) ⟨[.list (code.map cB)],[],v0,[],[],[],rfl,rfl,rfl,cr hrep,rfl,rfl,rfl⟩ hlaw).mono ?_
 rintro e W' ⟨rfl,h1,h2,h3⟩
 refine⟨_,rfl,[d0],[],p0,[],p0,[],by simpa using hW',trodAll_cons_mk (shut_bool t4 _) trodAll_mk0,?_,rfl,dn h1 h2 h3 _,fun h=>by cases h⟩
 rw[params]
 have:=trodAll_cons_mk (hshut W' h3) (trodAll_mk0 (enc:=enc) (P:=Tryz.prog) (w:=W') (base:=0) (spare:=fun b=>decide (b<W.heap.size)) (held:=true))
 rw[List.append_nil]at this
 exact this
set_option maxRecDepth 100000 in
theorem lifted(os:Os)(started:os.Started)(H:Type)(enc:TypeId×Value → H) :
  ReturnsInHanded {} Tryz.checked os 11 .any (Rows.fnWorldAskedSpec.pre6 enc Tryz.prog Tryz.f11 Rows.fnWorldAskedRow.domain false) (Rows.fnWorldAskedSpec.post enc Tryz.prog Tryz.f11 false true false false):=by
 refine returnsInHanded_of_change (C:=Tryz.checked) own started (by kernel_rfl) func
  (ChangeSpec.witness6 (enc:=enc) (C:=Tryz.checked) false ⟨#[],#[.slice none 0 0],[]⟩ 8 (by kernel_rfl) (by kernel_rfl) (by kernel_rfl) (by kernel_rfl)) ?_
 intro W base args ds gs before hval hW _ _
 exact contract H enc W base args ds gs before hval hW
theorem proved:Rows.FnWorldAskedSaid :=
 OpenClaim.holds_of_wide 11 Tryz.f11 rfl rfl rfl rfl rfl rfl rfl ⟨rfl,rfl,rfl,rfl,rfl⟩ rfl rfl rfl rfl rfl (by kernel_rfl) func (by kernel_rfl)
  (of_decide_eq_true (by kernel_rfl)) (by unfold Func.isWrapper;first|(rw[if_pos (by decide +kernel)];kernel_rfl)|(rw[if_neg (by decide +kernel)];exact⟨rfl,rfl⟩))
  (fun os started H enc _=>lifted os started H enc)
#print axioms proved
end Go.Proofs.YtgnkmfmdoibifaaGreat.fnWorldAsked
