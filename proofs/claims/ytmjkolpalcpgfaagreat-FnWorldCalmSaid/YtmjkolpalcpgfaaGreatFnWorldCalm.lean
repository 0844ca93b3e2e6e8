/- PROVED: Rows.FnWorldCalmSaid: whatever the input, laws.FnWorldCalm returns true, and its arguments read as they did. No condition beyond the statement's own. -/
import Derived.Test.YtmjkolpalcpgfaaGreatZb
import Derived.Test.YtmjkolpalcpgfaaGreatHa
import Derived.Test.YtmjkolpalcpgfaaGreatJa
import Derived.Test.YtmjkolpalcpgfaaGreatRows
set_option linter.all false
namespace Dx
open Go Go.Proofs
def t_bj:Tree :=
 fK<|
 .call 4 [⟨.bool,(.v 5)⟩,⟨.list,(.v 6)⟩,⟨(.int .i64),(.v 7)⟩,⟨.list,(.v 8)⟩,⟨.list,(.v 9)⟩,⟨.list,(.v 10)⟩,⟨(.int .i64),(.n 9)⟩] [.bool,.list,(.int .i64),.list,.list,.list]<|
 .call 5 [⟨.bool,(.v 23)⟩,⟨.list,(.v 24)⟩,⟨(.int .i64),(.v 25)⟩,⟨.list,(.v 26)⟩,⟨.bool,(.b true)⟩] [.list]<|
 .iter [⟨(.int .i64),(.n 1)⟩]<|
 .letp .len [⟨.list,(.v 29)⟩]<|
 .letp .leI [⟨(.int .i64),(.v 30)⟩,⟨(.int .i64),(.v 31)⟩]<|
 .ite (.v 32) (
 .letp (.sub .i64) [⟨(.int .i64),(.v 30)⟩,⟨(.int .i64),(.n 1)⟩]<|
 .row (.v 29) (.v 33) [.list,(.int .i64)]<|
 .letp .ltI [⟨(.int .i64),(.v 35)⟩,⟨(.int .i64),(.n 4)⟩]<|
 .ite (.v 36) (
 .up<|
 .ret [⟨.bool,(.b false)⟩])<|
 .call 6 [⟨.bool,(.v 23)⟩,⟨.list,(.v 24)⟩,⟨(.int .i64),(.v 25)⟩,⟨.list,(.v 26)⟩,⟨.list,(.v 27)⟩,⟨.list,(.v 28)⟩,⟨(.int .i64),(.v 30)⟩] [.list]<|
 .iter [⟨(.int .i64),(.n 0)⟩]<|
 .letp .len [⟨.list,(.v 37)⟩]<|
 .letp .ltI [⟨(.int .i64),(.v 38)⟩,⟨(.int .i64),(.v 39)⟩]<|
 .ite (.v 40) (
 .row (.v 37) (.v 38) [(.int .i64),(.int .i64)]<|
 .letp .eqI [⟨(.int .i64),(.v 42)⟩,⟨(.int .i64),(.n 1)⟩]<|
 .ite (.v 43) (
 .up<|
 .up<|
 .ret [⟨.bool,(.b false)⟩])<|
 .letp (.add .i64) [⟨(.int .i64),(.v 38)⟩,⟨(.int .i64),(.n 1)⟩]<|
 .jump [⟨(.int .i64),(.v 44)⟩])<|
 .up<|
 .letp (.add .i64) [⟨(.int .i64),(.v 30)⟩,⟨(.int .i64),(.n 1)⟩]<|
 .jump [⟨(.int .i64),(.v 41)⟩])<|
 .up<|
 .call 7 [⟨.bool,(.v 23)⟩,⟨.list,(.v 24)⟩,⟨(.int .i64),(.v 25)⟩,⟨.list,(.v 26)⟩,⟨.list,(.v 27)⟩,⟨.list,(.v 28)⟩] [.bool]<|
 .ite (.v 33) (
 .letp .len [⟨.list,(.v 29)⟩]<|
 .call 5 [⟨.bool,(.v 5)⟩,⟨.list,(.v 6)⟩,⟨(.int .i64),(.v 7)⟩,⟨.list,(.v 8)⟩,⟨.bool,(.b false)⟩] [.list]<|
 .letp .len [⟨.list,(.v 35)⟩]<|
 .letp .eqI [⟨(.int .i64),(.v 34)⟩,⟨(.int .i64),(.v 36)⟩]<|
 .ite (.v 37) (
 .call 8 [⟨.bool,(.v 23)⟩,⟨.list,(.v 24)⟩,⟨(.int .i64),(.v 25)⟩,⟨.list,(.v 26)⟩] [.list]<|
 .letp .len [⟨.list,(.v 38)⟩]<|
 .letp .eqI [⟨(.int .i64),(.v 39)⟩,⟨(.int .i64),(.n 0)⟩]<|
 .ret [⟨.bool,(.v 40)⟩])<|
 .ret [⟨.bool,(.b false)⟩])<|
 .ret [⟨.bool,(.b false)⟩]
noncomputable def Φ_bj:Phi:=fun n=>match n with
 | 0=>gZ
 | 1=>g0
 | 2=>hD
 | 3=>cY
 | 4=>db
 | 5=>dH
 | 6=>mQ
 | 7=>mR
 | 8=>rA
 | _=>fun _=>none
noncomputable def φ_bj(cs:List C):Option (List C):=ah (den Φ_bj t_bj cs)
end Dx
namespace Dx
open Go
section
variable {code more:List Int}
theorem law_WorldCalm(hl:code.length ≤ 1099511627776)(hc:fQ code):φ_bj [.list (code.map eB)]=some [.bool true]:=by
 unfold φ_bj t_bj
 refine ev rfl rfl rfl rfl hl hc fun rooms es w hw hr hel hes=>?_
 obtain⟨ow,I⟩:=gG hw
 have e4:Φ_bj 4=db:=rfl
 have e5:Φ_bj 5=dH:=rfl
 have e6:Φ_bj 6=mQ:=rfl
 have e7:Φ_bj 7=mR:=rfl
 have e8:Φ_bj 8=rA:=rfl
 have f:=fU ow I
 have hlen:=(z1 ow I 9).2.1
 have c1:_=some (bu w 9).e:=bA ow (r:=9) (by omega)
 generalize bu w 9=x at *
 have ox:=f.ok
 have hdS:DkS ⟨x.dk.up,⟨x.dk.lg.rs,x.dk.lg.f⟩,x.dk.td⟩:=ox.dk.S
 have hdo:bH ⟨x.dk.up,⟨x.dk.lg.rs,x.dk.lg.f⟩,x.dk.td⟩=true:=deskOk_iff.2 ox.dk
 have hdS':DkS ⟨w.dk.up,⟨w.dk.lg.rs,w.dk.lg.f⟩,w.dk.td⟩:=ow.dk.S
 have hdo':bH ⟨w.dk.up,⟨w.dk.lg.rs,w.dk.lg.f⟩,w.dk.td⟩=true:=deskOk_iff.2 ow.dk
 have tr:TrOk (ai x.dk.lg true):=ox.dk.trOk true
 have tr6:=tr.len
 have hlen':(((ai x.dk.lg true).length:Nat):Int)=((ai w.dk.lg false).length:Nat):=by
  have:(ai x.dk.lg true).length=(ai w.dk.lg false).length:=by
   have h1:(vw x).F.length=(vw w).A.length:=by rw[f.F];exact hlen
   exact h1
  rw[this]
 have hwords:aV ⟨x.dk.up,⟨x.dk.lg.rs,x.dk.lg.f⟩,x.dk.td⟩=[]:=f.words
 simp only[Wd.e]at c1
 simp (disch:=first|assumption|omega|(simp only[List.length_append,List.length_map,List.length_cons,List.length_nil];omega)) only[cA,bp,aO,aS,aC,aN,aD,aq,aE,aK,ap,ax,Cell.den,At.den,Prim.den,List.cons_append,List.nil_append,bU,aR,CK.of,cp,cr,Bool.decide_eq_true,e4,c1,e5,bi hdS,hdo,if_true,Int.reduceEq,reduceIte,zU,zT,aa,Bool.and_true,List.length_map,List.length_nil,List.length_cons,List.nil_append]
 rw[cD]
 simp only[ax,Cell.den,At.den,C.toInt_int]
 rw[v7 (l:=ai x.dk.lg true) (o:=.ret [.bool true])]
 ·rfl
 ·intro i y hy
  have hi:=(List.getElem?_eq_some_iff.1 hy).1
  have hi':((i+1:Nat):Int) ≤ ((ai x.dk.lg true).length:Nat):=by omega
  have ht1:(1:Int) ≤ ((i+1:Nat):Int):=by omega
  have ht:isT ((i+1:Nat):Int):=⟨by omega,by omega⟩
  have hho:=gU ox (t:=((i+1:Nat):Int)) ht
  have hst:(tAt (ai x.dk.lg true) ((i+1:Nat):Int)).s=4 ∨ (tAt (ai x.dk.lg true) ((i+1:Nat):Int)).s=5:=f.fin _ ht1 hi'
  have hst4:¬ ((tAt (ai x.dk.lg true) ((i+1:Nat):Int)).s<4):=by omega
  have hw64:IntKind.wrap .i64 (((i+1:Nat):Int)-1)=((i+1:Nat):Int)-1:=wrap64 (by omega) (by omega)
  simp (disch:=first|assumption|omega|(simp only[List.length_append,List.length_map,List.length_cons,List.length_nil];omega)) only[cA,bp,aO,aS,aC,aN,aD,aq,aE,aK,ap,ax,Cell.den,At.den,Prim.den,List.cons_append,List.nil_append,bU,aR,CK.of,cp,cr,Bool.decide_eq_true,hi',if_true,hw64,og ht1 hi',Trip.e,hst4,if_false,e6,hho,Int.reduceEq,reduceIte,zU,zT,aa,Bool.and_true,List.length_map,List.length_nil,List.length_cons,List.nil_append]
  rw[cD]
  simp only[ax,Cell.den,At.den,C.toInt_int]
  have hh3:(bK x ((i+1:Nat):Int)).length=3:=by unfold bK;rw[List.length_map,ox.len]
  rw[fR (l:=bK x ((i+1:Nat):Int)) (o:=.jump [.int .i64 ((i+1+1:Nat):Int)])]
  ·intro h y hy
   have hh:=(List.getElem?_eq_some_iff.1 hy).1
   have hh':(h:Int)<((bK x ((i+1:Nat):Int)).length:Nat):=by omega
   have hlt:h<3:=by omega
   have hyA:y=(vw x).hA ((h+1:Nat):Int) ((i+1:Nat):Int):=by
    have:=pE ox hlt ((i+1:Nat):Int)
    rw[hy]at this
    simpa using this
   have hH:isH ((h+1:Nat):Int):=⟨by omega,by omega⟩
   have hho:=f.hold hH ht
   rw[← hyA]at hho
   have h1:¬ (y.s=1):=by omega
   simp (disch:=first|assumption|omega|(simp only[List.length_append,List.length_map,List.length_cons,List.length_nil];omega)) only[cA,bp,aO,aS,aC,aN,aD,aq,aE,aK,ap,ax,Cell.den,At.den,Prim.den,List.cons_append,List.nil_append,bU,aR,CK.of,cp,cr,Bool.decide_eq_true,rD hy,Hold.e,hh',h1,if_true,if_false,al,Int.reduceEq,reduceIte,zU,zT,aa,Bool.and_true,List.length_map,List.length_nil,List.length_cons,List.nil_append]
   try rfl
  ·have h:¬ (((bK x ((i+1:Nat):Int)).length:Int)<((bK x ((i+1:Nat):Int)).length:Nat)):=by omega
   simp (disch:=first|assumption|omega|(simp only[List.length_append,List.length_map,List.length_cons,List.length_nil];omega)) only[cA,bp,aO,aS,aC,aN,aD,aq,aE,aK,ap,ax,Cell.den,At.den,Prim.den,List.cons_append,List.nil_append,bU,aR,CK.of,cp,cr,Bool.decide_eq_true,h,if_false,al,Int.reduceEq,reduceIte,zU,zT,aa,Bool.and_true,List.length_map,List.length_nil,List.length_cons,List.nil_append]
   try rfl
 ·have h:¬ ((((ai x.dk.lg true).length+1:Nat):Int) ≤ ((ai x.dk.lg true).length:Nat)):=by omega
  simp (disch:=first|assumption|omega|(simp only[List.length_append,List.length_map,List.length_cons,List.length_nil];omega)) only[cA,bp,aO,aS,aC,aN,aD,aq,aE,aK,ap,ax,Cell.den,At.den,Prim.den,List.cons_append,List.nil_append,bU,aR,CK.of,cp,cr,Bool.decide_eq_true,h,if_false,e7,Cn ox f.I,e5,bi hdS',hdo',if_true,decide_true,Int.reduceEq,reduceIte,zU,zT,aa,Bool.and_true,List.length_map,List.length_nil,List.length_cons,List.nil_append]
  simp (disch:=first|assumption|omega|(simp only[List.length_append,List.length_map,List.length_cons,List.length_nil];omega)) only[cA,bp,aO,aS,aC,aN,aD,aq,aE,aK,ap,ax,Cell.den,At.den,Prim.den,List.cons_append,List.nil_append,bU,aR,CK.of,cp,cr,Bool.decide_eq_true,hlen',e8,mi hdS,hdo,hwords,if_true,decide_true,Int.reduceEq,reduceIte,zU,zT,aa,Bool.and_true,List.length_map,List.length_nil,List.length_cons,List.nil_append]
  try rfl
end
end Dx
namespace Dx
open Go Go.Proofs
def c_bj:Con:=⟨[.own false [.val] [.list] false],[⟨false,[.val],[.bool],false⟩]⟩
def h_bj:How:=⟨aw [(0,⟨[kI],[(2,(.bool (.b false))),(11,(sI 0))],[],[],0⟩),(2,⟨[kI],[(2,(.bool (.b false))),(13,(sI 0))],[],[],0⟩)],
 aw [],
 aw []⟩
theorem has_bj:Has Tryz.prog 10 c_bj φ_bj:=fp (R:=[]) (tr:=false) (E:=[(21,0,wc),(22,1,wd),(23,2,we),(17,3,qy),(16,4,tD),(24,5,wg),(29,6,Jn),(30,7,Jo),(31,8,c_cn)]) (Φ:=Φ_bj) (t:=t_bj) ⟨iI,iJ,iK,fF,gH,iL,Ak,Al,EQ,trivial⟩ Tryz.f10 h_bj (by kernel_rfl)
end Dx
namespace Go.Proofs.YtmjkolpalcpgfaaGreat.fnWorldCalm
open Go.ChangeShapes Go.WideShapes Go.ChangeAt Go.RowKit Dx
set_option linter.unusedVariables false
set_option maxRecDepth 100000
theorem own:ownKnob Tryz.prog.godebug=none:=by kernel_rfl
theorem params:Tryz.f10.params=#[22]:=by kernel_rfl
theorem results:Tryz.f10.resultTypes=#[4]:=by kernel_rfl
theorem t22:Tryz.prog.underlying 22=some (.slice 5):=by kernel_rfl
theorem t5:Tryz.prog.underlying 5=some (.int .u8):=by kernel_rfl
theorem t4:Tryz.prog.underlying 4=some .bool:=by kernel_rfl
theorem c5:Tryz.prog.cellsOf 5=1:=by kernel_rfl
theorem func:Tryz.prog.funcs[10]?=some Tryz.f10:=by kernel_rfl
theorem contract(H:Type)(enc:TypeId×Value → H)(W:World)(base:Nat)(args:Array Value)(ds gs:List (DataW H))(before:List MemPlace)
  (hval:∀(j:Nat) t v,Tryz.f10.params[j]?=some t → args[j]?=some v → Value.okWide Tryz.prog W .any base t v)
  (hW:DataW.Whole enc Tryz.prog Tryz.f10.params.toList Rows.fnWorldCalmSpec.vars false W args.toList ds gs before) :
  Calls Tryz.prog 10 args W fun e W'=>∃ v,e=.returned v ∧ Rows.fnWorldCalmSpec.post enc Tryz.prog Tryz.f10 false true false false W args v W':=by
 have hW':=hW
 obtain⟨p,q,hA0,hV,rfl,hfz,hnd⟩:=hW
 have hA:DataW.TrodAll enc Tryz.prog W 0 (fun _=>true) true Tryz.f10.params.toList args.toList ds p:=hA0
 rw[params]at hA hval
 obtain⟨v0,vs0,d0,ds0,p0,q0,hargs,rfl,rfl,h0,r0⟩:=trodAll_cons hA
 obtain⟨rfl,rfl,rfl⟩:=trodAll_nil r0
 obtain rfl:args=#[v0]:=by cases args;simp_all
 obtain⟨rfl,rfl⟩:=trodVars_none hV
 obtain⟨code,hb,hrep,hd,hshut⟩:=bx t22 t5 c5 (hval 0 22 v0 rfl rfl) h0
 have hlaw:φ_bj [.list (code.map cB)]=some [.bool true]:=by
  by_cases h:code.length ≤ 1048576
  ·exact law_WorldCalm (by omega) hb
  ·unfold φ_bj t_bj
   exact vf (by rw[List.length_map];omega)
 refine(cz (vs:=[v0]) has_bj (by simp[dZ]) ⟨[.list (code.map cB)],[],v0,[],[],[],rfl,rfl,rfl,ct hrep,rfl,rfl,rfl⟩ hlaw).mono ?_
 rintro e W' ⟨rfl,h1,h2,h3⟩
 refine⟨_,rfl,[d0],[],p0,[],p0,[],by simpa using hW',trodAll_cons_mk (shut_bool t4 _) trodAll_mk0,?_,rfl,dQ h1 h2 h3 _,fun h=>by cases h⟩
 rw[params]
 have:=trodAll_cons_mk (hshut W' h3) (trodAll_mk0 (enc:=enc) (P:=Tryz.prog) (w:=W') (base:=0) (spare:=fun b=>decide (b<W.heap.size)) (held:=true))
 rw[List.append_nil]at this
 exact this
set_option maxRecDepth 100000 in
theorem lifted(os:Os)(started:os.Started)(H:Type)(enc:TypeId×Value → H) :
  ReturnsInHanded {} Tryz.checked os 10 .any (Rows.fnWorldCalmSpec.pre6 enc Tryz.prog Tryz.f10 Rows.fnWorldCalmRow.domain false) (Rows.fnWorldCalmSpec.post enc Tryz.prog Tryz.f10 false true false false):=by
 refine returnsInHanded_of_change (C:=Tryz.checked) own started (by kernel_rfl) func
  (ChangeSpec.witness6 (enc:=enc) (C:=Tryz.checked) false ⟨#[],#[.slice none 0 0],[]⟩ 8 (by kernel_rfl) (by kernel_rfl) (by kernel_rfl) (by kernel_rfl)) ?_
 intro W base args ds gs before hval hW _ _
 exact contract H enc W base args ds gs before hval hW
theorem proved:Rows.FnWorldCalmSaid :=
 OpenClaim.holds_of_wide 10 Tryz.f10 rfl rfl rfl rfl rfl rfl rfl ⟨rfl,rfl,rfl,rfl,rfl⟩ rfl rfl rfl rfl rfl (by kernel_rfl) func (by kernel_rfl)
  (of_decide_eq_true (by kernel_rfl)) (by unfold Func.isWrapper;first|(rw[if_pos (by decide +kernel)];kernel_rfl)|(rw[if_neg (by decide +kernel)];exact⟨rfl,rfl⟩))
  (fun os started H enc _=>lifted os started H enc)
#print axioms proved
end Go.Proofs.YtmjkolpalcpgfaaGreat.fnWorldCalm
