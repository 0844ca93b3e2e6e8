/- PROVED: Rows.FnWorldFreeSaid: whatever the input, laws.FnWorldFree returns true, and its arguments read as they did. No condition beyond the statement's own. -/
import Derived.Test.YtmjkolpalcpgfaaGreatZb
import Derived.Test.YtmjkolpalcpgfaaGreatHa
import Derived.Test.YtmjkolpalcpgfaaGreatJa
import Derived.Test.YtmjkolpalcpgfaaGreatRows
set_option linter.all false
namespace Dx
open Go Go.Proofs
def t_bt:Tree :=
 fK<|
 .call 4 [⟨.bool,(.v 5)⟩,⟨.list,(.v 6)⟩,⟨(.int .i64),(.v 7)⟩,⟨.list,(.v 8)⟩,⟨.list,(.v 9)⟩,⟨.list,(.v 10)⟩,⟨(.int .i64),(.n 9)⟩] [.bool,.list,(.int .i64),.list,.list,.list]<|
 .call 5 [⟨.bool,(.v 23)⟩,⟨.list,(.v 24)⟩,⟨(.int .i64),(.v 25)⟩,⟨.list,(.v 26)⟩,⟨.bool,(.b true)⟩] [.list]<|
 .iter [⟨(.int .i64),(.n 0)⟩]<|
 .letp .ltI [⟨(.int .i64),(.v 30)⟩,⟨(.int .i64),(.n 3)⟩]<|
 .ite (.v 31) (
 .chk .idx [⟨(.int .i64),(.v 30)⟩,⟨.list,(.v 27)⟩]<|
 .row (.v 27) (.v 30) [(.int .i64),.bool,(.int .i64),.list,(.int .i64)]<|
 .call 6 [⟨(.int .i64),(.v 32)⟩,⟨.bool,(.v 33)⟩,⟨(.int .i64),(.v 34)⟩,⟨.list,(.v 35)⟩,⟨(.int .i64),(.v 36)⟩,⟨.bool,(.b true)⟩] [(.int .i64),.list]<|
 .call 7 [⟨(.int .i64),(.v 37)⟩,⟨.list,(.v 38)⟩] [(.int .i64)]<|
 .iter [⟨(.int .i64),(.v 39)⟩,⟨(.int .i64),(.n 0)⟩]<|
 .letp .len [⟨.list,(.v 29)⟩]<|
 .letp .ltI [⟨(.int .i64),(.v 41)⟩,⟨(.int .i64),(.v 42)⟩]<|
 .ite (.v 43) (
 .row (.v 29) (.v 41) [.list,(.int .i64)]<|
 .letp .eqI [⟨(.int .i64),(.v 45)⟩,⟨(.int .i64),(.n 4)⟩]<|
 .ite (.v 46) (
 .row (.v 29) (.v 41) [.list,(.int .i64)]<|
 .row (.v 47) (.v 30) [(.int .i64)]<|
 .letp (.add .i64) [⟨(.int .i64),(.v 40)⟩,⟨(.int .i64),(.v 49)⟩]<|
 .letp (.add .i64) [⟨(.int .i64),(.v 41)⟩,⟨(.int .i64),(.n 1)⟩]<|
 .jump [⟨(.int .i64),(.v 50)⟩,⟨(.int .i64),(.v 51)⟩])<|
 .letp (.add .i64) [⟨(.int .i64),(.v 41)⟩,⟨(.int .i64),(.n 1)⟩]<|
 .jump [⟨(.int .i64),(.v 40)⟩,⟨(.int .i64),(.v 47)⟩])<|
 .up<|
 .row (.v 3) (.v 30) [(.int .i64)]<|
 .letp .neI [⟨(.int .i64),(.v 40)⟩,⟨(.int .i64),(.v 44)⟩]<|
 .ite (.v 45) (
 .up<|
 .ret [⟨.bool,(.b false)⟩])<|
 .letp (.add .i64) [⟨(.int .i64),(.v 30)⟩,⟨(.int .i64),(.n 1)⟩]<|
 .jump [⟨(.int .i64),(.v 46)⟩])<|
 .up<|
 .ret [⟨.bool,(.b true)⟩]
noncomputable def Φ_bt:Phi:=fun n=>match n with
 | 0=>gZ
 | 1=>g0
 | 2=>hD
 | 3=>cY
 | 4=>db
 | 5=>dH
 | 6=>mO
 | 7=>mP
 | _=>fun _=>none
noncomputable def φ_bt(cs:List C):Option (List C):=ah (den Φ_bt t_bt cs)
end Dx
namespace Dx
open Go
section
variable {code more:List Int}
theorem law_WorldFree(hl:code.length ≤ 1099511627776)(hc:fQ code):φ_bt [.list (code.map eB)]=some [.bool true]:=by
 unfold φ_bt t_bt
 refine ev rfl rfl rfl rfl hl hc fun rooms es w hw hr hel hes=>?_
 obtain⟨ow,I⟩:=gG hw
 have e4:Φ_bt 4=db:=rfl
 have e5:Φ_bt 5=dH:=rfl
 have e6:Φ_bt 6=mO:=rfl
 have e7:Φ_bt 7=mP:=rfl
 have f:=fU ow I
 have hrm:=(z1 ow I 9).2.2
 rw[show bR w=rooms from yt hw]at hrm
 have c1:_=some (bu w 9).e:=bA ow (r:=9) (by omega)
 generalize bu w 9=x at *
 have ox:=f.ok
 have hdS:DkS ⟨x.dk.up,⟨x.dk.lg.rs,x.dk.lg.f⟩,x.dk.td⟩:=ox.dk.S
 have hdo:bH ⟨x.dk.up,⟨x.dk.lg.rs,x.dk.lg.f⟩,x.dk.td⟩=true:=deskOk_iff.2 ox.dk
 have tr:TrOk (ai x.dk.lg true):=ox.dk.trOk true
 have tr6:=tr.len
 have h3:=ox.len
 simp only[Wd.e]at c1
 simp (disch:=first|assumption|omega|(simp only[List.length_append,List.length_map,List.length_cons,List.length_nil];omega)) only[cA,bp,aO,aS,aC,aN,aD,aq,aE,aK,ap,ax,Cell.den,At.den,Prim.den,List.cons_append,List.nil_append,bU,aR,CK.of,cp,cr,Bool.decide_eq_true,e4,c1,e5,bi hdS,hdo,if_true,Int.reduceEq,reduceIte,zU,zT,aa,Bool.and_true,List.length_map,List.length_nil,List.length_cons,List.nil_append]
 rw[cD]
 simp only[ax,Cell.den,At.den,C.toInt_int]
 rw[fR (l:=x.hs) (o:=.ret [.bool true])]
 ·rfl
 ·intro h y hy
  have hi:=(List.getElem?_eq_some_iff.1 hy).1
  have hi':(h:Int)<3:=by omega
  obtain⟨c1,c2,c3⟩:=ox.cells hy
  have oh:=houseOk_iff.1 c2
  have hs:=oh.stOk true
  have hs':StOk ⟨(am ⟨y.id,y.up,y.room,⟨y.lg.rs,y.lg.f⟩⟩ true).room,(am ⟨y.id,y.up,y.room,⟨y.lg.rs,y.lg.f⟩⟩ true).hs⟩:=hs
  have hri:rooms[h]?=some y.room:=by rw[← hrm,bR,List.getElem?_map,hy];rfl
  have hH:isH ((h+1:Nat):Int):=⟨by omega,by omega⟩
  have hyh:houseAt x ((h+1:Nat):Int)=y:=by
   have e:(((h+1:Nat):Int)-1).toNat=h:=by omega
   unfold houseAt;rw[e,hy];rfl
  have hfree:=f.free hH
  rw[hyh]at hfree
  have hroom:0 ≤ y.room ∧ y.room ≤ 9:=by
   have:=hs.room
   rw[show (am ⟨y.id,y.up,y.room,⟨y.lg.rs,y.lg.f⟩⟩ true).room=y.room from oh.room true]at this
   exact this
  have hf0:0 ≤ free (am y true):=by
   have:=hs.free
   rwa [show (⟨y.id,y.up,y.room,⟨y.lg.rs,y.lg.f⟩⟩:House)=y from rfl]at this
  have hlt:h<3:=by omega
  simp (disch:=first|assumption|omega|(simp only[List.length_append,List.length_map,List.length_cons,List.length_nil];omega)) only[cA,bp,aO,aS,aC,aN,aD,aq,aE,aK,ap,ax,Cell.den,At.den,Prim.den,List.cons_append,List.nil_append,bU,aR,CK.of,cp,cr,Bool.decide_eq_true,fB hy,House.e,hi',e6,gT c1.S,c2,Stock.e,e7,iY hs',if_true,Int.reduceEq,reduceIte,zU,zT,aa,Bool.and_true,List.length_map,List.length_nil,List.length_cons,List.nil_append]
  rw[cD]
  simp only[ax,Cell.den,At.den,C.toInt_int,aa]
  refine qm (l:=ai x.dk.lg true) (enc:=fun i (n:Int)=>[.int .i64 n,.int .i64 i]) (P:=fun i n=>n+cV ((ai x.dk.lg true).drop i) ((h+1:Nat):Int)=y.room ∧ 0 ≤ n) (s0:=free (am y true)) (o:=.jump [.int .i64 ((h+1:Nat):Int)]) ⟨hfree,hf0⟩ ?_ ?_
  ·intro i z n hz hP
   have hiz:=(List.getElem?_eq_some_iff.1 hz).1
   have hiz':(i:Int)<((ai x.dk.lg true).length:Nat):=by omega
   obtain⟨hP1,hP2⟩:=hP
   have hdr:(ai x.dk.lg true).drop i=z::(ai x.dk.lg true).drop (i+1):=by rw[List.drop_eq_getElem_cons hiz,(List.getElem?_eq_some_iff.1 hz).2]
   rw[hdr,kC]at hP1
   have hzo:=tr.ok z (List.mem_of_getElem? hz)
   have hm3:=bt (tripOk_iff.1 hzo).1
   have hk0:=iR ((h+1:Nat):Int) (l:=(ai x.dk.lg true).drop (i+1)) fun y hy=>tr.ok y (List.mem_of_mem_drop hy)
   have hm0:=nZ hzo ((h+1:Nat):Int)
   by_cases h4:z.s=4
   ·rw[if_pos h4]at hP1
    refine⟨n+mAt z.m ((h+1:Nat):Int),?_,by omega,by omega⟩
    have hw1:IntKind.wrap .i64 (n+mAt z.m ((h+1:Nat):Int))=n+mAt z.m ((h+1:Nat):Int):=wrap64 (by omega) (by omega)
    simp (disch:=first|assumption|omega|(simp only[List.length_append,List.length_map,List.length_cons,List.length_nil];omega)) only[cA,bp,aO,aS,aC,aN,aD,aq,aE,aK,ap,ax,Cell.den,At.den,Prim.den,List.cons_append,List.nil_append,bU,aR,CK.of,cp,cr,Bool.decide_eq_true,hiz',if_true,dS hz,Trip.e,h4,IZ hm3 hlt,eI,hw1,al,Int.reduceEq,reduceIte,zU,zT,aa,Bool.and_true,List.length_map,List.length_nil,List.length_cons,List.nil_append]
    try rfl
   ·rw[if_neg h4]at hP1
    refine⟨n,?_,by omega,by omega⟩
    simp (disch:=first|assumption|omega|(simp only[List.length_append,List.length_map,List.length_cons,List.length_nil];omega)) only[cA,bp,aO,aS,aC,aN,aD,aq,aE,aK,ap,ax,Cell.den,At.den,Prim.den,List.cons_append,List.nil_append,bU,aR,CK.of,cp,cr,Bool.decide_eq_true,hiz',if_true,dS hz,Trip.e,h4,if_false,al,Int.reduceEq,reduceIte,zU,zT,aa,Bool.and_true,List.length_map,List.length_nil,List.length_cons,List.nil_append]
    try rfl
  ·intro n hP
   have hn:n=y.room:=by
    have:=hP.1
    rw[List.drop_length]at this
    simpa [cV] using this
   have h:¬ (((ai x.dk.lg true).length:Int)<((ai x.dk.lg true).length:Nat)):=by omega
   subst hn
   simp (disch:=first|assumption|omega|(simp only[List.length_append,List.length_map,List.length_cons,List.length_nil];omega)) only[cA,bp,aO,aS,aC,aN,aD,aq,aE,aK,ap,ax,Cell.den,At.den,Prim.den,List.cons_append,List.nil_append,bU,aR,CK.of,cp,cr,Bool.decide_eq_true,h,if_false,if_true,ig hri,eI,al,Int.reduceEq,reduceIte,zU,zT,aa,Bool.and_true,List.length_map,List.length_nil,List.length_cons,List.nil_append]
   try rfl
 ·have h:¬ ((x.hs.length:Int)<3):=by omega
  simp (disch:=first|assumption|omega|(simp only[List.length_append,List.length_map,List.length_cons,List.length_nil];omega)) only[cA,bp,aO,aS,aC,aN,aD,aq,aE,aK,ap,ax,Cell.den,At.den,Prim.den,List.cons_append,List.nil_append,bU,aR,CK.of,cp,cr,Bool.decide_eq_true,h,if_false,Int.reduceEq,reduceIte,zU,zT,aa,Bool.and_true,List.length_map,List.length_nil,List.length_cons,List.nil_append]
  try rfl
end
end Dx
namespace Dx
open Go Go.Proofs
def c_bt:Con:=⟨[.own false [.val] [.list] false],[⟨false,[.val],[.bool],false⟩]⟩
def h_bt:How:=⟨aw [(0,⟨[kI],[(2,(.bool (.b false))),(11,(sI 0))],[],[],0⟩),(2,⟨[kI,kI],[(12,(sI 0)),(13,(sI 1))],[],[],0⟩)],
 aw [],
 aw []⟩
theorem has_bt:Has Tryz.prog 5 c_bt φ_bt:=fp (R:=[]) (tr:=false) (E:=[(21,0,wc),(22,1,wd),(23,2,we),(17,3,qy),(16,4,tD),(24,5,wg),(26,6,Jl),(25,7,Jm)]) (Φ:=Φ_bt) (t:=t_bt) ⟨iI,iJ,iK,fF,gH,iL,Ai,Aj,trivial⟩ Tryz.f5 h_bt (by kernel_rfl)
end Dx
namespace Go.Proofs.YtmjkolpalcpgfaaGreat.fnWorldFree
open Go.ChangeShapes Go.WideShapes Go.ChangeAt Go.RowKit Dx
set_option linter.unusedVariables false
set_option maxRecDepth 100000
theorem own:ownKnob Tryz.prog.godebug=none:=by kernel_rfl
theorem params:Tryz.f5.params=#[22]:=by kernel_rfl
theorem results:Tryz.f5.resultTypes=#[4]:=by kernel_rfl
theorem t22:Tryz.prog.underlying 22=some (.slice 5):=by kernel_rfl
theorem t5:Tryz.prog.underlying 5=some (.int .u8):=by kernel_rfl
theorem t4:Tryz.prog.underlying 4=some .bool:=by kernel_rfl
theorem c5:Tryz.prog.cellsOf 5=1:=by kernel_rfl
theorem func:Tryz.prog.funcs[5]?=some Tryz.f5:=by kernel_rfl
theorem contract(H:Type)(enc:TypeId×Value → H)(W:World)(base:Nat)(args:Array Value)(ds gs:List (DataW H))(before:List MemPlace)
  (hval:∀(j:Nat) t v,Tryz.f5.params[j]?=some t → args[j]?=some v → Value.okWide Tryz.prog W .any base t v)
  (hW:DataW.Whole enc Tryz.prog Tryz.f5.params.toList Rows.fnWorldFreeSpec.vars false W args.toList ds gs before) :
  Calls Tryz.prog 5 args W fun e W'=>∃ v,e=.returned v ∧ Rows.fnWorldFreeSpec.post enc Tryz.prog Tryz.f5 false true false false W args v W':=by
 have hW':=hW
 obtain⟨p,q,hA0,hV,rfl,hfz,hnd⟩:=hW
 have hA:DataW.TrodAll enc Tryz.prog W 0 (fun _=>true) true Tryz.f5.params.toList args.toList ds p:=hA0
 rw[params]at hA hval
 obtain⟨v0,vs0,d0,ds0,p0,q0,hargs,rfl,rfl,h0,r0⟩:=trodAll_cons hA
 obtain⟨rfl,rfl,rfl⟩:=trodAll_nil r0
 obtain rfl:args=#[v0]:=by cases args;simp_all
 obtain⟨rfl,rfl⟩:=trodVars_none hV
 obtain⟨code,hb,hrep,hd,hshut⟩:=bx t22 t5 c5 (hval 0 22 v0 rfl rfl) h0
 have hlaw:φ_bt [.list (code.map cB)]=some [.bool true]:=by
  by_cases h:code.length ≤ 1048576
  ·exact law_WorldFree (by omega) hb
  ·unfold φ_bt t_bt
   exact vf (by rw[List.length_map];omega)
 refine(cz (vs:=[v0]) has_bt (by simp[dZ]) ⟨[.list (code.map cB)],[],v0,[],[],[],rfl,rfl,rfl,ct hrep,rfl,rfl,rfl⟩ hlaw).mono ?_
 rintro e W' ⟨rfl,h1,h2,h3⟩
 refine⟨_,rfl,[d0],[],p0,[],p0,[],by simpa using hW',trodAll_cons_mk (shut_bool t4 _) trodAll_mk0,?_,rfl,dQ h1 h2 h3 _,fun h=>by cases h⟩
 rw[params]
 have:=trodAll_cons_mk (hshut W' h3) (trodAll_mk0 (enc:=enc) (P:=Tryz.prog) (w:=W') (base:=0) (spare:=fun b=>decide (b<W.heap.size)) (held:=true))
 rw[List.append_nil]at this
 exact this
set_option maxRecDepth 100000 in
theorem lifted(os:Os)(started:os.Started)(H:Type)(enc:TypeId×Value → H) :
  ReturnsInHanded {} Tryz.checked os 5 .any (Rows.fnWorldFreeSpec.pre6 enc Tryz.prog Tryz.f5 Rows.fnWorldFreeRow.domain false) (Rows.fnWorldFreeSpec.post enc Tryz.prog Tryz.f5 false true false false):=by
 refine returnsInHanded_of_change (C:=Tryz.checked) own started (by kernel_rfl) func
  (ChangeSpec.witness6 (enc:=enc) (C:=Tryz.checked) false ⟨#[],#[.slice none 0 0],[]⟩ 8 (by kernel_rfl) (by kernel_rfl) (by kernel_rfl) (by kernel_rfl)) ?_
 intro W base args ds gs before hval hW _ _
 exact contract H enc W base args ds gs before hval hW
theorem proved:Rows.FnWorldFreeSaid :=
 OpenClaim.holds_of_wide 5 Tryz.f5 rfl rfl rfl rfl rfl rfl rfl ⟨rfl,rfl,rfl,rfl,rfl⟩ rfl rfl rfl rfl rfl (by kernel_rfl) func (by kernel_rfl)
  (of_decide_eq_true (by kernel_rfl)) (by unfold Func.isWrapper;first|(rw[if_pos (by decide +kernel)];kernel_rfl)|(rw[if_neg (by decide +kernel)];exact⟨rfl,rfl⟩))
  (fun os started H enc _=>lifted os started H enc)
#print axioms proved
end Go.Proofs.YtmjkolpalcpgfaaGreat.fnWorldFree
