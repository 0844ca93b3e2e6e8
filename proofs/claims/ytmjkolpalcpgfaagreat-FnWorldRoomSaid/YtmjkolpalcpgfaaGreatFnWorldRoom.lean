/- PROVED: Rows.FnWorldRoomSaid: whatever the input, laws.FnWorldRoom returns true, and its arguments read as they did. No condition beyond the statement's own. -/
import Derived.Test.YtmjkolpalcpgfaaGreatZb
import Derived.Test.YtmjkolpalcpgfaaGreatHa
import Derived.Test.YtmjkolpalcpgfaaGreatJa
import Derived.Test.YtmjkolpalcpgfaaGreatRows
set_option linter.all false
namespace Dx
open Go Go.Proofs
def t_bs:Tree :=
 dN<|
 .letp (.mkl 1) [⟨(.int .i64),(.n 9)⟩,⟨(.int .i64),(.n 9)⟩,⟨(.int .i64),(.n 9)⟩]<|
 .call 4 [⟨.list,(.v 26)⟩] [.bool,.list,(.int .i64),.list,.list,.list,.bool]<|
 .letp .len [⟨.list,(.v 1)⟩]<|
 .letp (.rem .i64) [⟨(.int .i64),(.v 34)⟩,⟨(.int .i64),(.n 4)⟩]<|
 .letp (.add .i64) [⟨(.int .i64),(.n 1)⟩,⟨(.int .i64),(.v 35)⟩]<|
 .iter [⟨(.int .i64),(.n 0)⟩,⟨.bool,(.v 27)⟩,⟨.list,(.v 28)⟩,⟨(.int .i64),(.v 29)⟩,⟨.list,(.v 30)⟩,⟨.list,(.v 31)⟩,⟨.list,(.v 32)⟩]<|
 .letp .ltI [⟨(.int .i64),(.v 37)⟩,⟨(.int .i64),(.v 36)⟩]<|
 .ite (.v 44) (
 .letp (.rem .i64) [⟨(.int .i64),(.v 37)⟩,⟨(.int .i64),(.n 3)⟩]<|
 .letp (.mkl 1) [⟨(.int .i64),(.v 45)⟩,⟨(.int .i64),(.n 2)⟩,⟨(.int .i64),(.n 1)⟩]<|
 .call 5 [⟨.bool,(.v 38)⟩,⟨.list,(.v 39)⟩,⟨(.int .i64),(.v 40)⟩,⟨.list,(.v 41)⟩,⟨.list,(.v 42)⟩,⟨.list,(.v 43)⟩,⟨(.int .i64),(.n 1)⟩,⟨(.int .i64),(.n 0)⟩,⟨(.int .i64),(.n 0)⟩,⟨.list,(.v 46)⟩] [.bool,.list,(.int .i64),.list,.list,.list]<|
 .letp (.add .i64) [⟨(.int .i64),(.v 37)⟩,⟨(.int .i64),(.n 1)⟩]<|
 .jump [⟨(.int .i64),(.v 53)⟩,⟨.bool,(.v 47)⟩,⟨.list,(.v 48)⟩,⟨(.int .i64),(.v 49)⟩,⟨.list,(.v 50)⟩,⟨.list,(.v 51)⟩,⟨.list,(.v 52)⟩])<|
 .up<|
 .call 6 [⟨.bool,(.v 38)⟩,⟨.list,(.v 39)⟩,⟨(.int .i64),(.v 40)⟩,⟨.list,(.v 41)⟩,⟨.list,(.v 42)⟩,⟨.list,(.v 43)⟩,⟨(.int .i64),(.n 9)⟩] [.bool,.list,(.int .i64),.list,.list,.list]<|
 .call 7 [⟨.bool,(.v 45)⟩,⟨.list,(.v 46)⟩,⟨(.int .i64),(.v 47)⟩,⟨.list,(.v 48)⟩,⟨.bool,(.b true)⟩] [.list]<|
 .iter [⟨(.int .i64),(.n 0)⟩]<|
 .letp .len [⟨.list,(.v 51)⟩]<|
 .letp .ltI [⟨(.int .i64),(.v 52)⟩,⟨(.int .i64),(.v 53)⟩]<|
 .ite (.v 54) (
 .row (.v 51) (.v 52) [.list,(.int .i64)]<|
 .letp .neI [⟨(.int .i64),(.v 56)⟩,⟨(.int .i64),(.n 4)⟩]<|
 .ite (.v 57) (
 .up<|
 .ret [⟨.bool,(.b false)⟩])<|
 .letp (.add .i64) [⟨(.int .i64),(.v 52)⟩,⟨(.int .i64),(.n 1)⟩]<|
 .jump [⟨(.int .i64),(.v 58)⟩])<|
 .up<|
 .ite (.v 33) (
 .letp .len [⟨.list,(.v 51)⟩]<|
 .letp .eqI [⟨(.int .i64),(.v 55)⟩,⟨(.int .i64),(.v 36)⟩]<|
 .ite (.v 56) (
 .chk .idx [⟨(.int .i64),(.n 1)⟩,⟨.list,(.v 49)⟩]<|
 .row (.v 49) (.n 1) [(.int .i64),.bool,(.int .i64),.list,(.int .i64)]<|
 .call 8 [⟨(.int .i64),(.v 57)⟩,⟨.bool,(.v 58)⟩,⟨(.int .i64),(.v 59)⟩,⟨.list,(.v 60)⟩,⟨(.int .i64),(.v 61)⟩,⟨.bool,(.b true)⟩] [(.int .i64),.list]<|
 .call 9 [⟨(.int .i64),(.v 62)⟩,⟨.list,(.v 63)⟩] [(.int .i64)]<|
 .letp (.mul .i64) [⟨(.int .i64),(.n 2)⟩,⟨(.int .i64),(.v 36)⟩]<|
 .letp (.sub .i64) [⟨(.int .i64),(.n 9)⟩,⟨(.int .i64),(.v 65)⟩]<|
 .letp .eqI [⟨(.int .i64),(.v 64)⟩,⟨(.int .i64),(.v 66)⟩]<|
 .ret [⟨.bool,(.v 67)⟩])<|
 .ret [⟨.bool,(.b false)⟩])<|
 .ret [⟨.bool,(.b false)⟩]
noncomputable def Φ_bs:Phi:=fun n=>match n with
 | 0=>gZ
 | 1=>g0
 | 2=>hD
 | 3=>cY
 | 4=>jk
 | 5=>dI
 | 6=>db
 | 7=>dH
 | 8=>mO
 | 9=>mP
 | _=>fun _=>none
noncomputable def φ_bs(cs:List C):Option (List C):=ah (den Φ_bs t_bs cs)
end Dx
namespace Dx
open Go
section
variable {code more:List Int}
theorem roomB_ok:∀ i,WOk (rC i)
 | 0=>bN (rooms:=[9,9,9]) rfl
 | i+1=>(roomB_ok i).do_ ⟨1,0,0,[(i:Int) % 3,2,1]⟩
theorem law_WorldRoom(hl:code.length ≤ 1099511627776)(hc:fQ code):φ_bs [.list (code.map eB),.list (more.map eB)]=some [.bool true]:=by
 unfold φ_bs t_bs
 refine da rfl rfl rfl rfl hl hc fun rooms es w hm hw hr hel hes=>?_
 have e4:Φ_bs 4=jk:=rfl
 have e5:Φ_bs 5=dI:=rfl
 have e6:Φ_bs 6=db:=rfl
 have e7:Φ_bs 7=dH:=rfl
 have e8:Φ_bs 8=mO:=rfl
 have e9:Φ_bs 9=mP:=rfl
 have hlt:more.length % 4<4:=Nat.mod_lt _ (by omega)
 have hmod:Int.tmod ((more.length:Nat):Int) 4=((more.length % 4:Nat):Int):=rfl
 generalize hk:more.length % 4=k at hlt hmod
 have hw1:IntKind.wrap .i64 (1+(k:Int))=((k+1:Nat):Int):=by rw[wrap64 (by omega) (by omega)];omega
 have hnew:jk [.list [[.int .i64 9],[.int .i64 9],[.int .i64 9]]]=some ((rC 0).e++[.bool true]):=im (rooms:=[9,9,9]) (by simp)
 simp only[Wd.e,List.cons_append,List.nil_append]at hnew
 have hT:uG (k+1)=true:=by
  have:=FP
  simp only[Bool.and_eq_true]at this
  rcases (show k=0 ∨ k=1 ∨ k=2 ∨ k=3 by omega)with e|e|e|e<;>subst e<;>simp[this]
 unfold uG at hT
 simp only[Bool.and_eq_true,beq_iff_eq,List.all_eq_true]at hT
 obtain⟨⟨t1,t2⟩,t3⟩:=hT
 simp (disch:=first|assumption|omega|(simp only[List.length_append,List.length_map,List.length_cons,List.length_nil];omega)) only[cA,bp,aO,aS,aC,aN,aD,aq,aE,aK,ap,ax,Cell.den,At.den,Prim.den,List.cons_append,List.nil_append,bU,aR,CK.of,cp,cr,Bool.decide_eq_true,hmod,hk,hw1,kP,e4,hnew,Int.reduceEq,reduceIte,zU,zT,aa,Bool.and_true,List.length_map,List.length_nil,List.length_cons,List.nil_append]
 rw[cD]
 simp only[ax,Cell.den,At.den,C.toInt_int,aa,C.toBool_bool,C.toList_list]
 refine Eq.trans (congrArg ah (qm (l:=List.replicate (k+1) ()) (enc:=fun i (x:Wd)=>.int .i64 i::x.e) (P:=fun i x=>x=rC i) (s0:=rC 0) (o:=.ret [.bool true]) rfl ?_ ?_)) rfl
 ·intro i a x ha hx
  have hi:=(List.getElem?_eq_some_iff.1 ha).1
  rw[List.length_replicate]at hi
  have hi':(i:Int)<((k+1:Nat):Int):=by omega
  have ox:=roomB_ok i
  rw[← hx]at ox
  have hm3:Int.tmod (i:Int) 3=(i:Int) % 3:=rfl
  have d1:=bX ox (e:=⟨1,0,0,[(i:Int) % 3,2,1]⟩) (by simp)
  simp only[List.map_cons,List.map_nil,eI,Wd.e]at d1
  refine⟨wdo x ⟨1,0,0,[(i:Int) % 3,2,1]⟩,?_,by rw[hx];rfl⟩
  simp (disch:=first|assumption|omega|(simp only[List.length_append,List.length_map,List.length_cons,List.length_nil];omega)) only[cA,bp,aO,aS,aC,aN,aD,aq,aE,aK,ap,ax,Cell.den,At.den,Prim.den,List.cons_append,List.nil_append,bU,aR,CK.of,cp,cr,Bool.decide_eq_true,Wd.e,hi',if_true,hm3,kP,e5,d1,al,Int.reduceEq,reduceIte,zU,zT,aa,Bool.and_true,List.length_map,List.length_nil,List.length_cons,List.nil_append]
  try rfl
 ·intro x hx
  rw[List.length_replicate]at hx ⊢
  have ox:=roomB_ok (k+1)
  have hx:x=rC (k+1):=hx
  rw[← hx]at ox
  have h4:¬ (((k+1:Nat):Int)<((k+1:Nat):Int)):=by omega
  have c1:_=some (bu x 9).e:=bA ox (r:=9) (by omega)
  have oy:=ox.calm 9
  have ey:bu x 9=yx (k+1):=by rw[hx];rfl
  rw[ey]at c1 oy
  generalize yx (k+1)=y at *
  have hdS':DkS ⟨y.dk.up,⟨y.dk.lg.rs,y.dk.lg.f⟩,y.dk.td⟩:=oy.dk.S
  have hdo':bH ⟨y.dk.up,⟨y.dk.lg.rs,y.dk.lg.f⟩,y.dk.td⟩=true:=deskOk_iff.2 oy.dk
  have hH:isH 2:=⟨by omega,by omega⟩
  obtain⟨g1,g2,g3⟩:=oy.houseAt hH
  have g1':y.hs[(1:Int).toNat]?=some (houseAt y 2):=g1
  obtain⟨b1,b2,_⟩:=oy.cells g1
  have hs:=g2.stOk true
  generalize houseAt y 2=z at *
  have hs':StOk ⟨(am ⟨z.id,z.up,z.room,⟨z.lg.rs,z.lg.f⟩⟩ true).room,(am ⟨z.id,z.up,z.room,⟨z.lg.rs,z.lg.f⟩⟩ true).hs⟩:=hs
  have hrow:∀ f:List C → Option Out,aI (.list (y.hs.map House.e)) (.int .i64 1) [.int .i64,.bool,.int .i64,.list,.int .i64] f=f z.e:=fun f=>dx (by omega) g1' rfl
  have t1':(((ai y.dk.lg true).length:Nat):Int)=((k+1:Nat):Int):=by omega
  have t3':free ⟨(am ⟨z.id,z.up,z.room,⟨z.lg.rs,z.lg.f⟩⟩ true).room,(am ⟨z.id,z.up,z.room,⟨z.lg.rs,z.lg.f⟩⟩ true).hs⟩=9-2*((k+1:Nat):Int):=t3
  have hw2:IntKind.wrap .i64 (2*((k+1:Nat):Int))=2*((k+1:Nat):Int):=wrap64 (by omega) (by omega)
  have hw3:IntKind.wrap .i64 (9-2*((k+1:Nat):Int))=9-2*((k+1:Nat):Int):=wrap64 (by omega) (by omega)
  simp only[Wd.e]at c1
  simp (disch:=first|assumption|omega|(simp only[List.length_append,List.length_map,List.length_cons,List.length_nil];omega)) only[cA,bp,aO,aS,aC,aN,aD,aq,aE,aK,ap,ax,Cell.den,At.den,Prim.den,List.cons_append,List.nil_append,bU,aR,CK.of,cp,cr,Bool.decide_eq_true,Wd.e,h4,if_false,e6,c1,e7,bi hdS',hdo',if_true,Int.reduceEq,reduceIte,zU,zT,aa,Bool.and_true,List.length_map,List.length_nil,List.length_cons,List.nil_append]
  rw[cD]
  simp only[ax,Cell.den,At.den,C.toInt_int]
  rw[fR (l:=ai y.dk.lg true) (o:=.ret [.bool true])]
  ·rfl
  ·intro i b hb
   have hi:=(List.getElem?_eq_some_iff.1 hb).1
   have hi':(i:Int)<((ai y.dk.lg true).length:Nat):=by omega
   have hs4:b.s=4:=by simpa using t2 b (List.mem_of_getElem? hb)
   simp (disch:=first|assumption|omega|(simp only[List.length_append,List.length_map,List.length_cons,List.length_nil];omega)) only[cA,bp,aO,aS,aC,aN,aD,aq,aE,aK,ap,ax,Cell.den,At.den,Prim.den,List.cons_append,List.nil_append,bU,aR,CK.of,cp,cr,Bool.decide_eq_true,hi',if_true,dS hb,Trip.e,hs4,al,Int.reduceEq,reduceIte,zU,zT,aa,Bool.and_true,List.length_map,List.length_nil,List.length_cons,List.nil_append]
   try rfl
  ·have h:¬ (((ai y.dk.lg true).length:Int)<((ai y.dk.lg true).length:Nat)):=by omega
   have y3:=oy.len
   have y0:(1:Int)<((y.hs.length:Nat):Int):=by omega
   have y1:(0:Int) ≤ 1:=by omega
   simp (disch:=first|assumption|omega|(simp only[List.length_append,List.length_map,List.length_cons,List.length_nil];omega)) only[cA,bp,aO,aS,aC,aN,aD,aq,aE,aK,ap,ax,Cell.den,At.den,Prim.den,List.cons_append,List.nil_append,bU,aR,CK.of,cp,cr,Bool.decide_eq_true,h,if_false,Int.reduceEq,reduceIte,zU,zT,aa,Bool.and_true,List.length_map,List.length_nil,List.length_cons,List.nil_append]
   simp (disch:=first|assumption|omega|(simp only[List.length_append,List.length_map,List.length_cons,List.length_nil];omega)) only[cA,bp,aO,aS,aC,aN,aD,aq,aE,aK,ap,ax,Cell.den,At.den,Prim.den,List.cons_append,List.nil_append,bU,aR,CK.of,cp,cr,Bool.decide_eq_true,t1',y0,y1,Bool.and_self,List.length_map,hrow,House.e,e8,gT b1.S,b2,Stock.e,e9,iY hs',t3',hw2,hw3,if_true,decide_true,Int.reduceEq,reduceIte,zU,zT,aa,Bool.and_true,List.length_map,List.length_nil,List.length_cons,List.nil_append]
   try rfl
end
end Dx
namespace Dx
open Go Go.Proofs
def c_bs:Con:=⟨[.own false [.val] [.list] false,.own false [.val] [.list] false],[⟨false,[.val],[.bool],false⟩]⟩
def h_bs:How:=⟨aw [(2,⟨[kI],[(4,(.bool (.b false))),(16,(sI 0))],[],[],0⟩),(0,⟨[kI,.bool,.list,kI,.list,.list,.list],[(14,(sI 0))],[(6,.cells [(.bool (.v 1)),(.view true (.v 2)),(sI 3),(.view true (.v 4)),(.view true (.v 5)),(.view true (.v 6))])],[],0⟩)],
 aw [],
 aw []⟩
theorem has_bs:Has Tryz.prog 8 c_bs φ_bs:=fp (R:=[]) (tr:=false) (E:=[(21,0,wc),(22,1,wd),(23,2,we),(17,3,qy),(27,4,F7),(28,5,yP),(16,6,tD),(24,7,wg),(26,8,Jl),(25,9,Jm)]) (Φ:=Φ_bs) (t:=t_bs) ⟨iI,iJ,iK,fF,uS,jF,gH,iL,Ai,Aj,trivial⟩ Tryz.f8 h_bs (by kernel_rfl)
end Dx
namespace Go.Proofs.YtmjkolpalcpgfaaGreat.fnWorldRoom
open Go.ChangeShapes Go.WideShapes Go.ChangeAt Go.RowKit Dx
set_option linter.unusedVariables false
set_option maxRecDepth 100000
theorem own:ownKnob Tryz.prog.godebug=none:=by kernel_rfl
theorem params:Tryz.f8.params=#[22,22]:=by kernel_rfl
theorem results:Tryz.f8.resultTypes=#[4]:=by kernel_rfl
theorem t22:Tryz.prog.underlying 22=some (.slice 5):=by kernel_rfl
theorem t5:Tryz.prog.underlying 5=some (.int .u8):=by kernel_rfl
theorem t4:Tryz.prog.underlying 4=some .bool:=by kernel_rfl
theorem c5:Tryz.prog.cellsOf 5=1:=by kernel_rfl
theorem func:Tryz.prog.funcs[8]?=some Tryz.f8:=by kernel_rfl
theorem contract(H:Type)(enc:TypeId×Value → H)(W:World)(base:Nat)(args:Array Value)(ds gs:List (DataW H))(before:List MemPlace)
  (hval:∀(j:Nat) t v,Tryz.f8.params[j]?=some t → args[j]?=some v → Value.okWide Tryz.prog W .any base t v)
  (hW:DataW.Whole enc Tryz.prog Tryz.f8.params.toList Rows.fnWorldRoomSpec.vars false W args.toList ds gs before) :
  Calls Tryz.prog 8 args W fun e W'=>∃ v,e=.returned v ∧ Rows.fnWorldRoomSpec.post enc Tryz.prog Tryz.f8 false true false false W args v W':=by
 have hW':=hW
 obtain⟨p,q,hA0,hV,rfl,hfz,hnd⟩:=hW
 have hA:DataW.TrodAll enc Tryz.prog W 0 (fun _=>true) true Tryz.f8.params.toList args.toList ds p:=hA0
 rw[params]at hA hval
 obtain⟨v0,vs0,d0,ds0,p0,q0,hargs,rfl,rfl,h0,r0⟩:=trodAll_cons hA
 obtain⟨v1,vs1,d1,ds1,p1,q1,rfl,rfl,rfl,h1,r1⟩:=trodAll_cons r0
 obtain⟨rfl,rfl,rfl⟩:=trodAll_nil r1
 obtain rfl:args=#[v0,v1]:=by cases args;simp_all
 obtain⟨rfl,rfl⟩:=trodVars_none hV
 obtain⟨code,hb,hrep,hd,hshut⟩:=bx t22 t5 c5 (hval 0 22 v0 rfl rfl) h0
 obtain⟨more,hb1,hrep1,hd1,hshut1⟩:=bx t22 t5 c5 (hval 1 22 v1 rfl rfl) h1
 have hlaw:φ_bs [.list (code.map cB),.list (more.map cB)]=some [.bool true]:=by
  by_cases h:code.length ≤ 1048576
  ·exact law_WorldRoom (by omega) hb
  ·unfold φ_bs t_bs
   exact vg (by rw[List.length_map];omega)
 refine(cz (vs:=[v0,v1]) has_bs (by simp[dZ]) ⟨[.list (code.map cB)],[.list (more.map cB)],v0,[v1],[],[],rfl,rfl,rfl,ct hrep,[.list (more.map cB)],[],v1,[],[],[],rfl,rfl,rfl,ct hrep1,rfl,rfl,rfl⟩ hlaw).mono ?_
 rintro e W' ⟨rfl,g1,g2,g3⟩
 refine⟨_,rfl,[d0,d1],[],p0++p1,[],p0++p1,[],by simpa using hW',trodAll_cons_mk (shut_bool t4 _) trodAll_mk0,?_,rfl,dQ g1 g2 g3 _,fun h=>by cases h⟩
 rw[params]
 have:=trodAll_cons_mk (hshut W' g3) (trodAll_cons_mk (hshut1 W' g3) (trodAll_mk0 (enc:=enc) (P:=Tryz.prog) (w:=W') (base:=0) (spare:=fun b=>decide (b<W.heap.size)) (held:=true)))
 rw[List.append_nil]at this
 exact this
set_option maxRecDepth 100000 in
theorem lifted(os:Os)(started:os.Started)(H:Type)(enc:TypeId×Value → H) :
  ReturnsInHanded {} Tryz.checked os 8 .any (Rows.fnWorldRoomSpec.pre6 enc Tryz.prog Tryz.f8 Rows.fnWorldRoomRow.domain false) (Rows.fnWorldRoomSpec.post enc Tryz.prog Tryz.f8 false true false false):=by
 refine returnsInHanded_of_change (C:=Tryz.checked) own started (by kernel_rfl) func
  (ChangeSpec.witness6 (enc:=enc) (C:=Tryz.checked) false ⟨#[],#[.slice none 0 0,.slice none 0 0],[]⟩ 8 (by kernel_rfl) (by kernel_rfl) (by kernel_rfl) (by kernel_rfl)) ?_
 intro W base args ds gs before hval hW _ _
 exact contract H enc W base args ds gs before hval hW
theorem proved:Rows.FnWorldRoomSaid :=
 OpenClaim.holds_of_wide 8 Tryz.f8 rfl rfl rfl rfl rfl rfl rfl ⟨rfl,rfl,rfl,rfl,rfl⟩ rfl rfl rfl rfl rfl (by kernel_rfl) func (by kernel_rfl)
  (of_decide_eq_true (by kernel_rfl)) (by unfold Func.isWrapper;first|(rw[if_pos (by decide +kernel)];kernel_rfl)|(rw[if_neg (by decide +kernel)];exact⟨rfl,rfl⟩))
  (fun os started H enc _=>lifted os started H enc)
#print axioms proved
end Go.Proofs.YtmjkolpalcpgfaaGreat.fnWorldRoom
