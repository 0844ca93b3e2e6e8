/- PROVED: Rows.FnWorldScarceSaid: whatever the input, laws.FnWorldScarce returns true, and its arguments read as they did. No condition beyond the statement's own. -/
import Derived.Test.YtmjkolpalcpgfaaGreatZb
import Derived.Test.YtmjkolpalcpgfaaGreatHa
import Derived.Test.YtmjkolpalcpgfaaGreatJa
import Derived.Test.YtmjkolpalcpgfaaGreatRows
set_option linter.all false
namespace Dx
open Go Go.Proofs
def t_bb:Tree :=
 dN<|
 .letp .len [⟨.list,(.v 1)⟩]<|
 .letp (.rem .i64) [⟨(.int .i64),(.v 26)⟩,⟨(.int .i64),(.n 3)⟩]<|
 .letp (.add .i64) [⟨(.int .i64),(.n 1)⟩,⟨(.int .i64),(.v 27)⟩]<|
 .letp (.mul .i64) [⟨(.int .i64),(.n 2)⟩,⟨(.int .i64),(.v 28)⟩]<|
 .letp (.sub .i64) [⟨(.int .i64),(.v 29)⟩,⟨(.int .i64),(.n 1)⟩]<|
 .letp (.mkl 1) [⟨(.int .i64),(.v 30)⟩,⟨(.int .i64),(.n 3)⟩,⟨(.int .i64),(.n 3)⟩]<|
 .call 4 [⟨.list,(.v 31)⟩] [.bool,.list,(.int .i64),.list,.list,.list,.bool]<|
 .letp (.mkl 1) [⟨(.int .i64),(.v 28)⟩,⟨(.int .i64),(.n 1)⟩,⟨(.int .i64),(.n 0)⟩]<|
 .call 5 [⟨.bool,(.v 32)⟩,⟨.list,(.v 33)⟩,⟨(.int .i64),(.v 34)⟩,⟨.list,(.v 35)⟩,⟨.list,(.v 36)⟩,⟨.list,(.v 37)⟩,⟨(.int .i64),(.n 1)⟩,⟨(.int .i64),(.n 0)⟩,⟨(.int .i64),(.n 0)⟩,⟨.list,(.v 39)⟩] [.bool,.list,(.int .i64),.list,.list,.list]<|
 .letp (.mkl 1) [⟨(.int .i64),(.v 28)⟩,⟨(.int .i64),(.n 0)⟩,⟨(.int .i64),(.n 1)⟩]<|
 .call 5 [⟨.bool,(.v 40)⟩,⟨.list,(.v 41)⟩,⟨(.int .i64),(.v 42)⟩,⟨.list,(.v 43)⟩,⟨.list,(.v 44)⟩,⟨.list,(.v 45)⟩,⟨(.int .i64),(.n 1)⟩,⟨(.int .i64),(.n 0)⟩,⟨(.int .i64),(.n 0)⟩,⟨.list,(.v 46)⟩] [.bool,.list,(.int .i64),.list,.list,.list]<|
 .call 6 [⟨.bool,(.v 47)⟩,⟨.list,(.v 48)⟩,⟨(.int .i64),(.v 49)⟩,⟨.list,(.v 50)⟩,⟨.list,(.v 51)⟩,⟨.list,(.v 52)⟩,⟨(.int .i64),(.n 9)⟩] [.bool,.list,(.int .i64),.list,.list,.list]<|
 .call 7 [⟨.bool,(.v 53)⟩,⟨.list,(.v 54)⟩,⟨(.int .i64),(.v 55)⟩,⟨.list,(.v 56)⟩,⟨.bool,(.b true)⟩] [.list]<|
 .iter [⟨(.int .i64),(.n 0)⟩,⟨(.int .i64),(.n 0)⟩]<|
 .letp .len [⟨.list,(.v 59)⟩]<|
 .letp .ltI [⟨(.int .i64),(.v 61)⟩,⟨(.int .i64),(.v 62)⟩]<|
 .ite (.v 63) (
 .row (.v 59) (.v 61) [.list,(.int .i64)]<|
 .letp .eqI [⟨(.int .i64),(.v 65)⟩,⟨(.int .i64),(.n 4)⟩]<|
 .ite (.v 66) (
 .letp (.add .i64) [⟨(.int .i64),(.v 60)⟩,⟨(.int .i64),(.n 1)⟩]<|
 .letp (.add .i64) [⟨(.int .i64),(.v 61)⟩,⟨(.int .i64),(.n 1)⟩]<|
 .jump [⟨(.int .i64),(.v 67)⟩,⟨(.int .i64),(.v 68)⟩])<|
 .letp (.add .i64) [⟨(.int .i64),(.v 61)⟩,⟨(.int .i64),(.n 1)⟩]<|
 .jump [⟨(.int .i64),(.v 60)⟩,⟨(.int .i64),(.v 67)⟩])<|
 .up<|
 .ite (.v 38) (
 .letp .len [⟨.list,(.v 59)⟩]<|
 .letp .eqI [⟨(.int .i64),(.v 64)⟩,⟨(.int .i64),(.n 2)⟩]<|
 .ite (.v 65) (
 .letp .eqI [⟨(.int .i64),(.v 60)⟩,⟨(.int .i64),(.n 1)⟩]<|
 .ite (.v 66) (
 .chk .idx [⟨(.int .i64),(.n 0)⟩,⟨.list,(.v 57)⟩]<|
 .row (.v 57) (.n 0) [(.int .i64),.bool,(.int .i64),.list,(.int .i64)]<|
 .call 8 [⟨(.int .i64),(.v 67)⟩,⟨.bool,(.v 68)⟩,⟨(.int .i64),(.v 69)⟩,⟨.list,(.v 70)⟩,⟨(.int .i64),(.v 71)⟩,⟨.bool,(.b true)⟩] [(.int .i64),.list]<|
 .call 9 [⟨(.int .i64),(.v 72)⟩,⟨.list,(.v 73)⟩] [(.int .i64)]<|
 .letp (.sub .i64) [⟨(.int .i64),(.v 28)⟩,⟨(.int .i64),(.n 1)⟩]<|
 .letp .eqI [⟨(.int .i64),(.v 74)⟩,⟨(.int .i64),(.v 75)⟩]<|
 .ret [⟨.bool,(.v 76)⟩])<|
 .ret [⟨.bool,(.b false)⟩])<|
 .ret [⟨.bool,(.b false)⟩])<|
 .ret [⟨.bool,(.b false)⟩]
noncomputable def Φ_bb:Phi:=fun n=>match n with
 | 0=>gZ
 | 1=>g0
 | 2=>hD
 | 3=>cY
 | 4=>jk
 | 5=>dI
 | 6=>db
 | 7=>dH
 | 8=>mO
 | 9=>mP
 | _=>fun _=>none
noncomputable def φ_bb(cs:List C):Option (List C):=ah (den Φ_bb t_bb cs)
end Dx
namespace Dx
open Go
section
variable {code more:List Int}
theorem scarce_new{n:Int}(h:1 ≤ n ∧ n ≤ 3):∃ w,aT [2*n-1,3,3]=some w:=by
 have:[2*n-1,3,3].length=3 ∧ [2*n-1,3,3].all (fun n=>in_ n 0 9)=true:=by
  refine⟨rfl,?_⟩
  simp only[List.all_cons,List.all_nil,Bool.and_true,Bool.and_eq_true,in_iff]
  omega
 exact⟨_,if_pos this⟩
theorem law_WorldScarce(hl:code.length ≤ 1099511627776)(hc:fQ code):φ_bb [.list (code.map eB),.list (more.map eB)]=some [.bool true]:=by
 unfold φ_bb t_bb
 refine da rfl rfl rfl rfl hl hc fun rooms es w hm hw hr hel hes=>?_
 have e4:Φ_bb 4=jk:=rfl
 have e5:Φ_bb 5=dI:=rfl
 have e6:Φ_bb 6=db:=rfl
 have e7:Φ_bb 7=dH:=rfl
 have e8:Φ_bb 8=mO:=rfl
 have e9:Φ_bb 9=mP:=rfl
 have hlt:more.length % 3<3:=Nat.mod_lt _ (by omega)
 have hmod:Int.tmod ((more.length:Nat):Int) 3=((more.length % 3:Nat):Int):=rfl
 generalize hk:more.length % 3=k at hlt hmod
 obtain⟨n,hn⟩:∃ n:Int,n=1+(k:Int):=⟨_,rfl⟩
 have hn3:1 ≤ n ∧ n ≤ 3:=by omega
 have hw1:IntKind.wrap .i64 (1+(k:Int))=n:=by rw[wrap64 (by omega) (by omega)];omega
 have hw2:IntKind.wrap .i64 (2*n)=2*n:=wrap64 (by omega) (by omega)
 have hw3:IntKind.wrap .i64 (2*n-1)=2*n-1:=wrap64 (by omega) (by omega)
 have hw4:IntKind.wrap .i64 (n-1)=n-1:=wrap64 (by omega) (by omega)
 have hT:lw n=true:=by
  have:=BJ
  simp only[Bool.and_eq_true]at this
  rcases (show n=1 ∨ n=2 ∨ n=3 by omega)with e|e|e<;>subst e<;>simp[this]
 unfold lw at hT
 simp only[Bool.and_eq_true,beq_iff_eq]at hT
 obtain⟨t1,t3⟩:=hT
 obtain⟨w0,h0⟩:=scarce_new hn3
 have o0:=bN h0
 have hnew:=im (rooms:=[2*n-1,3,3]) (by simp)
 have eB:tn n=wdo (wdo w0 ⟨1,0,0,[n,1,0]⟩) ⟨1,0,0,[n,0,1]⟩:=by unfold tn kN;rw[h0];rfl
 rw[h0]at hnew
 simp only[Wd.e,List.map_cons,List.map_nil,eI,Option.getD_some,Option.isSome_some,List.cons_append,List.nil_append]at hnew
 have d1:=bX o0 (e:=⟨1,0,0,[n,1,0]⟩) (by simp)
 have o1:=o0.do_ ⟨1,0,0,[n,1,0]⟩
 generalize wdo w0 ⟨1,0,0,[n,1,0]⟩=w1 at *
 have d2:=bX o1 (e:=⟨1,0,0,[n,0,1]⟩) (by simp)
 have o2:=o1.do_ ⟨1,0,0,[n,0,1]⟩
 generalize wdo w1 ⟨1,0,0,[n,0,1]⟩=w2 at *
 have c1:_=some (bu w2 9).e:=bA o2 (r:=9) (by omega)
 have oy:=o2.calm 9
 have ey:bu w2 9=lv n:=by unfold lv;rw[eB]
 rw[ey]at c1 oy
 generalize lv n=y at *
 have hdS':DkS ⟨y.dk.up,⟨y.dk.lg.rs,y.dk.lg.f⟩,y.dk.td⟩:=oy.dk.S
 have hdo':bH ⟨y.dk.up,⟨y.dk.lg.rs,y.dk.lg.f⟩,y.dk.td⟩=true:=deskOk_iff.2 oy.dk
 have hH:isH 1:=⟨by omega,by omega⟩
 obtain⟨g1,g2,g3⟩:=oy.houseAt hH
 have g1':y.hs[(0:Int).toNat]?=some (houseAt y 1):=g1
 obtain⟨b1,b2,_⟩:=oy.cells g1
 have hs:=g2.stOk true
 generalize houseAt y 1=z at *
 have hs':StOk ⟨(am ⟨z.id,z.up,z.room,⟨z.lg.rs,z.lg.f⟩⟩ true).room,(am ⟨z.id,z.up,z.room,⟨z.lg.rs,z.lg.f⟩⟩ true).hs⟩:=hs
 have hrow:∀ f:List C → Option Out,aI (.list (y.hs.map House.e)) (.int .i64 0) [.int .i64,.bool,.int .i64,.list,.int .i64] f=f z.e:=fun f=>dx (by omega) g1' rfl
 have t3':free ⟨(am ⟨z.id,z.up,z.room,⟨z.lg.rs,z.lg.f⟩⟩ true).room,(am ⟨z.id,z.up,z.room,⟨z.lg.rs,z.lg.f⟩⟩ true).hs⟩=n-1:=t3
 have tl:(ai y.dk.lg true).length=2:=by have:=congrArg List.length t1;simpa using this
 have tl':(((ai y.dk.lg true).length:Nat):Int)=2:=by omega
 simp only[Wd.e,List.map_cons,List.map_nil,eI]at c1 d1 d2
 simp (disch:=first|assumption|omega|(simp only[List.length_append,List.length_map,List.length_cons,List.length_nil];omega)) only[cA,bp,aO,aS,aC,aN,aD,aq,aE,aK,ap,ax,Cell.den,At.den,Prim.den,List.cons_append,List.nil_append,bU,aR,CK.of,cp,cr,Bool.decide_eq_true,hmod,hk,hw1,hw2,hw3,kP,e4,hnew,e5,d1,d2,e6,c1,e7,bi hdS',hdo',if_true,Int.reduceEq,reduceIte,zU,zT,aa,Bool.and_true,List.length_map,List.length_nil,List.length_cons,List.nil_append]
 rw[cD]
 simp only[ax,Cell.den,At.den,C.toInt_int]
 refine Eq.trans (congrArg ah (qm (l:=ai y.dk.lg true) (enc:=fun i (c:Int)=>[.int .i64 c,.int .i64 i]) (P:=fun i c=>c=if i=0 then 0 else 1) (s0:=0) (o:=.ret [.bool true]) rfl ?_ ?_)) rfl
 ·intro i b c hb hc
  have hi:=(List.getElem?_eq_some_iff.1 hb).1
  have hi':(i:Int)<2:=by omega
  have hst:([4,5]:List Int)[i]?=some b.s:=by rw[← t1,List.getElem?_map,hb];rfl
  rcases (show i=0 ∨ i=1 by omega)with e|e
  ·subst e
   have hs4:b.s=4:=by simpa using hst.symm
   have hc0:c=0:=hc
   subst hc0
   have hb0:∀ f:List C → Option Out,aI (.list ((ai y.dk.lg true).map Trip.e)) (.int .i64 ((0:Nat):Int)) [.list,.int .i64] f=f b.e:=fun f=>dS hb
   refine⟨1,?_,rfl⟩
   simp (disch:=first|assumption|omega|(simp only[List.length_append,List.length_map,List.length_cons,List.length_nil];omega)) only[cA,bp,aO,aS,aC,aN,aD,aq,aE,aK,ap,ax,Cell.den,At.den,Prim.den,List.cons_append,List.nil_append,bU,aR,CK.of,cp,cr,Bool.decide_eq_true,tl',hi',if_true,hb0,Trip.e,hs4,wrap64,Int.reduceEq,reduceIte,zU,zT,aa,Bool.and_true,List.length_map,List.length_nil,List.length_cons,List.nil_append]
   try rfl
  ·subst e
   have hs5:b.s=5:=by simpa using hst.symm
   have hs4:¬ (b.s=4):=by omega
   have hc0:c=1:=hc
   subst hc0
   refine⟨1,?_,rfl⟩
   simp (disch:=first|assumption|omega|(simp only[List.length_append,List.length_map,List.length_cons,List.length_nil];omega)) only[cA,bp,aO,aS,aC,aN,aD,aq,aE,aK,ap,ax,Cell.den,At.den,Prim.den,List.cons_append,List.nil_append,bU,aR,CK.of,cp,cr,Bool.decide_eq_true,tl',hi',if_true,dS hb,Trip.e,hs4,if_false,al,Int.reduceEq,reduceIte,zU,zT,aa,Bool.and_true,List.length_map,List.length_nil,List.length_cons,List.nil_append]
   try rfl
 ·intro c hc
  rw[tl]at hc ⊢
  have hc0:c=1:=hc
  subst hc0
  have h:¬ (((2:Nat):Int)<2):=by omega
  have y3:=oy.len
  have y0:(0:Int)<((y.hs.length:Nat):Int):=by omega
  simp (disch:=first|assumption|omega|(simp only[List.length_append,List.length_map,List.length_cons,List.length_nil];omega)) only[cA,bp,aO,aS,aC,aN,aD,aq,aE,aK,ap,ax,Cell.den,At.den,Prim.den,List.cons_append,List.nil_append,bU,aR,CK.of,cp,cr,Bool.decide_eq_true,tl',h,if_false,if_true,decide_true,y0,Bool.and_self,Int.le_refl,List.length_map,hrow,House.e,e8,gT b1.S,b2,Stock.e,e9,iY hs',t3',hw4,Int.reduceEq,reduceIte,zU,zT,aa,Bool.and_true,List.length_map,List.length_nil,List.length_cons,List.nil_append]
  try rfl
end
end Dx
namespace Dx
open Go Go.Proofs
def c_bb:Con:=⟨[.own false [.val] [.list] false,.own false [.val] [.list] false],[⟨false,[.val],[.bool],false⟩]⟩
def h_bb:How:=⟨aw [(0,⟨[kI,kI],[(15,(sI 0)),(16,(sI 1))],[],[],0⟩)],
 aw [],
 aw []⟩
theorem has_bb:Has Tryz.prog 9 c_bb φ_bb:=fp (R:=[]) (tr:=false) (E:=[(21,0,wc),(22,1,wd),(23,2,we),(17,3,qy),(27,4,F7),(28,5,yP),(16,6,tD),(24,7,wg),(26,8,Jl),(25,9,Jm)]) (Φ:=Φ_bb) (t:=t_bb) ⟨iI,iJ,iK,fF,uS,jF,gH,iL,Ai,Aj,trivial⟩ Tryz.f9 h_bb (by kernel_rfl)
end Dx
namespace Go.Proofs.YtmjkolpalcpgfaaGreat.fnWorldScarce
open Go.ChangeShapes Go.WideShapes Go.ChangeAt Go.RowKit Dx
set_option linter.unusedVariables false
set_option maxRecDepth 100000
theorem own:ownKnob Tryz.prog.godebug=none:=by kernel_rfl
theorem params:Tryz.f9.params=#[22,22]:=by kernel_rfl
theorem results:Tryz.f9.resultTypes=#[4]:=by kernel_rfl
theorem t22:Tryz.prog.underlying 22=some (.slice 5):=by kernel_rfl
theorem t5:Tryz.prog.underlying 5=some (.int .u8):=by kernel_rfl
theorem t4:Tryz.prog.underlying 4=some .bool:=by kernel_rfl
theorem c5:Tryz.prog.cellsOf 5=1:=by kernel_rfl
theorem func:Tryz.prog.funcs[9]?=some Tryz.f9:=by kernel_rfl
theorem contract(H:Type)(enc:TypeId×Value → H)(W:World)(base:Nat)(args:Array Value)(ds gs:List (DataW H))(before:List MemPlace)
  (hval:∀(j:Nat) t v,Tryz.f9.params[j]?=some t → args[j]?=some v → Value.okWide Tryz.prog W .any base t v)
  (hW:DataW.Whole enc Tryz.prog Tryz.f9.params.toList Rows.fnWorldScarceSpec.vars false W args.toList ds gs before) :
  Calls Tryz.prog 9 args W fun e W'=>∃ v,e=.returned v ∧ Rows.fnWorldScarceSpec.post enc Tryz.prog Tryz.f9 false true false false W args v W':=by
 have hW':=hW
 obtain⟨p,q,hA0,hV,rfl,hfz,hnd⟩:=hW
 have hA:DataW.TrodAll enc Tryz.prog W 0 (fun _=>true) true Tryz.f9.params.toList args.toList ds p:=hA0
 rw[params]at hA hval
 obtain⟨v0,vs0,d0,ds0,p0,q0,hargs,rfl,rfl,h0,r0⟩:=trodAll_cons hA
 obtain⟨v1,vs1,d1,ds1,p1,q1,rfl,rfl,rfl,h1,r1⟩:=trodAll_cons r0
 obtain⟨rfl,rfl,rfl⟩:=trodAll_nil r1
 obtain rfl:args=#[v0,v1]:=by cases args;simp_all
 obtain⟨rfl,rfl⟩:=trodVars_none hV
 obtain⟨code,hb,hrep,hd,hshut⟩:=bx t22 t5 c5 (hval 0 22 v0 rfl rfl) h0
 obtain⟨more,hb1,hrep1,hd1,hshut1⟩:=bx t22 t5 c5 (hval 1 22 v1 rfl rfl) h1
 have hlaw:φ_bb [.list (code.map cB),.list (more.map cB)]=some [.bool true]:=by
  by_cases h:code.length ≤ 1048576
  ·exact law_WorldScarce (by omega) hb
  ·unfold φ_bb t_bb
   exact vg (by rw[List.length_map];omega)
 refine(cz (vs:=[v0,v1]) has_bb (by simp[dZ]) ⟨[.list (code.map cB)],[.list (more.map cB)],v0,[v1],[],[],rfl,rfl,rfl,ct hrep,[.list (more.map cB)],[],v1,[],[],[],rfl,rfl,rfl,ct hrep1,rfl,rfl,rfl⟩ hlaw).mono ?_
 rintro e W' ⟨rfl,g1,g2,g3⟩
 refine⟨_,rfl,[d0,d1],[],p0++p1,[],p0++p1,[],by simpa using hW',trodAll_cons_mk (shut_bool t4 _) trodAll_mk0,?_,rfl,dQ g1 g2 g3 _,fun h=>by cases h⟩
 rw[params]
 have:=trodAll_cons_mk (hshut W' g3) (trodAll_cons_mk (hshut1 W' g3) (trodAll_mk0 (enc:=enc) (P:=Tryz.prog) (w:=W') (base:=0) (spare:=fun b=>decide (b<W.heap.size)) (held:=true)))
 rw[List.append_nil]at this
 exact this
set_option maxRecDepth 100000 in
theorem lifted(os:Os)(started:os.Started)(H:Type)(enc:TypeId×Value → H) :
  ReturnsInHanded {} Tryz.checked os 9 .any (Rows.fnWorldScarceSpec.pre6 enc Tryz.prog Tryz.f9 Rows.fnWorldScarceRow.domain false) (Rows.fnWorldScarceSpec.post enc Tryz.prog Tryz.f9 false true false false):=by
 refine returnsInHanded_of_change (C:=Tryz.checked) own started (by kernel_rfl) func
  (ChangeSpec.witness6 (enc:=enc) (C:=Tryz.checked) false ⟨#[],#[.slice none 0 0,.slice none 0 0],[]⟩ 8 (by kernel_rfl) (by kernel_rfl) (by kernel_rfl) (by kernel_rfl)) ?_
 intro W base args ds gs before hval hW _ _
 exact contract H enc W base args ds gs before hval hW
theorem proved:Rows.FnWorldScarceSaid :=
 OpenClaim.holds_of_wide 9 Tryz.f9 rfl rfl rfl rfl rfl rfl rfl ⟨rfl,rfl,rfl,rfl,rfl⟩ rfl rfl rfl rfl rfl (by kernel_rfl) func (by kernel_rfl)
  (of_decide_eq_true (by kernel_rfl)) (by unfold Func.isWrapper;first|(rw[if_pos (by decide +kernel)];kernel_rfl)|(rw[if_neg (by decide +kernel)];exact⟨rfl,rfl⟩))
  (fun os started H enc _=>lifted os started H enc)
#print axioms proved
end Go.Proofs.YtmjkolpalcpgfaaGreat.fnWorldScarce
