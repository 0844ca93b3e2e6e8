/- PROVED: Rows.FnWorldOrderSaid: whatever the input, laws.FnWorldOrder returns true, and its arguments read as they did. No condition beyond the statement's own. -/
import Derived.Test.YtmjkolpalcpgfaaGreatZb
import Derived.Test.YtmjkolpalcpgfaaGreatHa
import Derived.Test.YtmjkolpalcpgfaaGreatJa
import Derived.Test.YtmjkolpalcpgfaaGreatRows
set_option linter.all false
namespace Dx
open Go Go.Proofs
def t_bc:Tree :=
 dN<|
 .letp .len [⟨.list,(.v 1)⟩]<|
 .letp (.rem .i64) [⟨(.int .i64),(.v 26)⟩,⟨(.int .i64),(.n 3)⟩]<|
 .letp (.add .i64) [⟨(.int .i64),(.n 1)⟩,⟨(.int .i64),(.v 27)⟩]<|
 .letp (.mkl 1) [⟨(.int .i64),(.v 28)⟩,⟨(.int .i64),(.n 0)⟩,⟨(.int .i64),(.n 0)⟩]<|
 .letp (.mkl 1) [⟨(.int .i64),(.n 0)⟩,⟨(.int .i64),(.v 28)⟩,⟨(.int .i64),(.n 1)⟩]<|
 .letp (.mkl 1) [⟨.list,(.v 29)⟩,⟨.list,(.v 30)⟩]<|
 .letp (.mkl 1) [⟨.list,(.v 30)⟩,⟨.list,(.v 29)⟩]<|
 .letp (.mkl 1) [⟨.list,(.v 31)⟩,⟨.list,(.v 32)⟩]<|
 .iter [⟨(.int .i64),(.n 0)⟩]<|
 .letp .len [⟨.list,(.v 33)⟩]<|
 .letp .ltI [⟨(.int .i64),(.v 34)⟩,⟨(.int .i64),(.v 35)⟩]<|
 .ite (.v 36) (
 .letp (.mkl 1) [⟨(.int .i64),(.v 28)⟩,⟨(.int .i64),(.v 28)⟩,⟨(.int .i64),(.n 1)⟩]<|
 .call 4 [⟨.list,(.v 37)⟩] [.bool,.list,(.int .i64),.list,.list,.list,.bool]<|
 .join [.bool,.list,(.int .i64),.list,.list,.list] (
 .chk .idx [⟨(.int .i64),(.v 34)⟩,⟨.list,(.v 33)⟩]<|
 .row (.v 33) (.v 34) [.list]<|
 .row (.v 45) (.n 0) [.list]<|
 .call 5 [⟨.bool,(.v 38)⟩,⟨.list,(.v 39)⟩,⟨(.int .i64),(.v 40)⟩,⟨.list,(.v 41)⟩,⟨.list,(.v 42)⟩,⟨.list,(.v 43)⟩,⟨(.int .i64),(.n 1)⟩,⟨(.int .i64),(.n 0)⟩,⟨(.int .i64),(.n 0)⟩,⟨.list,(.v 46)⟩] [.bool,.list,(.int .i64),.list,.list,.list]<|
 .jump [⟨.bool,(.v 47)⟩,⟨.list,(.v 48)⟩,⟨(.int .i64),(.v 49)⟩,⟨.list,(.v 50)⟩,⟨.list,(.v 51)⟩,⟨.list,(.v 52)⟩])<|
 .join [.bool,.list,(.int .i64),.list,.list,.list] (
 .chk .idx [⟨(.int .i64),(.v 34)⟩,⟨.list,(.v 33)⟩]<|
 .row (.v 33) (.v 34) [.list]<|
 .row (.v 51) (.n 1) [.list]<|
 .call 5 [⟨.bool,(.v 45)⟩,⟨.list,(.v 46)⟩,⟨(.int .i64),(.v 47)⟩,⟨.list,(.v 48)⟩,⟨.list,(.v 49)⟩,⟨.list,(.v 50)⟩,⟨(.int .i64),(.n 1)⟩,⟨(.int .i64),(.n 0)⟩,⟨(.int .i64),(.n 0)⟩,⟨.list,(.v 52)⟩] [.bool,.list,(.int .i64),.list,.list,.list]<|
 .jump [⟨.bool,(.v 53)⟩,⟨.list,(.v 54)⟩,⟨(.int .i64),(.v 55)⟩,⟨.list,(.v 56)⟩,⟨.list,(.v 57)⟩,⟨.list,(.v 58)⟩])<|
 .call 6 [⟨.bool,(.v 51)⟩,⟨.list,(.v 52)⟩,⟨(.int .i64),(.v 53)⟩,⟨.list,(.v 54)⟩,⟨.list,(.v 55)⟩,⟨.list,(.v 56)⟩,⟨(.int .i64),(.n 9)⟩] [.bool,.list,(.int .i64),.list,.list,.list]<|
 .call 7 [⟨.bool,(.v 57)⟩,⟨.list,(.v 58)⟩,⟨(.int .i64),(.v 59)⟩,⟨.list,(.v 60)⟩,⟨.bool,(.b true)⟩] [.list]<|
 .letp .len [⟨.list,(.v 63)⟩]<|
 .letp .neI [⟨(.int .i64),(.v 64)⟩,⟨(.int .i64),(.n 2)⟩]<|
 .ite (.v 65) (
 .up<|
 .ret [⟨.bool,(.b false)⟩])<|
 .row (.v 63) (.n 0) [.list,(.int .i64)]<|
 .letp .neI [⟨(.int .i64),(.v 67)⟩,⟨(.int .i64),(.n 4)⟩]<|
 .ite (.v 68) (
 .up<|
 .ret [⟨.bool,(.b false)⟩])<|
 .row (.v 63) (.n 1) [.list,(.int .i64)]<|
 .letp .neI [⟨(.int .i64),(.v 70)⟩,⟨(.int .i64),(.n 4)⟩]<|
 .ite (.v 71) (
 .up<|
 .ret [⟨.bool,(.b false)⟩])<|
 .letp (.add .i64) [⟨(.int .i64),(.v 34)⟩,⟨(.int .i64),(.n 1)⟩]<|
 .jump [⟨(.int .i64),(.v 72)⟩])<|
 .up<|
 .ret [⟨.bool,(.b true)⟩]
noncomputable def Φ_bc:Phi:=fun n=>match n with
 | 0=>gZ
 | 1=>g0
 | 2=>hD
 | 3=>cY
 | 4=>jk
 | 5=>dI
 | 6=>db
 | 7=>dH
 | _=>fun _=>none
noncomputable def φ_bc(cs:List C):Option (List C):=ah (den Φ_bc t_bc cs)
end Dx
namespace Dx
open Go
section
variable {code more:List Int}
theorem rowL0(x y:List (List C))(f:List C → Option Out):aI (.list [[.list x],[.list y]]) (.int .i64 0) [.list] f=f [.list x]:=rfl
theorem rowL1(x y:List (List C))(f:List C → Option Out):aI (.list [[.list x],[.list y]]) (.int .i64 1) [.list] f=f [.list y]:=rfl
theorem order_new{n:Int}(h:1 ≤ n ∧ n ≤ 3):∃ w,aT [n,n,1]=some w:=by
 have:[n,n,1].length=3 ∧ [n,n,1].all (fun n=>in_ n 0 9)=true:=by
  refine⟨rfl,?_⟩
  simp only[List.all_cons,List.all_nil,Bool.and_true,Bool.and_eq_true,in_iff]
  omega
 exact⟨_,if_pos this⟩
theorem law_WorldOrder(hl:code.length ≤ 1099511627776)(hc:fQ code):φ_bc [.list (code.map eB),.list (more.map eB)]=some [.bool true]:=by
 unfold φ_bc t_bc
 refine da rfl rfl rfl rfl hl hc fun rooms es w hm hw hr hel hes=>?_
 have e4:Φ_bc 4=jk:=rfl
 have e5:Φ_bc 5=dI:=rfl
 have e6:Φ_bc 6=db:=rfl
 have e7:Φ_bc 7=dH:=rfl
 have hlt:more.length % 3<3:=Nat.mod_lt _ (by omega)
 have hmod:Int.tmod ((more.length:Nat):Int) 3=((more.length % 3:Nat):Int):=rfl
 generalize hk:more.length % 3=k at hlt hmod
 obtain⟨n,hn⟩:∃ n:Int,n=1+(k:Int):=⟨_,rfl⟩
 have hn3:1 ≤ n ∧ n ≤ 3:=by omega
 have hw1:IntKind.wrap .i64 (1+(k:Int))=n:=by rw[wrap64 (by omega) (by omega)];omega
 have hT:qi n=true:=by
  have:=CZ
  simp only[Bool.and_eq_true]at this
  rcases (show n=1 ∨ n=2 ∨ n=3 by omega)with e|e|e<;>subst e<;>simp[this]
 unfold qi at hT
 simp only[Bool.and_eq_true,beq_iff_eq]at hT
 obtain⟨t1,t2⟩:=hT
 have hA:∃ a b:List Int,a=[n,0,0] ∧ b=[0,n,1]:=⟨_,_,rfl,rfl⟩
 obtain⟨A,B,eA,eB⟩:=hA
 rw[← eA,← eB]at t1 t2
 obtain⟨w0,h0⟩:=order_new hn3
 have o0:=bN h0
 have hnew:=im (rooms:=[n,n,1]) (by simp)
 rw[h0]at hnew
 simp only[Wd.e,List.map_cons,List.map_nil,eI,Option.getD_some,Option.isSome_some,List.cons_append,List.nil_append]at hnew
 have one:∀ a b:List Int,a.length ≤ 3 → b.length ≤ 3 → (ai (m9 n a b).dk.lg true).map (·.s)=[4,4] → ∃ w1 w2 y:Wd,
   dI (w0.e++[.int .i64 1,.int .i64 0,.int .i64 0,.list (a.map eI)])=some w1.e ∧ dI (w1.e++[.int .i64 1,.int .i64 0,.int .i64 0,.list (b.map eI)])=some w2.e ∧
   db (w2.e++[.int .i64 9])=some y.e ∧ ∃ t u:Trip,dH (y.dk.e++[.bool true])=some [.list [t.e,u.e]] ∧ t.s=4 ∧ u.s=4:=by
  intro a b ha hb hT
  have d1:=bX o0 (e:=⟨1,0,0,a⟩) (by simp only;omega)
  have o1:=o0.do_ ⟨1,0,0,a⟩
  have d2:=bX o1 (e:=⟨1,0,0,b⟩) (by simp only;omega)
  have o2:=o1.do_ ⟨1,0,0,b⟩
  have c1:_=some (bu (wdo (wdo w0 ⟨1,0,0,a⟩) ⟨1,0,0,b⟩) 9).e:=bA o2 (r:=9) (by omega)
  have oy:=o2.calm 9
  have ey:bu (wdo (wdo w0 ⟨1,0,0,a⟩) ⟨1,0,0,b⟩) 9=m9 n a b:=by unfold m9 DO kN;rw[h0];rfl
  rw[ey]at c1 oy
  generalize m9 n a b=y at c1 oy hT
  refine⟨_,_,y,d1,d2,c1,?_⟩
  have hdo:bH ⟨y.dk.up,⟨y.dk.lg.rs,y.dk.lg.f⟩,y.dk.td⟩=true:=deskOk_iff.2 oy.dk
  have hdt:=bi (b:=true) (up:=y.dk.up) (rs:=y.dk.lg.rs) (f:=y.dk.lg.f) (td:=y.dk.td) oy.dk.S
  rw[if_pos hdo]at hdt
  have hl2:(ai y.dk.lg true).length=2:=by have:=congrArg List.length hT;simpa using this
  match hq:ai y.dk.lg true,hl2 with
  | [t,u],_ =>
   rw[hq]at hT
   simp only[List.map_cons,List.map_nil,List.cons.injEq,and_true]at hT
   refine⟨t,u,?_,hT.1,hT.2⟩
   have e1:ai ⟨y.dk.lg.rs,y.dk.lg.f⟩ true=[t,u]:=hq
   rw[e1]at hdt
   exact hdt
 obtain⟨a1,a2,a3,p1,p2,p3,p,q,p4,p5,p6⟩:=one A B (by rw[eA];simp) (by rw[eB];simp) t1
 obtain⟨b1,b2,b3,q1,q2,q3,p',q',q4,q5,q6⟩:=one B A (by rw[eB];simp) (by rw[eA];simp) t2
 clear t1 t2 one
 subst eA eB
 simp only[Wd.e,Desk.e,List.cons_append,List.nil_append,List.map_cons,List.map_nil,eI,Trip.e]at p1 p2 p3 p4 q1 q2 q3 q4
 have r0:∀(x:List (List C)) (s:Int) (y:List C) (f:List C → Option Out),aI (.list [[.list x,.int .i64 s],y]) (.int .i64 0) [.list,.int .i64] f=f [.list x,.int .i64 s]:=fun x s y f=>rfl
 have r1:∀(x:List C) (y:List (List C)) (s:Int) (f:List C → Option Out),aI (.list [x,[.list y,.int .i64 s]]) (.int .i64 1) [.list,.int .i64] f=f [.list y,.int .i64 s]:=fun x y s f=>rfl
 simp (disch:=first|assumption|omega|(simp only[List.length_append,List.length_map,List.length_cons,List.length_nil];omega)) only[cA,bp,aO,aS,aC,aN,aD,aq,aE,aK,ap,ax,Cell.den,At.den,Prim.den,List.cons_append,List.nil_append,bU,aR,CK.of,cp,cr,Bool.decide_eq_true,hmod,hk,hw1,kP,z6,Int.reduceEq,reduceIte,zU,zT,aa,Bool.and_true,List.length_map,List.length_nil,List.length_cons,List.nil_append]
 rw[cD]
 simp only[ax,Cell.den,At.den,C.toInt_int]
 refine Eq.trans (congrArg ah (Eq.trans (fD (q:=[.int .i64 1]) ?_) (Eq.trans (fD (q:=[.int .i64 2]) ?_) (tB (o:=.ret [.bool true]) ?_)))) rfl
 ·simp (disch:=first|assumption|omega|(simp only[List.length_append,List.length_map,List.length_cons,List.length_nil];omega)) only[cA,bp,aO,aS,aC,aN,aD,aq,aE,aK,ap,ax,Cell.den,At.den,Prim.den,List.cons_append,List.nil_append,bU,aR,CK.of,cp,cr,Bool.decide_eq_true,kP,z6,e4,hnew,e5,e6,e7,rowL0,rowL1,p1,p2,p3,p4,p5,p6,r0,r1,Int.reduceLT,if_true,if_false,wrap64,Int.reduceEq,reduceIte,zU,zT,aa,Bool.and_true,List.length_map,List.length_nil,List.length_cons,List.nil_append]
  try rfl
 ·simp (disch:=first|assumption|omega|(simp only[List.length_append,List.length_map,List.length_cons,List.length_nil];omega)) only[cA,bp,aO,aS,aC,aN,aD,aq,aE,aK,ap,ax,Cell.den,At.den,Prim.den,List.cons_append,List.nil_append,bU,aR,CK.of,cp,cr,Bool.decide_eq_true,kP,z6,e4,hnew,e5,e6,e7,rowL0,rowL1,q1,q2,q3,q4,q5,q6,r0,r1,Int.reduceLT,if_true,if_false,wrap64,Int.reduceEq,reduceIte,zU,zT,aa,Bool.and_true,List.length_map,List.length_nil,List.length_cons,List.nil_append]
  try rfl
 ·simp (disch:=first|assumption|omega|(simp only[List.length_append,List.length_map,List.length_cons,List.length_nil];omega)) only[cA,bp,aO,aS,aC,aN,aD,aq,aE,aK,ap,ax,Cell.den,At.den,Prim.den,List.cons_append,List.nil_append,bU,aR,CK.of,cp,cr,Bool.decide_eq_true,Int.reduceLT,if_false,Int.reduceEq,reduceIte,zU,zT,aa,Bool.and_true,List.length_map,List.length_nil,List.length_cons,List.nil_append]
  try rfl
end
end Dx
namespace Dx
open Go Go.Proofs
def c_bc:Con:=⟨[.own false [.val] [.list] false,.own false [.val] [.list] false],[⟨false,[.val],[.bool],false⟩]⟩
def h_bc:How:=⟨aw [(0,⟨[kI],[(4,(.bool (.b false))),(15,(sI 0))],[],[],0⟩)],
 aw [(18,⟨kW,[],[(11,.cells [(.bool (.v 0)),(.view true (.v 1)),(sI 2),(.view true (.v 3)),(.view true (.v 4)),(.view true (.v 5))])],[],0⟩),(17,⟨kW,[],[(11,.cells [(.bool (.v 0)),(.view true (.v 1)),(sI 2),(.view true (.v 3)),(.view true (.v 4)),(.view true (.v 5))])],[],0⟩)],
 aw []⟩
theorem has_bc:Has Tryz.prog 6 c_bc φ_bc:=fp (R:=[]) (tr:=false) (E:=[(21,0,wc),(22,1,wd),(23,2,we),(17,3,qy),(27,4,F7),(28,5,yP),(16,6,tD),(24,7,wg)]) (Φ:=Φ_bc) (t:=t_bc) ⟨iI,iJ,iK,fF,uS,jF,gH,iL,trivial⟩ Tryz.f6 h_bc (by kernel_rfl)
end Dx
namespace Go.Proofs.YtmjkolpalcpgfaaGreat.fnWorldOrder
open Go.ChangeShapes Go.WideShapes Go.ChangeAt Go.RowKit Dx
set_option linter.unusedVariables false
set_option maxRecDepth 100000
theorem own:ownKnob Tryz.prog.godebug=none:=by kernel_rfl
theorem params:Tryz.f6.params=#[22,22]:=by kernel_rfl
theorem results:Tryz.f6.resultTypes=#[4]:=by kernel_rfl
theorem t22:Tryz.prog.underlying 22=some (.slice 5):=by kernel_rfl
theorem t5:Tryz.prog.underlying 5=some (.int .u8):=by kernel_rfl
theorem t4:Tryz.prog.underlying 4=some .bool:=by kernel_rfl
theorem c5:Tryz.prog.cellsOf 5=1:=by kernel_rfl
theorem func:Tryz.prog.funcs[6]?=some Tryz.f6:=by kernel_rfl
theorem contract(H:Type)(enc:TypeId×Value → H)(W:World)(base:Nat)(args:Array Value)(ds gs:List (DataW H))(before:List MemPlace)
  (hval:∀(j:Nat) t v,Tryz.f6.params[j]?=some t → args[j]?=some v → Value.okWide Tryz.prog W .any base t v)
  (hW:DataW.Whole enc Tryz.prog Tryz.f6.params.toList Rows.fnWorldOrderSpec.vars false W args.toList ds gs before) :
  Calls Tryz.prog 6 args W fun e W'=>∃ v,e=.returned v ∧ Rows.fnWorldOrderSpec.post enc Tryz.prog Tryz.f6 false true false false W args v W':=by
 have hW':=hW
 obtain⟨p,q,hA0,hV,rfl,hfz,hnd⟩:=hW
 have hA:DataW.TrodAll enc Tryz.prog W 0 (fun _=>true) true Tryz.f6.params.toList args.toList ds p:=hA0
 rw[params]at hA hval
 obtain⟨v0,vs0,d0,ds0,p0,q0,hargs,rfl,rfl,h0,r0⟩:=trodAll_cons hA
 obtain⟨v1,vs1,d1,ds1,p1,q1,rfl,rfl,rfl,h1,r1⟩:=trodAll_cons r0
 obtain⟨rfl,rfl,rfl⟩:=trodAll_nil r1
 obtain rfl:args=#[v0,v1]:=by cases args;simp_all
 obtain⟨rfl,rfl⟩:=trodVars_none hV
 obtain⟨code,hb,hrep,hd,hshut⟩:=bx t22 t5 c5 (hval 0 22 v0 rfl rfl) h0
 obtain⟨more,hb1,hrep1,hd1,hshut1⟩:=bx t22 t5 c5 (hval 1 22 v1 rfl rfl) h1
 have hlaw:φ_bc [.list (code.map cB),.list (more.map cB)]=some [.bool true]:=by
  by_cases h:code.length ≤ 1048576
  ·exact law_WorldOrder (by omega) hb
  ·unfold φ_bc t_bc
   exact vg (by rw[List.length_map];omega)
 refine(cz (vs:=[v0,v1]) has_bc (by simp[dZ]) ⟨[.list (code.map cB)],[.list (more.map cB)],v0,[v1],[],[],rfl,rfl,rfl,ct hrep,[.list (more.map cB)],[],v1,[],[],[],rfl,rfl,rfl,ct hrep1,rfl,rfl,rfl⟩ hlaw).mono ?_
 rintro e W' ⟨rfl,g1,g2,g3⟩
 refine⟨_,rfl,[d0,d1],[],p0++p1,[],p0++p1,[],by simpa using hW',trodAll_cons_mk (shut_bool t4 _) trodAll_mk0,?_,rfl,dQ g1 g2 g3 _,fun h=>by cases h⟩
 rw[params]
 have:=trodAll_cons_mk (hshut W' g3) (trodAll_cons_mk (hshut1 W' g3) (trodAll_mk0 (enc:=enc) (P:=Tryz.prog) (w:=W') (base:=0) (spare:=fun b=>decide (b<W.heap.size)) (held:=true)))
 rw[List.append_nil]at this
 exact this
set_option maxRecDepth 100000 in
theorem lifted(os:Os)(started:os.Started)(H:Type)(enc:TypeId×Value → H) :
  ReturnsInHanded {} Tryz.checked os 6 .any (Rows.fnWorldOrderSpec.pre6 enc Tryz.prog Tryz.f6 Rows.fnWorldOrderRow.domain false) (Rows.fnWorldOrderSpec.post enc Tryz.prog Tryz.f6 false true false false):=by
 refine returnsInHanded_of_change (C:=Tryz.checked) own started (by kernel_rfl) func
  (ChangeSpec.witness6 (enc:=enc) (C:=Tryz.checked) false ⟨#[],#[.slice none 0 0,.slice none 0 0],[]⟩ 8 (by kernel_rfl) (by kernel_rfl) (by kernel_rfl) (by kernel_rfl)) ?_
 intro W base args ds gs before hval hW _ _
 exact contract H enc W base args ds gs before hval hW
theorem proved:Rows.FnWorldOrderSaid :=
 OpenClaim.holds_of_wide 6 Tryz.f6 rfl rfl rfl rfl rfl rfl rfl ⟨rfl,rfl,rfl,rfl,rfl⟩ rfl rfl rfl rfl rfl (by kernel_rfl) func (by kernel_rfl)
  (of_decide_eq_true (by kernel_rfl)) (by unfold Func.isWrapper;first|(rw[if_pos (by decide +kernel)];kernel_rfl)|(rw[if_neg (by decide +kernel)];exact⟨rfl,rfl⟩))
  (fun os started H enc _=>lifted os started H enc)
#print axioms proved
end Go.Proofs.YtmjkolpalcpgfaaGreat.fnWorldOrder
