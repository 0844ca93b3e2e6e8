/- PROVED: Rows.FnWorldSaySaid: whatever the input, laws.FnWorldSay returns true, and its arguments read as they did. No condition beyond the statement's own. -/
import Derived.Test.YtahfbeiobndhkaaGreatZb
import Derived.Test.YtahfbeiobndhkaaGreatHa
import Derived.Test.YtahfbeiobndhkaaGreatJa
import Derived.Test.YtahfbeiobndhkaaGreatRows
set_option linter.all false
namespace Dx
open Go Go.Proofs
def t_bn:Tree :=
 .letp .len [⟨.list,(.v 0)⟩]<|
 .letp .gtI [⟨(.int .i64),(.v 1)⟩,⟨(.int .i64),(.n 1048576)⟩]<|
 .ite (.v 2) (
 .ret [⟨.bool,(.b true)⟩])<|
 .call 0 [⟨.list,(.v 0)⟩] [.bool,.list,(.int .i64),.list,.list,.list,(.int .i64),(.int .i64),(.int .i64),.list]<|
 .call 1 [⟨.bool,(.v 3)⟩,⟨.list,(.v 4)⟩,⟨(.int .i64),(.v 5)⟩,⟨.list,(.v 6)⟩,⟨.list,(.v 7)⟩,⟨.list,(.v 8)⟩,⟨(.int .i64),(.v 9)⟩,⟨(.int .i64),(.v 10)⟩,⟨(.int .i64),(.v 11)⟩,⟨.list,(.v 12)⟩] [.bool,.list,(.int .i64),.list,.list,.list]<|
 .call 2 [⟨.bool,(.v 3)⟩,⟨.list,(.v 4)⟩,⟨(.int .i64),(.v 5)⟩,⟨.list,(.v 6)⟩,⟨.list,(.v 7)⟩,⟨.list,(.v 8)⟩,⟨(.int .i64),(.v 9)⟩,⟨(.int .i64),(.v 10)⟩,⟨(.int .i64),(.v 11)⟩,⟨.list,(.v 12)⟩] [.bool,.list,(.int .i64),.list,.list,.list]<|
 .call 3 [⟨.bool,(.v 13)⟩,⟨.list,(.v 14)⟩,⟨(.int .i64),(.v 15)⟩,⟨.list,(.v 16)⟩,⟨.list,(.v 17)⟩,⟨.list,(.v 18)⟩,⟨.bool,(.v 19)⟩,⟨.list,(.v 20)⟩,⟨(.int .i64),(.v 21)⟩,⟨.list,(.v 22)⟩,⟨.list,(.v 23)⟩,⟨.list,(.v 24)⟩] [.bool]<|
 .letp .not [⟨.bool,(.v 25)⟩]<|
 .ite (.v 26) (
 .call 2 [⟨.bool,(.v 3)⟩,⟨.list,(.v 4)⟩,⟨(.int .i64),(.v 5)⟩,⟨.list,(.v 6)⟩,⟨.list,(.v 7)⟩,⟨.list,(.v 8)⟩,⟨(.int .i64),(.v 9)⟩,⟨(.int .i64),(.v 10)⟩,⟨(.int .i64),(.v 11)⟩,⟨.list,(.v 12)⟩] [.bool,.list,(.int .i64),.list,.list,.list]<|
 .call 3 [⟨.bool,(.v 13)⟩,⟨.list,(.v 14)⟩,⟨(.int .i64),(.v 15)⟩,⟨.list,(.v 16)⟩,⟨.list,(.v 17)⟩,⟨.list,(.v 18)⟩,⟨.bool,(.v 27)⟩,⟨.list,(.v 28)⟩,⟨(.int .i64),(.v 29)⟩,⟨.list,(.v 30)⟩,⟨.list,(.v 31)⟩,⟨.list,(.v 32)⟩] [.bool]<|
 .ret [⟨.bool,(.v 33)⟩])<|
 .call 4 [⟨.bool,(.v 3)⟩,⟨.list,(.v 4)⟩,⟨(.int .i64),(.v 5)⟩,⟨.list,(.v 6)⟩,⟨.list,(.v 7)⟩,⟨.list,(.v 8)⟩] [.bool]<|
 .letp .not [⟨.bool,(.v 27)⟩]<|
 .ite (.v 28) (
 .call 2 [⟨.bool,(.v 3)⟩,⟨.list,(.v 4)⟩,⟨(.int .i64),(.v 5)⟩,⟨.list,(.v 6)⟩,⟨.list,(.v 7)⟩,⟨.list,(.v 8)⟩,⟨(.int .i64),(.v 9)⟩,⟨(.int .i64),(.v 10)⟩,⟨(.int .i64),(.v 11)⟩,⟨.list,(.v 12)⟩] [.bool,.list,(.int .i64),.list,.list,.list]<|
 .call 3 [⟨.bool,(.v 13)⟩,⟨.list,(.v 14)⟩,⟨(.int .i64),(.v 15)⟩,⟨.list,(.v 16)⟩,⟨.list,(.v 17)⟩,⟨.list,(.v 18)⟩,⟨.bool,(.v 29)⟩,⟨.list,(.v 30)⟩,⟨(.int .i64),(.v 31)⟩,⟨.list,(.v 32)⟩,⟨.list,(.v 33)⟩,⟨.list,(.v 34)⟩] [.bool]<|
 .ret [⟨.bool,(.v 35)⟩])<|
 .letp .neI [⟨(.int .i64),(.v 9)⟩,⟨(.int .i64),(.n 3)⟩]<|
 .ite (.v 29) (
 .call 2 [⟨.bool,(.v 3)⟩,⟨.list,(.v 4)⟩,⟨(.int .i64),(.v 5)⟩,⟨.list,(.v 6)⟩,⟨.list,(.v 7)⟩,⟨.list,(.v 8)⟩,⟨(.int .i64),(.v 9)⟩,⟨(.int .i64),(.v 10)⟩,⟨(.int .i64),(.v 11)⟩,⟨.list,(.v 12)⟩] [.bool,.list,(.int .i64),.list,.list,.list]<|
 .call 3 [⟨.bool,(.v 13)⟩,⟨.list,(.v 14)⟩,⟨(.int .i64),(.v 15)⟩,⟨.list,(.v 16)⟩,⟨.list,(.v 17)⟩,⟨.list,(.v 18)⟩,⟨.bool,(.v 30)⟩,⟨.list,(.v 31)⟩,⟨(.int .i64),(.v 32)⟩,⟨.list,(.v 33)⟩,⟨.list,(.v 34)⟩,⟨.list,(.v 35)⟩] [.bool]<|
 .ret [⟨.bool,(.v 36)⟩])<|
 .call 5 [⟨.bool,(.v 3)⟩,⟨.list,(.v 4)⟩,⟨(.int .i64),(.v 5)⟩,⟨.list,(.v 6)⟩] [.list]<|
 .letp .len [⟨.list,(.v 8)⟩]<|
 .letp .ltI [⟨(.int .i64),(.v 10)⟩,⟨(.int .i64),(.n 0)⟩]<|
 .ite (.v 32) (
 .call 3 [⟨.bool,(.v 13)⟩,⟨.list,(.v 14)⟩,⟨(.int .i64),(.v 15)⟩,⟨.list,(.v 16)⟩,⟨.list,(.v 17)⟩,⟨.list,(.v 18)⟩,⟨.bool,(.v 3)⟩,⟨.list,(.v 4)⟩,⟨(.int .i64),(.v 5)⟩,⟨.list,(.v 6)⟩,⟨.list,(.v 7)⟩,⟨.list,(.v 8)⟩] [.bool]<|
 .ret [⟨.bool,(.v 33)⟩])<|
 .letp .len [⟨.list,(.v 30)⟩]<|
 .letp .geI [⟨(.int .i64),(.v 10)⟩,⟨(.int .i64),(.v 33)⟩]<|
 .ite (.v 34) (
 .call 3 [⟨.bool,(.v 13)⟩,⟨.list,(.v 14)⟩,⟨(.int .i64),(.v 15)⟩,⟨.list,(.v 16)⟩,⟨.list,(.v 17)⟩,⟨.list,(.v 18)⟩,⟨.bool,(.v 3)⟩,⟨.list,(.v 4)⟩,⟨(.int .i64),(.v 5)⟩,⟨.list,(.v 6)⟩,⟨.list,(.v 7)⟩,⟨.list,(.v 8)⟩] [.bool]<|
 .ret [⟨.bool,(.v 35)⟩])<|
 .letp .eqI [⟨(.int .i64),(.v 31)⟩,⟨(.int .i64),(.n 14)⟩]<|
 .ite (.v 35) (
 .call 3 [⟨.bool,(.v 13)⟩,⟨.list,(.v 14)⟩,⟨(.int .i64),(.v 15)⟩,⟨.list,(.v 16)⟩,⟨.list,(.v 17)⟩,⟨.list,(.v 18)⟩,⟨.bool,(.v 3)⟩,⟨.list,(.v 4)⟩,⟨(.int .i64),(.v 5)⟩,⟨.list,(.v 6)⟩,⟨.list,(.v 7)⟩,⟨.list,(.v 8)⟩] [.bool]<|
 .ret [⟨.bool,(.v 36)⟩])<|
 .chk .upto [⟨(.int .i64),(.v 31)⟩,⟨.list,(.v 18)⟩]<|
 .letp .take [⟨.list,(.v 18)⟩,⟨(.int .i64),(.v 31)⟩]<|
 .letp .len [⟨.list,(.v 18)⟩]<|
 .letp (.add .i64) [⟨(.int .i64),(.v 31)⟩,⟨(.int .i64),(.n 1)⟩]<|
 .letp .eqI [⟨(.int .i64),(.v 37)⟩,⟨(.int .i64),(.v 38)⟩]<|
 .ite (.v 39) (
 .row (.v 18) (.v 31) [(.int .i64),(.int .i64),(.int .i64),(.int .i64)]<|
 .row (.v 30) (.v 10) [(.int .i64),(.int .i64),(.int .i64),(.int .i64)]<|
 .letp (.eqs 4) [⟨(.int .i64),(.v 40)⟩,⟨(.int .i64),(.v 41)⟩,⟨(.int .i64),(.v 42)⟩,⟨(.int .i64),(.v 43)⟩,⟨(.int .i64),(.v 44)⟩,⟨(.int .i64),(.v 45)⟩,⟨(.int .i64),(.v 46)⟩,⟨(.int .i64),(.v 47)⟩]<|
 .ite (.v 48) (
 .call 3 [⟨.bool,(.v 13)⟩,⟨.list,(.v 14)⟩,⟨(.int .i64),(.v 15)⟩,⟨.list,(.v 16)⟩,⟨.list,(.v 17)⟩,⟨.list,(.v 36)⟩,⟨.bool,(.v 3)⟩,⟨.list,(.v 4)⟩,⟨(.int .i64),(.v 5)⟩,⟨.list,(.v 6)⟩,⟨.list,(.v 7)⟩,⟨.list,(.v 8)⟩] [.bool]<|
 .ret [⟨.bool,(.v 49)⟩])<|
 .ret [⟨.bool,(.b false)⟩])<|
 .ret [⟨.bool,(.b false)⟩]
noncomputable def Φ_bn:Phi:=fun n=>match n with
 | 0=>kv
 | 1=>ia
 | 2=>iM
 | 3=>fW
 | 4=>iL
 | 5=>jq
 | _=>fun _=>none
noncomputable def φ_bn(cs:List C):Option (List C):=aj (den Φ_bn t_bn cs)
end Dx
namespace Dx
open Go
section
variable {code more:List Int}
set_option maxHeartbeats 2000000 in
theorem law_WorldSay(hl:code.length ≤ 1099511627776)(hc:fk code):φ_bn [.list (code.map eB)]=some [.bool true]:=by
 unfold φ_bn t_bn
 refine nU rfl rfl rfl rfl rfl hl hc fun w e x ow he hx=>?_
 have e2:Φ_bn 2=iM:=rfl
 have e3:Φ_bn 3=fW:=rfl
 have e5:Φ_bn 5=jq:=rfl
 have ox:WOk x:=by rw[hx];exact ow.do_ e
 have p2:=jA ow.ws he
 rw[if_pos (worldOk_iff.2 ow),← hx]at p2
 have hself:=pO ox.ws
 simp only[Wd.e,List.cons_append,List.nil_append]at hself p2
 have hdS:DkS ⟨w.dk.up,⟨w.dk.lg.rs,w.dk.lg.f⟩,w.dk.td⟩:=ow.dk.S
 have hdo:aU ⟨w.dk.up,⟨w.dk.lg.rs,w.dk.lg.f⟩,w.dk.td⟩=true:=deskOk_iff.2 ow.dk
 have hdw:=dQ hdS
 rw[if_pos hdo]at hdw
 simp only[eE,eG]at hdw
 have hnl:=ow.nlen
 have hself':=pO ow.ws
 simp only[Wd.e,List.cons_append,List.nil_append]at hself'
 have hl1:(((w.ns.map Word.e).length:Nat):Int)=w.ns.length:=by rw[List.length_map]
 have hl2:((((aN w.dk).map Word.e).length:Nat):Int)=(aN w.dk).length:=by rw[List.length_map]
 unfold EJ
 by_cases h3:e.k=3
 ·have hk:(e.k != 3)=false:=by simp[h3]
  refine sl (congrArg C.bool hk) (sf rfl (sc e5 hdw rfl rfl (sl (congrArg (C.int .i64) hl1) ?_)))
  simp only[List.cons_append,List.nil_append]
  by_cases hno:e.a<0 ∨ e.a ≥ (aN w.dk).length ∨ w.ns.length=14
  ·have hxw:x=w:=by rw[hx];exact Cp h3 hno
   subst hxw
   by_cases h0:e.a<0
   ·exact sl (congrArg C.bool (decide_eq_true h0)) (st rfl (sc e3 hself' rfl rfl (dR rfl)))
   refine sl (congrArg C.bool (decide_eq_false h0)) (sf rfl (sl (congrArg (C.int .i64) hl2) ?_))
   by_cases h1:e.a ≥ ((aN x.dk).length:Nat)
   ·exact sl (congrArg C.bool (decide_eq_true h1)) (st rfl (sc e3 hself' rfl rfl (dR rfl)))
   refine sl (congrArg C.bool (decide_eq_false h1)) (sf rfl ?_)
   have h14:(((x.ns.length:Nat):Int)==14)=true:=by simp;omega
   exact sl (congrArg C.bool h14) (st rfl (sc e3 hself' rfl rfl (dR rfl)))
  ·simp only[not_or]at hno
   obtain⟨y,hy,hxw⟩:=Ff (w:=w) h3 (by omega) (by omega) hnl hno.2.2
   rw[← hx]at hxw
   have h0:¬ (e.a<0):=hno.1
   have h1:¬ (e.a ≥ ((aN w.dk).length:Nat)):=hno.2.1
   have h14:(((w.ns.length:Nat):Int)==14)=false:=by simp;omega
   have hxn:x.ns=w.ns++[y]:=by rw[hxw]
   have hxl:x.ns.length=w.ns.length+1:=by rw[hxn];simp
   have hup:(decide ((0:Int) ≤ ((w.ns.length:Nat):Int)) && decide (((w.ns.length:Nat):Int) ≤ ((x.ns.map Word.e).length:Nat)))=true:=by rw[List.length_map];simp;omega
   have htk:(x.ns.map Word.e).take ((w.ns.length:Nat):Int).toNat=w.ns.map Word.e:=by rw[Int.toNat_natCast,← List.map_take,hxn];simp
   have hl3:(((x.ns.map Word.e).length:Nat):Int)=((w.ns.length+1:Nat):Int):=by rw[List.length_map,hxl]
   have hw1:IntKind.wrap .i64 (((w.ns.length:Nat):Int)+1)=((w.ns.length+1:Nat):Int):=au (by omega)
   have heq:(((w.ns.length+1:Nat):Int)==((w.ns.length+1:Nat):Int))=true:=by simp
   have hr1:x.ns[w.ns.length]?=some y:=by rw[hxn];simp
   have hdk:x.dk=w.dk:=by rw[hxw]
   have hhs:x.hs=w.hs:=by rw[hxw]
   refine sl (congrArg C.bool (decide_eq_false h0)) (sf rfl (sl (congrArg (C.int .i64) hl2) (sl (congrArg C.bool (decide_eq_false h1)) (sf rfl (sl (congrArg C.bool h14) (sf rfl (sk hup (sl (congrArg C.list htk) (sl (congrArg (C.int .i64) hl3) (sl (congrArg (C.int .i64) hw1) (sl (congrArg C.bool heq) (st rfl ?_))))))))))))
   simp only[List.cons_append,List.nil_append,hdk,hhs]
   have hr2:∀ f:List C → Option Out,aE (.list ((aN w.dk).map Word.e)) (.int .i64 e.a) [.int .i64,.int .i64,.int .i64,.int .i64] f=f y.e:=fun f=>tY (by omega) hy
   have hq:(i9 (List.take 4 [C.int .i64 y.k,C.int .i64 y.h,C.int .i64 y.t,C.int .i64 y.m,C.int .i64 y.k,C.int .i64 y.h,C.int .i64 y.t,C.int .i64 y.m])==i9 (List.drop 4 [C.int .i64 y.k,C.int .i64 y.h,C.int .i64 y.t,C.int .i64 y.m,C.int .i64 y.k,C.int .i64 y.h,C.int .i64 y.t,C.int .i64 y.m]))=true:=beq_self_eq_true (i9 [C.int .i64 y.k,C.int .i64 y.h,C.int .i64 y.t,C.int .i64 y.m])
   simp (disch:=first|assumption|omega|(simp only[zL];omega)) only[Dq,t0,fT,kg,fw,gR,fx,d9,ec,fS,d8,aK,Cell.den,At.den,Prim.den,List.cons_append,List.nil_append,gK,c8,CK.of,An,Dp,Bool.decide_eq_true,gJ hr1,hr2,Word.e,hq,e3,hself',Int.reduceEq,reduceIte,zU,zT,aa]
   try rfl
 ·have hk:(e.k != 3)=true:=by simp[h3]
  exact sl (congrArg C.bool hk) (st rfl (sc e2 p2 rfl rfl (sc e3 hself rfl rfl (dR rfl))))
end
end Dx
namespace Dx
open Go Go.Proofs
def c_bn:Con:=⟨[.own false [.val] [.list] false],[⟨false,[.val],[.bool],false⟩]⟩
theorem has_bn:Has Tryz.prog 5 c_bn φ_bn:=fp (R:=[]) (tr:=false) (E:=[(15,0,Fu),(16,1,Fy),(18,2,Fz),(17,3,FD),(19,4,Ee),(24,5,IC)]) (Φ:=Φ_bn) (t:=t_bn) ⟨t9,ue,uf,ui,pZ,zW,trivial⟩ Tryz.f5 hE (by kernel_rfl)
end Dx
namespace Go.Proofs.YtahfbeiobndhkaaGreat.fnWorldSay
open Go.ChangeShapes Go.WideShapes Go.ChangeAt Go.RowKit Dx
set_option linter.unusedVariables false
set_option maxRecDepth 100000
theorem own:ownKnob Tryz.prog.godebug=none:=by kernel_rfl
theorem params:Tryz.f5.params=#[22]:=by kernel_rfl
theorem results:Tryz.f5.resultTypes=#[4]:=by kernel_rfl
theorem t22:Tryz.prog.underlying 22=some (.slice 5):=by kernel_rfl
theorem t5:Tryz.prog.underlying 5=some (.int .u8):=by kernel_rfl
theorem t4:Tryz.prog.underlying 4=some .bool:=by kernel_rfl
theorem c5:Tryz.prog.cellsOf 5=1:=by kernel_rfl
theorem func:Tryz.prog.funcs[5]?=some Tryz.f5:=by kernel_rfl
theorem contract(H:Type)(enc:TypeId×Value → H)(W:World)(base:Nat)(args:Array Value)(ds gs:List (DataW H))(before:List MemPlace)
  (hval:∀(j:Nat) t v,Tryz.f5.params[j]?=some t → args[j]?=some v → Value.okWide Tryz.prog W .any base t v)
  (hW:DataW.Whole enc Tryz.prog Tryz.f5.params.toList Rows.fnWorldSaySpec.vars false W args.toList ds gs before) :
  Calls Tryz.prog 5 args W fun e W'=>∃ v,e=.returned v ∧ Rows.fnWorldSaySpec.post enc Tryz.prog Tryz.f5 false true false false W args v W':=by
 have hW':=hW
 obtain⟨p,q,hA0,hV,rfl,hfz,hnd⟩:=hW
 have hA:DataW.TrodAll enc Tryz.prog W 0 (fun _=>true) true Tryz.f5.params.toList args.toList ds p:=hA0
 rw[params]at hA hval
 obtain⟨v0,vs0,d0,ds0,p0,q0,hargs,rfl,rfl,h0,r0⟩:=trodAll_cons hA
 obtain⟨rfl,rfl,rfl⟩:=trodAll_nil r0
 obtain rfl:args=#[v0]:=by cases args;simp_all
 obtain⟨rfl,rfl⟩:=trodVars_none hV
 obtain⟨code,hb,hrep,hd,hshut⟩:=bA t22 t5 c5 (hval 0 22 v0 rfl rfl) h0
 have hlaw:φ_bn [.list (code.map cB)]=some [.bool true]:=by
  by_cases h:code.length ≤ 1048576
  ·exact law_WorldSay (by omega) hb
  ·unfold φ_bn t_bn
   exact mC (by rw[List.length_map];omega)
 refine(bU (vs:=[v0]) has_bn (by simp[dq]) ⟨[.list (code.map cB)],[],v0,[],[],[],rfl,rfl,rfl,cv hrep,rfl,rfl,rfl⟩ hlaw).mono ?_
 rintro e W' ⟨rfl,h1,h2,h3⟩
 refine⟨_,rfl,[d0],[],p0,[],p0,[],by simpa using hW',trodAll_cons_mk (shut_bool t4 _) trodAll_mk0,?_,rfl,de h1 h2 h3 _,fun h=>by cases h⟩
 rw[params]
 have:=trodAll_cons_mk (hshut W' h3) (trodAll_mk0 (enc:=enc) (P:=Tryz.prog) (w:=W') (base:=0) (spare:=fun b=>decide (b<W.heap.size)) (held:=true))
 rw[List.append_nil]at this
 exact this
set_option maxRecDepth 100000 in
theorem lifted(os:Os)(started:os.Started)(H:Type)(enc:TypeId×Value → H) :
  ReturnsInHanded {} Tryz.checked os 5 .any (Rows.fnWorldSaySpec.pre6 enc Tryz.prog Tryz.f5 Rows.fnWorldSayRow.domain false) (Rows.fnWorldSaySpec.post enc Tryz.prog Tryz.f5 false true false false):=by
 refine returnsInHanded_of_change (C:=Tryz.checked) own started (by kernel_rfl) func
  (ChangeSpec.witness6 (enc:=enc) (C:=Tryz.checked) false ⟨#[],#[.slice none 0 0],[]⟩ 8 (by kernel_rfl) (by kernel_rfl) (by kernel_rfl) (by kernel_rfl)) ?_
 intro W base args ds gs before hval hW _ _
 exact contract H enc W base args ds gs before hval hW
theorem proved:Rows.FnWorldSaySaid :=
 OpenClaim.holds_of_wide 5 Tryz.f5 rfl rfl rfl rfl rfl rfl rfl ⟨rfl,rfl,rfl,rfl,rfl⟩ rfl rfl rfl rfl rfl (by kernel_rfl) func (by kernel_rfl)
  (of_decide_eq_true (by kernel_rfl)) (by unfold Func.isWrapper;first|(rw[if_pos (by decide +kernel)];kernel_rfl)|(rw[if_neg (by decide +kernel)];exact⟨rfl,rfl⟩))
  (fun os started H enc _=>lifted os started H enc)
#print axioms proved
end Go.Proofs.YtahfbeiobndhkaaGreat.fnWorldSay
