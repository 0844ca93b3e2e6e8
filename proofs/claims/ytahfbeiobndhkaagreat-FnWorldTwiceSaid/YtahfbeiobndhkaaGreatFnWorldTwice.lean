/- PROVED: Rows.FnWorldTwiceSaid: whatever the input, laws.FnWorldTwice returns true, and its arguments read as they did. No condition beyond the statement's own. -/
import Derived.Test.YtahfbeiobndhkaaGreatZb
import Derived.Test.YtahfbeiobndhkaaGreatHa
import Derived.Test.YtahfbeiobndhkaaGreatJa
import Derived.Test.YtahfbeiobndhkaaGreatRows
set_option linter.all false
namespace Dx
open Go Go.Proofs
def t_ba:Tree :=
 .letp .len [⟨.list,(.v 0)⟩]<|
 .letp .gtI [⟨(.int .i64),(.v 2)⟩,⟨(.int .i64),(.n 1048576)⟩]<|
 .ite (.v 3) (
 .ret [⟨.bool,(.b true)⟩])<|
 .letp .len [⟨.list,(.v 1)⟩]<|
 .letp .gtI [⟨(.int .i64),(.v 4)⟩,⟨(.int .i64),(.n 1048576)⟩]<|
 .ite (.v 5) (
 .ret [⟨.bool,(.b true)⟩])<|
 .call 0 [⟨.list,(.v 0)⟩] [.bool,.list,(.int .i64),.list,.list,.list,(.int .i64),(.int .i64),(.int .i64),.list]<|
 .call 1 [⟨.bool,(.v 6)⟩,⟨.list,(.v 7)⟩,⟨(.int .i64),(.v 8)⟩,⟨.list,(.v 9)⟩,⟨.list,(.v 10)⟩,⟨.list,(.v 11)⟩,⟨(.int .i64),(.v 12)⟩,⟨(.int .i64),(.v 13)⟩,⟨(.int .i64),(.v 14)⟩,⟨.list,(.v 15)⟩] [.bool,.list,(.int .i64),.list,.list,.list]<|
 .call 2 [⟨.bool,(.v 6)⟩,⟨.list,(.v 7)⟩,⟨(.int .i64),(.v 8)⟩,⟨.list,(.v 9)⟩,⟨.list,(.v 10)⟩,⟨.list,(.v 11)⟩,⟨(.int .i64),(.v 12)⟩,⟨(.int .i64),(.v 13)⟩,⟨(.int .i64),(.v 14)⟩,⟨.list,(.v 15)⟩] [.bool,.list,(.int .i64),.list,.list,.list]<|
 .call 3 [⟨.bool,(.v 16)⟩,⟨.list,(.v 17)⟩,⟨(.int .i64),(.v 18)⟩,⟨.list,(.v 19)⟩,⟨.list,(.v 20)⟩,⟨.list,(.v 21)⟩,⟨.bool,(.v 22)⟩,⟨.list,(.v 23)⟩,⟨(.int .i64),(.v 24)⟩,⟨.list,(.v 25)⟩,⟨.list,(.v 26)⟩,⟨.list,(.v 27)⟩] [.bool]<|
 .letp .not [⟨.bool,(.v 28)⟩]<|
 .ite (.v 29) (
 .call 2 [⟨.bool,(.v 6)⟩,⟨.list,(.v 7)⟩,⟨(.int .i64),(.v 8)⟩,⟨.list,(.v 9)⟩,⟨.list,(.v 10)⟩,⟨.list,(.v 11)⟩,⟨(.int .i64),(.v 12)⟩,⟨(.int .i64),(.v 13)⟩,⟨(.int .i64),(.v 14)⟩,⟨.list,(.v 15)⟩] [.bool,.list,(.int .i64),.list,.list,.list]<|
 .call 3 [⟨.bool,(.v 16)⟩,⟨.list,(.v 17)⟩,⟨(.int .i64),(.v 18)⟩,⟨.list,(.v 19)⟩,⟨.list,(.v 20)⟩,⟨.list,(.v 21)⟩,⟨.bool,(.v 30)⟩,⟨.list,(.v 31)⟩,⟨(.int .i64),(.v 32)⟩,⟨.list,(.v 33)⟩,⟨.list,(.v 34)⟩,⟨.list,(.v 35)⟩] [.bool]<|
 .ret [⟨.bool,(.v 36)⟩])<|
 .call 4 [⟨.bool,(.v 6)⟩,⟨.list,(.v 7)⟩,⟨(.int .i64),(.v 8)⟩,⟨.list,(.v 9)⟩,⟨.list,(.v 10)⟩,⟨.list,(.v 11)⟩] [.bool]<|
 .letp .not [⟨.bool,(.v 30)⟩]<|
 .ite (.v 31) (
 .call 2 [⟨.bool,(.v 6)⟩,⟨.list,(.v 7)⟩,⟨(.int .i64),(.v 8)⟩,⟨.list,(.v 9)⟩,⟨.list,(.v 10)⟩,⟨.list,(.v 11)⟩,⟨(.int .i64),(.v 12)⟩,⟨(.int .i64),(.v 13)⟩,⟨(.int .i64),(.v 14)⟩,⟨.list,(.v 15)⟩] [.bool,.list,(.int .i64),.list,.list,.list]<|
 .call 3 [⟨.bool,(.v 16)⟩,⟨.list,(.v 17)⟩,⟨(.int .i64),(.v 18)⟩,⟨.list,(.v 19)⟩,⟨.list,(.v 20)⟩,⟨.list,(.v 21)⟩,⟨.bool,(.v 32)⟩,⟨.list,(.v 33)⟩,⟨(.int .i64),(.v 34)⟩,⟨.list,(.v 35)⟩,⟨.list,(.v 36)⟩,⟨.list,(.v 37)⟩] [.bool]<|
 .ret [⟨.bool,(.v 38)⟩])<|
 .letp .len [⟨.list,(.v 11)⟩]<|
 .letp .eqI [⟨(.int .i64),(.v 32)⟩,⟨(.int .i64),(.n 0)⟩]<|
 .ite (.v 33) (
 .call 2 [⟨.bool,(.v 6)⟩,⟨.list,(.v 7)⟩,⟨(.int .i64),(.v 8)⟩,⟨.list,(.v 9)⟩,⟨.list,(.v 10)⟩,⟨.list,(.v 11)⟩,⟨(.int .i64),(.v 12)⟩,⟨(.int .i64),(.v 13)⟩,⟨(.int .i64),(.v 14)⟩,⟨.list,(.v 15)⟩] [.bool,.list,(.int .i64),.list,.list,.list]<|
 .call 3 [⟨.bool,(.v 16)⟩,⟨.list,(.v 17)⟩,⟨(.int .i64),(.v 18)⟩,⟨.list,(.v 19)⟩,⟨.list,(.v 20)⟩,⟨.list,(.v 21)⟩,⟨.bool,(.v 34)⟩,⟨.list,(.v 35)⟩,⟨(.int .i64),(.v 36)⟩,⟨.list,(.v 37)⟩,⟨.list,(.v 38)⟩,⟨.list,(.v 39)⟩] [.bool]<|
 .ret [⟨.bool,(.v 40)⟩])<|
 .letp .len [⟨.list,(.v 11)⟩]<|
 .letp .eqI [⟨(.int .i64),(.v 34)⟩,⟨(.int .i64),(.n 14)⟩]<|
 .ite (.v 35) (
 .call 2 [⟨.bool,(.v 6)⟩,⟨.list,(.v 7)⟩,⟨(.int .i64),(.v 8)⟩,⟨.list,(.v 9)⟩,⟨.list,(.v 10)⟩,⟨.list,(.v 11)⟩,⟨(.int .i64),(.v 12)⟩,⟨(.int .i64),(.v 13)⟩,⟨(.int .i64),(.v 14)⟩,⟨.list,(.v 15)⟩] [.bool,.list,(.int .i64),.list,.list,.list]<|
 .call 3 [⟨.bool,(.v 16)⟩,⟨.list,(.v 17)⟩,⟨(.int .i64),(.v 18)⟩,⟨.list,(.v 19)⟩,⟨.list,(.v 20)⟩,⟨.list,(.v 21)⟩,⟨.bool,(.v 36)⟩,⟨.list,(.v 37)⟩,⟨(.int .i64),(.v 38)⟩,⟨.list,(.v 39)⟩,⟨.list,(.v 40)⟩,⟨.list,(.v 41)⟩] [.bool]<|
 .ret [⟨.bool,(.v 42)⟩])<|
 .letp .len [⟨.list,(.v 1)⟩]<|
 .letp .len [⟨.list,(.v 11)⟩]<|
 .chk .nz [⟨(.int .i64),(.v 37)⟩]<|
 .letp (.rem .i64) [⟨(.int .i64),(.v 36)⟩,⟨(.int .i64),(.v 37)⟩]<|
 .call 1 [⟨.bool,(.v 6)⟩,⟨.list,(.v 7)⟩,⟨(.int .i64),(.v 8)⟩,⟨.list,(.v 9)⟩,⟨.list,(.v 10)⟩,⟨.list,(.v 11)⟩,⟨(.int .i64),(.n 4)⟩,⟨(.int .i64),(.v 38)⟩,⟨(.int .i64),(.n 0)⟩,⟨.list,.e⟩] [.bool,.list,(.int .i64),.list,.list,.list]<|
 .call 1 [⟨.bool,(.v 6)⟩,⟨.list,(.v 7)⟩,⟨(.int .i64),(.v 8)⟩,⟨.list,(.v 9)⟩,⟨.list,(.v 10)⟩,⟨.list,(.v 11)⟩,⟨(.int .i64),(.n 6)⟩,⟨(.int .i64),(.v 38)⟩,⟨(.int .i64),(.n 0)⟩,⟨.list,.e⟩] [.bool,.list,(.int .i64),.list,.list,.list]<|
 .call 1 [⟨.bool,(.v 45)⟩,⟨.list,(.v 46)⟩,⟨(.int .i64),(.v 47)⟩,⟨.list,(.v 48)⟩,⟨.list,(.v 49)⟩,⟨.list,(.v 50)⟩,⟨(.int .i64),(.n 4)⟩,⟨(.int .i64),(.v 38)⟩,⟨(.int .i64),(.n 0)⟩,⟨.list,.e⟩] [.bool,.list,(.int .i64),.list,.list,.list]<|
 .letp .len [⟨.list,(.v 11)⟩]<|
 .letp (.sub .i64) [⟨(.int .i64),(.v 57)⟩,⟨(.int .i64),(.n 1)⟩]<|
 .call 1 [⟨.bool,(.v 51)⟩,⟨.list,(.v 52)⟩,⟨(.int .i64),(.v 53)⟩,⟨.list,(.v 54)⟩,⟨.list,(.v 55)⟩,⟨.list,(.v 56)⟩,⟨(.int .i64),(.n 4)⟩,⟨(.int .i64),(.v 58)⟩,⟨(.int .i64),(.n 0)⟩,⟨.list,.e⟩] [.bool,.list,(.int .i64),.list,.list,.list]<|
 .iter [⟨(.int .i64),(.n 0)⟩]<|
 .letp .len [⟨.list,(.v 10)⟩]<|
 .letp .ltI [⟨(.int .i64),(.v 65)⟩,⟨(.int .i64),(.v 66)⟩]<|
 .ite (.v 67) (
 .row (.v 63) (.v 65) [(.int .i64),.bool,(.int .i64),.list,(.int .i64)]<|
 .row (.v 43) (.v 65) [(.int .i64),.bool,(.int .i64),.list,(.int .i64)]<|
 .call 5 [⟨(.int .i64),(.v 68)⟩,⟨.bool,(.v 69)⟩,⟨(.int .i64),(.v 70)⟩,⟨.list,(.v 71)⟩,⟨(.int .i64),(.v 72)⟩,⟨(.int .i64),(.v 73)⟩,⟨.bool,(.v 74)⟩,⟨(.int .i64),(.v 75)⟩,⟨.list,(.v 76)⟩,⟨(.int .i64),(.v 77)⟩] [.bool]<|
 .letp .not [⟨.bool,(.v 78)⟩]<|
 .ite (.v 79) (
 .up<|
 .ret [⟨.bool,(.b false)⟩])<|
 .letp (.add .i64) [⟨(.int .i64),(.v 65)⟩,⟨(.int .i64),(.n 1)⟩]<|
 .jump [⟨(.int .i64),(.v 80)⟩])<|
 .up<|
 .call 6 [⟨.bool,(.v 59)⟩,⟨.list,(.v 60)⟩,⟨(.int .i64),(.v 61)⟩,⟨.list,(.v 62)⟩,⟨.bool,(.v 39)⟩,⟨.list,(.v 40)⟩,⟨(.int .i64),(.v 41)⟩,⟨.list,(.v 42)⟩] [.bool]<|
 .ret [⟨.bool,(.v 68)⟩]
noncomputable def Φ_ba:Phi:=fun n=>match n with
 | 0=>kv
 | 1=>ia
 | 2=>iM
 | 3=>fW
 | 4=>iL
 | 5=>qO
 | 6=>cW
 | _=>fun _=>none
noncomputable def φ_ba(cs:List C):Option (List C):=aj (den Φ_ba t_ba cs)
end Dx
namespace Dx
open Go
section
variable {code more:List Int}
set_option maxHeartbeats 2000000 in
theorem law_WorldTwice(hl:code.length ≤ 1099511627776)(hc:fk code):φ_ba [.list (code.map eB),.list (more.map eB)]=some [.bool true]:=by
 unfold φ_ba t_ba
 refine lR rfl rfl rfl rfl rfl hl hc fun w e x hm ow he hx=>?_
 have e1:Φ_ba 1=ia:=rfl
 have e2:Φ_ba 2=iM:=rfl
 have e3:Φ_ba 3=fW:=rfl
 have e5:Φ_ba 5=qO:=rfl
 have e6:Φ_ba 6=cW:=rfl
 have ox:WOk x:=by rw[hx];exact ow.do_ e
 have p2:=jA ow.ws he
 rw[if_pos (worldOk_iff.2 ow),← hx]at p2
 have hself:=pO ox.ws
 simp only[Wd.e,List.cons_append,List.nil_append]at hself p2
 have hnl:=ow.nlen
 have hl1:(((more.map eB).length:Nat):Int)=more.length:=by rw[List.length_map]
 have hl2:(((w.ns.map Word.e).length:Nat):Int)=w.ns.length:=by rw[List.length_map]
 unfold zF
 by_cases h0:w.ns.length=0
 ·have h0':(((w.ns.length:Nat):Int)==0)=true:=by rw[beq_iff_eq];omega
  exact sl (congrArg (C.int .i64) hl2) (sl (congrArg C.bool h0') (st rfl (sc e2 p2 rfl rfl (sc e3 hself rfl rfl (dR rfl)))))
 have h0':(((w.ns.length:Nat):Int)==0)=false:=by rw[beq_eq_false_iff_ne];omega
 refine sl (congrArg (C.int .i64) hl2) (sl (congrArg C.bool h0') (sf rfl ?_))
 by_cases h14:w.ns.length=14
 ·have h14':(((w.ns.length:Nat):Int)==14)=true:=by rw[beq_iff_eq];omega
  exact sl (congrArg (C.int .i64) hl2) (sl (congrArg C.bool h14') (st rfl (sc e2 p2 rfl rfl (sc e3 hself rfl rfl (dR rfl)))))
 have h14':(((w.ns.length:Nat):Int)==14)=false:=by rw[beq_eq_false_iff_ne];omega
 refine sl (congrArg (C.int .i64) hl2) (sl (congrArg C.bool h14') (sf rfl ?_))
 simp only[List.cons_append,List.nil_append]
 have hmod:Int.tmod ((more.length:Nat):Int) ((w.ns.length:Nat):Int)=((more.length % w.ns.length:Nat):Int):=rfl
 have hlt:more.length % w.ns.length<w.ns.length:=Nat.mod_lt _ (by omega)
 generalize more.length % w.ns.length=k at hmod hlt
 have hnz:(((w.ns.length:Nat):Int) != 0)=true:=by rw[bne_iff_ne];omega
 obtain⟨t1,t2⟩:=xR ow hlt (by omega)
 have d1:=eU ow (e:=⟨4,(k:Int),0,[]⟩) (by simp)
 have d2:=eU ow (e:=⟨6,(k:Int),0,[]⟩) (by simp)
 have o1:=ow.do_ ⟨4,(k:Int),0,[]⟩
 have o2:=ow.do_ ⟨6,(k:Int),0,[]⟩
 generalize wdo w ⟨4,(k:Int),0,[]⟩=w1 at *
 generalize wdo w ⟨6,(k:Int),0,[]⟩=w2 at *
 have d3:=eU o2 (e:=⟨4,(k:Int),0,[]⟩) (by simp)
 have o3:=o2.do_ ⟨4,(k:Int),0,[]⟩
 generalize wdo w2 ⟨4,(k:Int),0,[]⟩=w3 at *
 have d4:=eU o3 (e:=⟨4,((w.ns.length-1:Nat):Int),0,[]⟩) (by simp)
 have o4:=o3.do_ ⟨4,((w.ns.length-1:Nat):Int),0,[]⟩
 generalize wdo w3 ⟨4,((w.ns.length-1:Nat):Int),0,[]⟩=w4 at *
 simp only[Wd.e,List.map_nil]at d1 d2 d3 d4
 have hw1:IntKind.wrap .i64 (((w.ns.length:Nat):Int)-1)=((w.ns.length-1:Nat):Int):=by rw[az (by omega) (by omega)];omega
 refine sl (congrArg (C.int .i64) hl1) (sl (congrArg (C.int .i64) hl2) (sk hnz (sl (congrArg (C.int .i64) hmod) (sc e1 d1 rfl rfl (sc e1 d2 rfl rfl ?_)))))
 simp only[List.cons_append,List.nil_append]
 refine sc e1 d3 rfl rfl (sl (congrArg (C.int .i64) hl2) (sl (congrArg (C.int .i64) hw1) (sc e1 d4 rfl rfl ?_)))
 simp only[List.cons_append,List.nil_append]
 have h3:=ow.len
 have h43:=o4.len
 rw[gk]
 simp only[aK,Cell.den,At.den,C.toInt_int]
 have hnd:cW [.bool w4.dk.up,.list (w4.dk.lg.rs.map Rec.e),.int .i64 w4.dk.lg.f,.list (w4.dk.td.map Word.e),.bool w1.dk.up,.list (w1.dk.lg.rs.map Rec.e),.int .i64 w1.dk.lg.f,.list (w1.dk.td.map Word.e)]=some [.bool true]:=by
  have hS:DkS ⟨w4.dk.up,⟨w4.dk.lg.rs,w4.dk.lg.f⟩,w4.dk.td⟩:=o4.dk.S
  rw[zE hS,t1];simp
 rw[sH (l:=w4.hs) (o:=.ret [.bool true])]
 ·rfl
 ·intro i y hy
  have hi:=(List.getElem?_eq_some_iff.1 hy).1
  have hi':(i:Int)<(w.hs.length:Nat):=by omega
  have hy1:w1.hs[i]?=some y:=by rw[← t2];exact hy
  have hyl:LgS y.lg:=o4.ws.hs y (List.mem_of_getElem? hy)
  have hh:=Ao (x:=y) (x':=y) hyl
  simp only[decide_true]at hh
  simp (disch:=first|assumption|omega|(simp only[zL];omega)) only[Dq,t0,fT,kg,fw,gR,fx,d9,ec,fS,d8,aK,Cell.den,At.den,Prim.den,List.cons_append,List.nil_append,gK,c8,CK.of,An,Dp,Bool.decide_eq_true,hi',if_true,fO hy,fO hy1,House.e,e5,hh,au,Int.reduceEq,reduceIte,zU,zT,aa]
  try rfl
 ·have h:¬ ((w4.hs.length:Int)<(w.hs.length:Nat)):=by omega
  simp (disch:=first|assumption|omega|(simp only[zL];omega)) only[Dq,t0,fT,kg,fw,gR,fx,d9,ec,fS,d8,aK,Cell.den,At.den,Prim.den,List.cons_append,List.nil_append,gK,c8,CK.of,An,Dp,Bool.decide_eq_true,h,if_false,e6,hnd,Int.reduceEq,reduceIte,zU,zT,aa]
  try rfl
end
end Dx
namespace Dx
open Go Go.Proofs
def c_ba:Con:=⟨[.own false [.val] [.list] false,.own false [.val] [.list] false],[⟨false,[.val],[.bool],false⟩]⟩
def h_ba:How:=⟨aB [(0,⟨[kI],[(4,(.bool (.b false))),(11,(sI 0))],[],[],0⟩)],
 aB [],
 aB []⟩
theorem has_ba:Has Tryz.prog 4 c_ba φ_ba:=fp (R:=[]) (tr:=false) (E:=[(15,0,Fu),(16,1,Fy),(18,2,Fz),(17,3,FD),(19,4,Ee),(22,5,c_ee),(23,6,sM)]) (Φ:=Φ_ba) (t:=t_ba) ⟨t9,ue,uf,ui,pZ,Eh,gp,trivial⟩ Tryz.f4 h_ba (by kernel_rfl)
end Dx
namespace Go.Proofs.YtahfbeiobndhkaaGreat.fnWorldTwice
open Go.ChangeShapes Go.WideShapes Go.ChangeAt Go.RowKit Dx
set_option linter.unusedVariables false
set_option maxRecDepth 100000
theorem own:ownKnob Tryz.prog.godebug=none:=by kernel_rfl
theorem params:Tryz.f4.params=#[22,22]:=by kernel_rfl
theorem results:Tryz.f4.resultTypes=#[4]:=by kernel_rfl
theorem t22:Tryz.prog.underlying 22=some (.slice 5):=by kernel_rfl
theorem t5:Tryz.prog.underlying 5=some (.int .u8):=by kernel_rfl
theorem t4:Tryz.prog.underlying 4=some .bool:=by kernel_rfl
theorem c5:Tryz.prog.cellsOf 5=1:=by kernel_rfl
theorem func:Tryz.prog.funcs[4]?=some Tryz.f4:=by kernel_rfl
theorem contract(H:Type)(enc:TypeId×Value → H)(W:World)(base:Nat)(args:Array Value)(ds gs:List (DataW H))(before:List MemPlace)
  (hval:∀(j:Nat) t v,Tryz.f4.params[j]?=some t → args[j]?=some v → Value.okWide Tryz.prog W .any base t v)
  (hW:DataW.Whole enc Tryz.prog Tryz.f4.params.toList Rows.fnWorldTwiceSpec.vars false W args.toList ds gs before) :
  Calls Tryz.prog 4 args W fun e W'=>∃ v,e=.returned v ∧ Rows.fnWorldTwiceSpec.post enc Tryz.prog Tryz.f4 false true false false W args v W':=by
 have hW':=hW
 obtain⟨p,q,hA0,hV,rfl,hfz,hnd⟩:=hW
 have hA:DataW.TrodAll enc Tryz.prog W 0 (fun _=>true) true Tryz.f4.params.toList args.toList ds p:=hA0
 rw[params]at hA hval
 obtain⟨v0,vs0,d0,ds0,p0,q0,hargs,rfl,rfl,h0,r0⟩:=trodAll_cons hA
 obtain⟨v1,vs1,d1,ds1,p1,q1,rfl,rfl,rfl,h1,r1⟩:=trodAll_cons r0
 obtain⟨rfl,rfl,rfl⟩:=trodAll_nil r1
 obtain rfl:args=#[v0,v1]:=by cases args;simp_all
 obtain⟨rfl,rfl⟩:=trodVars_none hV
 obtain⟨code,hb,hrep,hd,hshut⟩:=bA t22 t5 c5 (hval 0 22 v0 rfl rfl) h0
 obtain⟨more,hb1,hrep1,hd1,hshut1⟩:=bA t22 t5 c5 (hval 1 22 v1 rfl rfl) h1
 have hlaw:φ_ba [.list (code.map cB),.list (more.map cB)]=some [.bool true]:=by
  by_cases h:code.length ≤ 1048576
  ·exact law_WorldTwice (by omega) hb
  ·unfold φ_ba t_ba
   exact E3 (by rw[List.length_map];omega)
 refine(bU (vs:=[v0,v1]) has_ba (by simp[dq]) ⟨[.list (code.map cB)],[.list (more.map cB)],v0,[v1],[],[],rfl,rfl,rfl,cv hrep,[.list (more.map cB)],[],v1,[],[],[],rfl,rfl,rfl,cv hrep1,rfl,rfl,rfl⟩ hlaw).mono ?_
 rintro e W' ⟨rfl,g1,g2,g3⟩
 refine⟨_,rfl,[d0,d1],[],p0++p1,[],p0++p1,[],by simpa using hW',trodAll_cons_mk (shut_bool t4 _) trodAll_mk0,?_,rfl,de g1 g2 g3 _,fun h=>by cases h⟩
 rw[params]
 have:=trodAll_cons_mk (hshut W' g3) (trodAll_cons_mk (hshut1 W' g3) (trodAll_mk0 (enc:=enc) (P:=Tryz.prog) (w:=W') (base:=0) (spare:=fun b=>decide (b<W.heap.size)) (held:=true)))
 rw[List.append_nil]at this
 exact this
set_option maxRecDepth 100000 in
theorem lifted(os:Os)(started:os.Started)(H:Type)(enc:TypeId×Value → H) :
  ReturnsInHanded {} Tryz.checked os 4 .any (Rows.fnWorldTwiceSpec.pre6 enc Tryz.prog Tryz.f4 Rows.fnWorldTwiceRow.domain false) (Rows.fnWorldTwiceSpec.post enc Tryz.prog Tryz.f4 false true false false):=by
 refine returnsInHanded_of_change (C:=Tryz.checked) own started (by kernel_rfl) func
  (ChangeSpec.witness6 (enc:=enc) (C:=Tryz.checked) false ⟨#[],#[.slice none 0 0,.slice none 0 0],[]⟩ 8 (by kernel_rfl) (by kernel_rfl) (by kernel_rfl) (by kernel_rfl)) ?_
 intro W base args ds gs before hval hW _ _
 exact contract H enc W base args ds gs before hval hW
theorem proved:Rows.FnWorldTwiceSaid :=
 OpenClaim.holds_of_wide 4 Tryz.f4 rfl rfl rfl rfl rfl rfl rfl ⟨rfl,rfl,rfl,rfl,rfl⟩ rfl rfl rfl rfl rfl (by kernel_rfl) func (by kernel_rfl)
  (of_decide_eq_true (by kernel_rfl)) (by unfold Func.isWrapper;first|(rw[if_pos (by decide +kernel)];kernel_rfl)|(rw[if_neg (by decide +kernel)];exact⟨rfl,rfl⟩))
  (fun os started H enc _=>lifted os started H enc)
#print axioms proved
end Go.Proofs.YtahfbeiobndhkaaGreat.fnWorldTwice
