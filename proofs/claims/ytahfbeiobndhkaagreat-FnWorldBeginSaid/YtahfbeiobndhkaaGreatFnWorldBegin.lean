/- PROVED: Rows.FnWorldBeginSaid: whatever the input, laws.FnWorldBegin returns true, and its arguments read as they did. No condition beyond the statement's own. -/
import Derived.Test.YtahfbeiobndhkaaGreatZb
import Derived.Test.YtahfbeiobndhkaaGreatHa
import Derived.Test.YtahfbeiobndhkaaGreatJa
import Derived.Test.YtahfbeiobndhkaaGreatRows
set_option linter.all false
namespace Dx
open Go Go.Proofs
def t_aw:Tree :=
 .letp .len [⟨.list,(.v 0)⟩]<|
 .letp .gtI [⟨(.int .i64),(.v 2)⟩,⟨(.int .i64),(.n 1048576)⟩]<|
 .ite (.v 3) (
 .ret [⟨.bool,(.b true)⟩])<|
 .letp .len [⟨.list,(.v 1)⟩]<|
 .letp .gtI [⟨(.int .i64),(.v 4)⟩,⟨(.int .i64),(.n 1048576)⟩]<|
 .ite (.v 5) (
 .ret [⟨.bool,(.b true)⟩])<|
 .call 0 [⟨.list,(.v 0)⟩] [.bool,.list,(.int .i64),.list,.list,.list,(.int .i64),(.int .i64),(.int .i64),.list]<|
 .call 1 [⟨.bool,(.v 6)⟩,⟨.list,(.v 7)⟩,⟨(.int .i64),(.v 8)⟩,⟨.list,(.v 9)⟩,⟨.list,(.v 10)⟩,⟨.list,(.v 11)⟩,⟨(.int .i64),(.v 12)⟩,⟨(.int .i64),(.v 13)⟩,⟨(.int .i64),(.v 14)⟩,⟨.list,(.v 15)⟩] [.bool,.list,(.int .i64),.list,.list,.list]<|
 .call 2 [⟨.bool,(.v 6)⟩,⟨.list,(.v 7)⟩,⟨(.int .i64),(.v 8)⟩,⟨.list,(.v 9)⟩,⟨.list,(.v 10)⟩,⟨.list,(.v 11)⟩,⟨(.int .i64),(.v 12)⟩,⟨(.int .i64),(.v 13)⟩,⟨(.int .i64),(.v 14)⟩,⟨.list,(.v 15)⟩] [.bool,.list,(.int .i64),.list,.list,.list]<|
 .call 3 [⟨.bool,(.v 16)⟩,⟨.list,(.v 17)⟩,⟨(.int .i64),(.v 18)⟩,⟨.list,(.v 19)⟩,⟨.list,(.v 20)⟩,⟨.list,(.v 21)⟩,⟨.bool,(.v 22)⟩,⟨.list,(.v 23)⟩,⟨(.int .i64),(.v 24)⟩,⟨.list,(.v 25)⟩,⟨.list,(.v 26)⟩,⟨.list,(.v 27)⟩] [.bool]<|
 .letp .not [⟨.bool,(.v 28)⟩]<|
 .ite (.v 29) (
 .call 2 [⟨.bool,(.v 6)⟩,⟨.list,(.v 7)⟩,⟨(.int .i64),(.v 8)⟩,⟨.list,(.v 9)⟩,⟨.list,(.v 10)⟩,⟨.list,(.v 11)⟩,⟨(.int .i64),(.v 12)⟩,⟨(.int .i64),(.v 13)⟩,⟨(.int .i64),(.v 14)⟩,⟨.list,(.v 15)⟩] [.bool,.list,(.int .i64),.list,.list,.list]<|
 .call 3 [⟨.bool,(.v 16)⟩,⟨.list,(.v 17)⟩,⟨(.int .i64),(.v 18)⟩,⟨.list,(.v 19)⟩,⟨.list,(.v 20)⟩,⟨.list,(.v 21)⟩,⟨.bool,(.v 30)⟩,⟨.list,(.v 31)⟩,⟨(.int .i64),(.v 32)⟩,⟨.list,(.v 33)⟩,⟨.list,(.v 34)⟩,⟨.list,(.v 35)⟩] [.bool]<|
 .ret [⟨.bool,(.v 36)⟩])<|
 .call 4 [⟨.bool,(.v 6)⟩,⟨.list,(.v 7)⟩,⟨(.int .i64),(.v 8)⟩,⟨.list,(.v 9)⟩,⟨.list,(.v 10)⟩,⟨.list,(.v 11)⟩] [.bool]<|
 .letp .not [⟨.bool,(.v 30)⟩]<|
 .ite (.v 31) (
 .call 2 [⟨.bool,(.v 6)⟩,⟨.list,(.v 7)⟩,⟨(.int .i64),(.v 8)⟩,⟨.list,(.v 9)⟩,⟨.list,(.v 10)⟩,⟨.list,(.v 11)⟩,⟨(.int .i64),(.v 12)⟩,⟨(.int .i64),(.v 13)⟩,⟨(.int .i64),(.v 14)⟩,⟨.list,(.v 15)⟩] [.bool,.list,(.int .i64),.list,.list,.list]<|
 .call 3 [⟨.bool,(.v 16)⟩,⟨.list,(.v 17)⟩,⟨(.int .i64),(.v 18)⟩,⟨.list,(.v 19)⟩,⟨.list,(.v 20)⟩,⟨.list,(.v 21)⟩,⟨.bool,(.v 32)⟩,⟨.list,(.v 33)⟩,⟨(.int .i64),(.v 34)⟩,⟨.list,(.v 35)⟩,⟨.list,(.v 36)⟩,⟨.list,(.v 37)⟩] [.bool]<|
 .ret [⟨.bool,(.v 38)⟩])<|
 .letp .len [⟨.list,(.v 1)⟩]<|
 .letp (.rem .i64) [⟨(.int .i64),(.v 32)⟩,⟨(.int .i64),(.n 3)⟩]<|
 .letp .len [⟨.list,(.v 1)⟩]<|
 .letp (.quo .i64) [⟨(.int .i64),(.v 34)⟩,⟨(.int .i64),(.n 3)⟩]<|
 .letp (.rem .i64) [⟨(.int .i64),(.v 35)⟩,⟨(.int .i64),(.n 4)⟩]<|
 .letp (.mkl 1) [⟨(.int .i64),(.v 33)⟩,⟨(.int .i64),(.n 1)⟩,⟨(.int .i64),(.v 36)⟩]<|
 .call 1 [⟨.bool,(.v 6)⟩,⟨.list,(.v 7)⟩,⟨(.int .i64),(.v 8)⟩,⟨.list,(.v 9)⟩,⟨.list,(.v 10)⟩,⟨.list,(.v 11)⟩,⟨(.int .i64),(.n 1)⟩,⟨(.int .i64),(.n 0)⟩,⟨(.int .i64),(.n 0)⟩,⟨.list,(.v 37)⟩] [.bool,.list,(.int .i64),.list,.list,.list]<|
 .call 5 [⟨.bool,(.v 6)⟩,⟨.list,(.v 7)⟩,⟨(.int .i64),(.v 8)⟩,⟨.list,(.v 9)⟩,⟨.bool,(.b false)⟩] [.list]<|
 .call 5 [⟨.bool,(.v 38)⟩,⟨.list,(.v 39)⟩,⟨(.int .i64),(.v 40)⟩,⟨.list,(.v 41)⟩,⟨.bool,(.b false)⟩] [.list]<|
 .letp .len [⟨.list,(.v 44)⟩]<|
 .letp .not [⟨.bool,(.v 6)⟩]<|
 .ite (.v 47) (
 .call 3 [⟨.bool,(.v 38)⟩,⟨.list,(.v 39)⟩,⟨(.int .i64),(.v 40)⟩,⟨.list,(.v 41)⟩,⟨.list,(.v 42)⟩,⟨.list,(.v 43)⟩,⟨.bool,(.v 6)⟩,⟨.list,(.v 7)⟩,⟨(.int .i64),(.v 8)⟩,⟨.list,(.v 9)⟩,⟨.list,(.v 10)⟩,⟨.list,(.v 11)⟩] [.bool]<|
 .ret [⟨.bool,(.v 48)⟩])<|
 .letp .eqI [⟨(.int .i64),(.v 46)⟩,⟨(.int .i64),(.n 6)⟩]<|
 .ite (.v 48) (
 .call 3 [⟨.bool,(.v 38)⟩,⟨.list,(.v 39)⟩,⟨(.int .i64),(.v 40)⟩,⟨.list,(.v 41)⟩,⟨.list,(.v 42)⟩,⟨.list,(.v 43)⟩,⟨.bool,(.v 6)⟩,⟨.list,(.v 7)⟩,⟨(.int .i64),(.v 8)⟩,⟨.list,(.v 9)⟩,⟨.list,(.v 10)⟩,⟨.list,(.v 11)⟩] [.bool]<|
 .ret [⟨.bool,(.v 49)⟩])<|
 .letp .len [⟨.list,(.v 7)⟩]<|
 .letp .eqI [⟨(.int .i64),(.v 49)⟩,⟨(.int .i64),(.n 40)⟩]<|
 .ite (.v 50) (
 .call 3 [⟨.bool,(.v 38)⟩,⟨.list,(.v 39)⟩,⟨(.int .i64),(.v 40)⟩,⟨.list,(.v 41)⟩,⟨.list,(.v 42)⟩,⟨.list,(.v 43)⟩,⟨.bool,(.v 6)⟩,⟨.list,(.v 7)⟩,⟨(.int .i64),(.v 8)⟩,⟨.list,(.v 9)⟩,⟨.list,(.v 10)⟩,⟨.list,(.v 11)⟩] [.bool]<|
 .ret [⟨.bool,(.v 51)⟩])<|
 .letp .len [⟨.list,(.v 45)⟩]<|
 .letp (.add .i64) [⟨(.int .i64),(.v 46)⟩,⟨(.int .i64),(.n 1)⟩]<|
 .letp .eqI [⟨(.int .i64),(.v 51)⟩,⟨(.int .i64),(.v 52)⟩]<|
 .ite (.v 53) (
 .row (.v 45) (.v 46) [.list,(.int .i64)]<|
 .call 6 [⟨.list,(.v 54)⟩,⟨.list,(.v 37)⟩] [.bool]<|
 .ite (.v 56) (
 .chk .upto [⟨(.int .i64),(.v 46)⟩,⟨.list,(.v 45)⟩]<|
 .letp .take [⟨.list,(.v 45)⟩,⟨(.int .i64),(.v 46)⟩]<|
 .call 7 [⟨.list,(.v 57)⟩,⟨.list,(.v 44)⟩] [.bool]<|
 .ite (.v 58) (
 .call 3 [⟨.bool,(.v 6)⟩,⟨.list,(.v 7)⟩,⟨(.int .i64),(.v 8)⟩,⟨.list,(.v 9)⟩,⟨.list,(.v 42)⟩,⟨.list,(.v 43)⟩,⟨.bool,(.v 6)⟩,⟨.list,(.v 7)⟩,⟨(.int .i64),(.v 8)⟩,⟨.list,(.v 9)⟩,⟨.list,(.v 10)⟩,⟨.list,(.v 11)⟩] [.bool]<|
 .ret [⟨.bool,(.v 59)⟩])<|
 .ret [⟨.bool,(.b false)⟩])<|
 .ret [⟨.bool,(.b false)⟩])<|
 .ret [⟨.bool,(.b false)⟩]
noncomputable def Φ_aw:Phi:=fun n=>match n with
 | 0=>kv
 | 1=>ia
 | 2=>iM
 | 3=>fW
 | 4=>iL
 | 5=>dh
 | 6=>jo
 | 7=>qP
 | _=>fun _=>none
noncomputable def φ_aw(cs:List C):Option (List C):=aj (den Φ_aw t_aw cs)
end Dx
namespace Dx
open Go
section
variable {code more:List Int}
set_option maxHeartbeats 2000000 in
theorem law_WorldBegin(hl:code.length ≤ 1099511627776)(hc:fk code):φ_aw [.list (code.map eB),.list (more.map eB)]=some [.bool true]:=by
 unfold φ_aw t_aw
 refine lR rfl rfl rfl rfl rfl hl hc fun w e x hm ow he hx=>?_
 have e1:Φ_aw 1=ia:=rfl
 have e3:Φ_aw 3=fW:=rfl
 have e5:Φ_aw 5=dh:=rfl
 have e6:Φ_aw 6=jo:=rfl
 have e7:Φ_aw 7=qP:=rfl
 have hdS:DkS ⟨w.dk.up,⟨w.dk.lg.rs,w.dk.lg.f⟩,w.dk.td⟩:=ow.dk.S
 have hdo:aU ⟨w.dk.up,⟨w.dk.lg.rs,w.dk.lg.f⟩,w.dk.td⟩=true:=deskOk_iff.2 ow.dk
 have hdt:=aW (b:=false) hdS
 rw[if_pos hdo]at hdt
 simp only[eE,eG]at hdt
 have tr:TrOk (ah w.dk.lg false):=ow.dk.trOk false
 have tr6:=tr.len
 have h18:=ow.dk.len18
 have hself:=pO ow.ws
 simp only[Wd.e,List.cons_append,List.nil_append]at hself
 obtain⟨a,ha⟩:∃ a:Int,a=((more.length % 3:Nat):Int):=⟨_,rfl⟩
 obtain⟨c,hcc⟩:∃ c:Int,c=((more.length / 3 % 4:Nat):Int):=⟨_,rfl⟩
 have hl1:(((more.map eB).length:Nat):Int)=more.length:=by rw[List.length_map]
 have hm3:Int.tmod ((more.length:Nat):Int) 3=a:=by rw[ha];rfl
 have hq3:Int.tdiv ((more.length:Nat):Int) 3=((more.length / 3:Nat):Int):=rfl
 have hq3':IntKind.wrap .i64 (Int.tdiv ((more.length:Nat):Int) 3)=((more.length / 3:Nat):Int):=by rw[hq3];exact az (by omega) (by omega)
 have hm4:Int.tmod ((more.length / 3:Nat):Int) 4=c:=by rw[hcc];rfl
 have ha3:0 ≤ a ∧ a ≤ 2:=by omega
 have hc4:0 ≤ c ∧ c ≤ 3:=by omega
 have hmo:bV [a,1,c]=true:=by
  simp only[bV,List.all_cons,List.all_nil,Bool.and_true,Bool.and_eq_true,in_iff,decide_eq_true_eq]
  refine⟨⟨by omega,by omega,by omega⟩,rfl,?_⟩
  simp only[List.sum_cons,List.sum_nil];omega
 have d1:=eU ow (e:=⟨1,0,0,[a,1,c]⟩) (by simp)
 have oy:=ow.do_ ⟨1,0,0,[a,1,c]⟩
 obtain⟨y,hy⟩:∃ y,y=wdo w ⟨1,0,0,[a,1,c]⟩:=⟨_,rfl⟩
 rw[← hy]at d1 oy
 have hdSy:DkS ⟨y.dk.up,⟨y.dk.lg.rs,y.dk.lg.f⟩,y.dk.td⟩:=oy.dk.S
 have hdoy:aU ⟨y.dk.up,⟨y.dk.lg.rs,y.dk.lg.f⟩,y.dk.td⟩=true:=deskOk_iff.2 oy.dk
 have hdty:=aW (b:=false) hdSy
 rw[if_pos hdoy]at hdty
 simp only[eE,eG]at hdty
 simp only[Wd.e,List.map_cons,List.map_nil,eI]at d1
 unfold zF
 refine sl (congrArg (C.int .i64) hl1) (sl (congrArg (C.int .i64) hm3) (sl (congrArg (C.int .i64) hl1) (sl (congrArg (C.int .i64) hq3') (sl (congrArg (C.int .i64) hm4) (sl (v:=.list [[.int .i64 a],[.int .i64 1],[.int .i64 c]]) (congrArg C.list (Dr _ _ _)) (sc e1 d1 rfl rfl ?_))))))
 simp only[List.cons_append,List.nil_append]
 have hla:(((((ah w.dk.lg false).map Trip.e).length:Nat):Int))=(ah w.dk.lg false).length:=by rw[List.length_map]
 refine sc e5 hdt rfl rfl (sc e5 hdty rfl rfl (sl (congrArg (C.int .i64) hla) (sl rfl ?_)))
 simp only[List.cons_append,List.nil_append]
 by_cases hu:w.dk.up=true
 ·refine sf (by show (!w.dk.up)=false;rw[hu];rfl) ?_
  by_cases h6:(ah w.dk.lg false).length=6
  ·have hyw:y=w:=by rw[hy];exact vg (.inr (.inl h6))
   subst hyw
   have h6':(((ah y.dk.lg false).length:Int)==6)=true:=by simp;omega
   exact sl (congrArg C.bool h6') (st rfl (sc e3 hself rfl rfl (dR rfl)))
  ·have h6':(((ah w.dk.lg false).length:Int)==6)=false:=by simp;omega
   have hlr:(((w.dk.lg.rs.map Rec.e).length:Nat):Int)=w.dk.lg.rs.length:=by rw[List.length_map]
   have h40:(((w.dk.lg.rs.length:Nat):Int)==40)=false:=by simp;omega
   obtain⟨d,hyd,hd1,hd2⟩:=Bi ow hmo hu h6
   rw[← hy]at hyd
   have hyt:ah y.dk.lg false=ah w.dk.lg false++[⟨[a,1,c],1⟩]:=by rw[hyd];exact hd2
   have hyh:y.hs=w.hs:=by rw[hyd]
   have hyn:y.ns=w.ns:=by rw[hyd]
   have hlb:(((((ah y.dk.lg false).map Trip.e).length:Nat):Int))=(((ah w.dk.lg false).length+1:Nat):Int):=by rw[List.length_map,hyt];simp
   have hw1:IntKind.wrap .i64 (((ah w.dk.lg false).length:Int)+1)=(((ah w.dk.lg false).length+1:Nat):Int):=au (by omega)
   have heq:((((ah w.dk.lg false).length+1:Nat):Int)==(((ah w.dk.lg false).length+1:Nat):Int))=true:=by simp
   refine sl (congrArg C.bool h6') (sf rfl (sl (congrArg (C.int .i64) hlr) (sl (congrArg C.bool h40) (sf rfl (sl (congrArg (C.int .i64) hlb) (sl (congrArg (C.int .i64) hw1) (sl (congrArg C.bool heq) (st rfl ?_))))))))
   simp only[List.cons_append,List.nil_append]
   have hr1:(ah y.dk.lg false)[(ah w.dk.lg false).length]?=some ⟨[a,1,c],1⟩:=by rw[hyt];simp
   have hi:=tZ (a:=[a,1,c]) (b:=[a,1,c]) (by simp)
   simp only[List.map_cons,List.map_nil,eI,decide_true]at hi
   have hle:((ah w.dk.lg false).length:Int) ≤ ((ah y.dk.lg false).length:Nat):=by rw[hyt];simp;omega
   have hle0:(0:Int) ≤ ((ah w.dk.lg false).length:Nat):=by omega
   have htk:((ah y.dk.lg false).map Trip.e).take (((ah w.dk.lg false).length:Nat):Int).toNat=(ah w.dk.lg false).map Trip.e:=by rw[Int.toNat_natCast,← List.map_take,hyt];simp
   have hnt:=sJ (a:=ah w.dk.lg false) (b:=ah w.dk.lg false) (by omega) (fun t ht=>by have:=aT (tripOk_iff.1 (tr.ok t ht)).1;omega)
   simp only[decide_true]at hnt
   simp (disch:=first|assumption|omega|(simp only[zL];omega)) only[Dq,t0,fT,kg,fw,gR,fx,d9,ec,fS,d8,aK,Cell.den,At.den,Prim.den,List.cons_append,List.nil_append,gK,c8,CK.of,An,Dp,Bool.decide_eq_true,cX hr1,Trip.e,eI,List.map_cons,List.map_nil,e6,hi,hle,hle0,decide_true,Bool.and_self,htk,e7,hnt,hyh,hyn,e3,hself,Int.reduceEq,reduceIte,zU,zT,aa]
   try rfl
 ·have hu':w.dk.up=false:=by simpa using hu
  have hyw:y=w:=by rw[hy];exact vg (.inl hu')
  subst hyw
  exact st (by show (!y.dk.up)=true;rw[hu'];rfl) (sc e3 hself rfl rfl (dR rfl))
end
end Dx
namespace Dx
open Go Go.Proofs
def c_aw:Con:=⟨[.own false [.val] [.list] false,.own false [.val] [.list] false],[⟨false,[.val],[.bool],false⟩]⟩
theorem has_aw:Has Tryz.prog 6 c_aw φ_aw:=fp (R:=[]) (tr:=false) (E:=[(15,0,Fu),(16,1,Fy),(18,2,Fz),(17,3,FD),(19,4,Ee),(25,5,yq),(26,6,FB),(27,7,c_fi)]) (Φ:=Φ_aw) (t:=t_aw) ⟨t9,ue,uf,ui,pZ,i6,ug,Ei,trivial⟩ Tryz.f6 hE (by kernel_rfl)
end Dx
namespace Go.Proofs.YtahfbeiobndhkaaGreat.fnWorldBegin
open Go.ChangeShapes Go.WideShapes Go.ChangeAt Go.RowKit Dx
set_option linter.unusedVariables false
set_option maxRecDepth 100000
theorem own:ownKnob Tryz.prog.godebug=none:=by kernel_rfl
theorem params:Tryz.f6.params=#[22,22]:=by kernel_rfl
theorem results:Tryz.f6.resultTypes=#[4]:=by kernel_rfl
theorem t22:Tryz.prog.underlying 22=some (.slice 5):=by kernel_rfl
theorem t5:Tryz.prog.underlying 5=some (.int .u8):=by kernel_rfl
theorem t4:Tryz.prog.underlying 4=some .bool:=by kernel_rfl
theorem c5:Tryz.prog.cellsOf 5=1:=by kernel_rfl
theorem func:Tryz.prog.funcs[6]?=some Tryz.f6:=by kernel_rfl
theorem contract(H:Type)(enc:TypeId×Value → H)(W:World)(base:Nat)(args:Array Value)(ds gs:List (DataW H))(before:List MemPlace)
  (hval:∀(j:Nat) t v,Tryz.f6.params[j]?=some t → args[j]?=some v → Value.okWide Tryz.prog W .any base t v)
  (hW:DataW.Whole enc Tryz.prog Tryz.f6.params.toList Rows.fnWorldBeginSpec.vars false W args.toList ds gs before) :
  Calls Tryz.prog 6 args W fun e W'=>∃ v,e=.returned v ∧ Rows.fnWorldBeginSpec.post enc Tryz.prog Tryz.f6 false true false false W args v W':=by
 have hW':=hW
 obtain⟨p,q,hA0,hV,rfl,hfz,hnd⟩:=hW
 have hA:DataW.TrodAll enc Tryz.prog W 0 (fun _=>true) true Tryz.f6.params.toList args.toList ds p:=hA0
 rw[params]at hA hval
 obtain⟨v0,vs0,d0,ds0,p0,q0,hargs,rfl,rfl,h0,r0⟩:=trodAll_cons hA
 obtain⟨v1,vs1,d1,ds1,p1,q1,rfl,rfl,rfl,h1,r1⟩:=trodAll_cons r0
 obtain⟨rfl,rfl,rfl⟩:=trodAll_nil r1
 obtain rfl:args=#[v0,v1]:=by cases args;simp_all
 obtain⟨rfl,rfl⟩:=trodVars_none hV
 obtain⟨code,hb,hrep,hd,hshut⟩:=bA t22 t5 c5 (hval 0 22 v0 rfl rfl) h0
 obtain⟨more,hb1,hrep1,hd1,hshut1⟩:=bA t22 t5 c5 (hval 1 22 v1 rfl rfl) h1
 have hlaw:φ_aw [.list (code.map cB),.list (more.map cB)]=some [.bool true]:=by
  by_cases h:code.length ≤ 1048576
  ·exact law_WorldBegin (by omega) hb
  ·unfold φ_aw t_aw
   exact E3 (by rw[List.length_map];omega)
 refine(bU (vs:=[v0,v1]) has_aw (by simp[dq]) ⟨[.list (code.map cB)],[.list (more.map cB)],v0,[v1],[],[],rfl,rfl,rfl,cv hrep,[.list (more.map cB)],[],v1,[],[],[],rfl,rfl,rfl,cv hrep1,rfl,rfl,rfl⟩ hlaw).mono ?_
 rintro e W' ⟨rfl,g1,g2,g3⟩
 refine⟨_,rfl,[d0,d1],[],p0++p1,[],p0++p1,[],by simpa using hW',trodAll_cons_mk (shut_bool t4 _) trodAll_mk0,?_,rfl,de g1 g2 g3 _,fun h=>by cases h⟩
 rw[params]
 have:=trodAll_cons_mk (hshut W' g3) (trodAll_cons_mk (hshut1 W' g3) (trodAll_mk0 (enc:=enc) (P:=Tryz.prog) (w:=W') (base:=0) (spare:=fun b=>decide (b<W.heap.size)) (held:=true)))
 rw[List.append_nil]at this
 exact this
set_option maxRecDepth 100000 in
theorem lifted(os:Os)(started:os.Started)(H:Type)(enc:TypeId×Value → H) :
  ReturnsInHanded {} Tryz.checked os 6 .any (Rows.fnWorldBeginSpec.pre6 enc Tryz.prog Tryz.f6 Rows.fnWorldBeginRow.domain false) (Rows.fnWorldBeginSpec.post enc Tryz.prog Tryz.f6 false true false false):=by
 refine returnsInHanded_of_change (C:=Tryz.checked) own started (by kernel_rfl) func
  (ChangeSpec.witness6 (enc:=enc) (C:=Tryz.checked) false ⟨#[],#[.slice none 0 0,.slice none 0 0],[]⟩ 8 (by kernel_rfl) (by kernel_rfl) (by kernel_rfl) (by kernel_rfl)) ?_
 intro W base args ds gs before hval hW _ _
 exact contract H enc W base args ds gs before hval hW
theorem proved:Rows.FnWorldBeginSaid :=
 OpenClaim.holds_of_wide 6 Tryz.f6 rfl rfl rfl rfl rfl rfl rfl ⟨rfl,rfl,rfl,rfl,rfl⟩ rfl rfl rfl rfl rfl (by kernel_rfl) func (by kernel_rfl)
  (of_decide_eq_true (by kernel_rfl)) (by unfold Func.isWrapper;first|(rw[if_pos (by decide +kernel)];kernel_rfl)|(rw[if_neg (by decide +kernel)];exact⟨rfl,rfl⟩))
  (fun os started H enc _=>lifted os started H enc)
#print axioms proved
end Go.Proofs.YtahfbeiobndhkaaGreat.fnWorldBegin
