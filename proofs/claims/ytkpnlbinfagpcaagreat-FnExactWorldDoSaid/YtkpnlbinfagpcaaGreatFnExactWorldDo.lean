/- PROVED: Rows.FnExactWorldDoSaid: whatever the input, laws.FnExactWorldDo returns true, and its arguments read as they did. No condition beyond the statement's own. -/
import Derived.Test.YtkpnlbinfagpcaaGreatZb
import Derived.Test.YtkpnlbinfagpcaaGreatHa
import Derived.Test.YtkpnlbinfagpcaaGreatJa
import Derived.Test.YtkpnlbinfagpcaaGreatRows
set_option linter.all false
namespace Dx
open Go Go.Proofs
def t_az:Tree :=
 .call 0 [⟨.bool,(.v 0)⟩,⟨.list,(.v 1)⟩,⟨(.int .i64),(.v 2)⟩,⟨.list,(.v 3)⟩,⟨.list,(.v 4)⟩,⟨.list,(.v 5)⟩,⟨(.int .i64),(.n 1048576)⟩] [(.int .i64)]<|
 .letp .ltI [⟨(.int .i64),(.v 10)⟩,⟨(.int .i64),(.n 0)⟩]<|
 .ite (.v 11) (
 .ret [⟨.bool,(.b true)⟩])<|
 .call 1 [⟨(.int .i64),(.v 6)⟩,⟨(.int .i64),(.v 7)⟩,⟨(.int .i64),(.v 8)⟩,⟨.list,(.v 9)⟩,⟨(.int .i64),(.v 10)⟩] [(.int .i64)]<|
 .letp .ltI [⟨(.int .i64),(.v 12)⟩,⟨(.int .i64),(.n 0)⟩]<|
 .ite (.v 13) (
 .ret [⟨.bool,(.b true)⟩])<|
 .join [.bool,.list,(.int .i64),.list,.list,.list] (
 .call 2 [⟨.bool,(.v 0)⟩,⟨.list,(.v 1)⟩,⟨(.int .i64),(.v 2)⟩,⟨.list,(.v 3)⟩,⟨.list,(.v 4)⟩,⟨.list,(.v 5)⟩] [.bool,.list,(.int .i64),.list,.list,.list]<|
 .call 3 [⟨(.int .i64),(.v 6)⟩,⟨(.int .i64),(.v 7)⟩,⟨(.int .i64),(.v 8)⟩,⟨.list,(.v 9)⟩] [(.int .i64),(.int .i64),(.int .i64),.list]<|
 .call 4 [⟨.bool,(.v 14)⟩,⟨.list,(.v 15)⟩,⟨(.int .i64),(.v 16)⟩,⟨.list,(.v 17)⟩,⟨.list,(.v 18)⟩,⟨.list,(.v 19)⟩,⟨(.int .i64),(.v 20)⟩,⟨(.int .i64),(.v 21)⟩,⟨(.int .i64),(.v 22)⟩,⟨.list,(.v 23)⟩] [.bool,.list,(.int .i64),.list,.list,.list]<|
 .jump [⟨.bool,(.v 24)⟩,⟨.list,(.v 25)⟩,⟨(.int .i64),(.v 26)⟩,⟨.list,(.v 27)⟩,⟨.list,(.v 28)⟩,⟨.list,(.v 29)⟩])<|
 .call 2 [⟨.bool,(.v 0)⟩,⟨.list,(.v 1)⟩,⟨(.int .i64),(.v 2)⟩,⟨.list,(.v 3)⟩,⟨.list,(.v 4)⟩,⟨.list,(.v 5)⟩] [.bool,.list,(.int .i64),.list,.list,.list]<|
 .call 3 [⟨(.int .i64),(.v 6)⟩,⟨(.int .i64),(.v 7)⟩,⟨(.int .i64),(.v 8)⟩,⟨.list,(.v 9)⟩] [(.int .i64),(.int .i64),(.int .i64),.list]<|
 .call 5 [⟨.bool,(.v 20)⟩,⟨.list,(.v 21)⟩,⟨(.int .i64),(.v 22)⟩,⟨.list,(.v 23)⟩,⟨.list,(.v 24)⟩,⟨.list,(.v 25)⟩,⟨(.int .i64),(.v 26)⟩,⟨(.int .i64),(.v 27)⟩,⟨(.int .i64),(.v 28)⟩,⟨.list,(.v 29)⟩] [.bool,.list,(.int .i64),.list,.list,.list]<|
 .call 6 [⟨.bool,(.v 30)⟩,⟨.list,(.v 31)⟩,⟨(.int .i64),(.v 32)⟩,⟨.list,(.v 33)⟩,⟨.list,(.v 34)⟩,⟨.list,(.v 35)⟩,⟨.bool,(.v 14)⟩,⟨.list,(.v 15)⟩,⟨(.int .i64),(.v 16)⟩,⟨.list,(.v 17)⟩,⟨.list,(.v 18)⟩,⟨.list,(.v 19)⟩] [.bool]<|
 .letp .not [⟨.bool,(.v 36)⟩]<|
 .ite (.v 37) (
 .ret [⟨.bool,(.b false)⟩])<|
 .call 2 [⟨.bool,(.v 0)⟩,⟨.list,(.v 1)⟩,⟨(.int .i64),(.v 2)⟩,⟨.list,(.v 3)⟩,⟨.list,(.v 4)⟩,⟨.list,(.v 5)⟩] [.bool,.list,(.int .i64),.list,.list,.list]<|
 .call 6 [⟨.bool,(.v 20)⟩,⟨.list,(.v 21)⟩,⟨(.int .i64),(.v 22)⟩,⟨.list,(.v 23)⟩,⟨.list,(.v 24)⟩,⟨.list,(.v 25)⟩,⟨.bool,(.v 38)⟩,⟨.list,(.v 39)⟩,⟨(.int .i64),(.v 40)⟩,⟨.list,(.v 41)⟩,⟨.list,(.v 42)⟩,⟨.list,(.v 43)⟩] [.bool]<|
 .letp .not [⟨.bool,(.v 44)⟩]<|
 .ite (.v 45) (
 .ret [⟨.bool,(.b false)⟩])<|
 .call 3 [⟨(.int .i64),(.v 6)⟩,⟨(.int .i64),(.v 7)⟩,⟨(.int .i64),(.v 8)⟩,⟨.list,(.v 9)⟩] [(.int .i64),(.int .i64),(.int .i64),.list]<|
 .call 7 [⟨(.int .i64),(.v 26)⟩,⟨(.int .i64),(.v 27)⟩,⟨(.int .i64),(.v 28)⟩,⟨.list,(.v 29)⟩,⟨(.int .i64),(.v 46)⟩,⟨(.int .i64),(.v 47)⟩,⟨(.int .i64),(.v 48)⟩,⟨.list,(.v 49)⟩] [.bool]<|
 .letp .not [⟨.bool,(.v 50)⟩]<|
 .ite (.v 51) (
 .ret [⟨.bool,(.b false)⟩])<|
 .call 8 [⟨.bool,(.v 20)⟩,⟨.list,(.v 21)⟩,⟨(.int .i64),(.v 22)⟩,⟨.list,(.v 23)⟩,⟨.list,(.v 24)⟩,⟨.list,(.v 25)⟩,⟨(.int .i64),(.n 1)⟩] [(.int .i64),.bool,.list,(.int .i64),.list,.list,.list]<|
 .call 9 [⟨(.int .i64),(.v 26)⟩,⟨(.int .i64),(.v 27)⟩,⟨(.int .i64),(.v 28)⟩,⟨.list,(.v 29)⟩,⟨(.int .i64),(.v 52)⟩] [(.int .i64),(.int .i64),(.int .i64),(.int .i64),.list]<|
 .letp .ltI [⟨(.int .i64),(.v 59)⟩,⟨(.int .i64),(.n 0)⟩]<|
 .ite (.v 64) (
 .ret [⟨.bool,(.b false)⟩])<|
 .call 6 [⟨.bool,(.v 30)⟩,⟨.list,(.v 31)⟩,⟨(.int .i64),(.v 32)⟩,⟨.list,(.v 33)⟩,⟨.list,(.v 34)⟩,⟨.list,(.v 35)⟩,⟨.bool,(.v 14)⟩,⟨.list,(.v 15)⟩,⟨(.int .i64),(.v 16)⟩,⟨.list,(.v 17)⟩,⟨.list,(.v 18)⟩,⟨.list,(.v 19)⟩] [.bool]<|
 .letp .not [⟨.bool,(.v 65)⟩]<|
 .ite (.v 66) (
 .ret [⟨.bool,(.b false)⟩])<|
 .call 8 [⟨.bool,(.v 30)⟩,⟨.list,(.v 31)⟩,⟨(.int .i64),(.v 32)⟩,⟨.list,(.v 33)⟩,⟨.list,(.v 34)⟩,⟨.list,(.v 35)⟩,⟨(.int .i64),(.n 1)⟩] [(.int .i64),.bool,.list,(.int .i64),.list,.list,.list]<|
 .call 10 [⟨.bool,(.v 30)⟩,⟨.list,(.v 69)⟩,⟨(.int .i64),(.v 32)⟩,⟨.list,(.v 71)⟩,⟨.list,(.v 72)⟩,⟨.list,(.v 73)⟩,⟨(.int .i64),(.n 1)⟩] [(.int .i64)]<|
 .letp .ltI [⟨(.int .i64),(.v 74)⟩,⟨(.int .i64),(.n 0)⟩]<|
 .ite (.v 75) (
 .ret [⟨.bool,(.b false)⟩])<|
 .letp .neI [⟨(.int .i64),(.v 74)⟩,⟨(.int .i64),(.v 67)⟩]<|
 .ite (.v 76) (
 .ret [⟨.bool,(.b false)⟩])<|
 .call 2 [⟨.bool,(.v 0)⟩,⟨.list,(.v 1)⟩,⟨(.int .i64),(.v 2)⟩,⟨.list,(.v 3)⟩,⟨.list,(.v 4)⟩,⟨.list,(.v 5)⟩] [.bool,.list,(.int .i64),.list,.list,.list]<|
 .call 3 [⟨(.int .i64),(.v 6)⟩,⟨(.int .i64),(.v 7)⟩,⟨(.int .i64),(.v 8)⟩,⟨.list,(.v 9)⟩] [(.int .i64),(.int .i64),(.int .i64),.list]<|
 .call 5 [⟨.bool,(.v 77)⟩,⟨.list,(.v 78)⟩,⟨(.int .i64),(.v 79)⟩,⟨.list,(.v 80)⟩,⟨.list,(.v 81)⟩,⟨.list,(.v 82)⟩,⟨(.int .i64),(.v 83)⟩,⟨(.int .i64),(.v 84)⟩,⟨(.int .i64),(.v 85)⟩,⟨.list,(.v 86)⟩] [.bool,.list,(.int .i64),.list,.list,.list]<|
 .call 6 [⟨.bool,(.v 87)⟩,⟨.list,(.v 88)⟩,⟨(.int .i64),(.v 89)⟩,⟨.list,(.v 90)⟩,⟨.list,(.v 91)⟩,⟨.list,(.v 92)⟩,⟨.bool,(.v 14)⟩,⟨.list,(.v 15)⟩,⟨(.int .i64),(.v 16)⟩,⟨.list,(.v 17)⟩,⟨.list,(.v 18)⟩,⟨.list,(.v 19)⟩] [.bool]<|
 .letp .not [⟨.bool,(.v 93)⟩]<|
 .ite (.v 94) (
 .ret [⟨.bool,(.b false)⟩])<|
 .call 10 [⟨.bool,(.v 30)⟩,⟨.list,(.v 69)⟩,⟨(.int .i64),(.v 32)⟩,⟨.list,(.v 71)⟩,⟨.list,(.v 72)⟩,⟨.list,(.v 73)⟩,⟨(.int .i64),(.n 1)⟩] [(.int .i64)]<|
 .letp .ltI [⟨(.int .i64),(.v 95)⟩,⟨(.int .i64),(.n 0)⟩]<|
 .ite (.v 96) (
 .ret [⟨.bool,(.b false)⟩])<|
 .letp .neI [⟨(.int .i64),(.v 95)⟩,⟨(.int .i64),(.v 67)⟩]<|
 .ite (.v 97) (
 .ret [⟨.bool,(.b false)⟩])<|
 .ret [⟨.bool,(.b true)⟩]
noncomputable def Φ_az:Phi:=fun n=>match n with
 | 0=>pl
 | 1=>pm
 | 2=>pp
 | 3=>pq
 | 4=>vW
 | 5=>sQ
 | 6=>lC
 | 7=>p9
 | 8=>lD
 | 9=>wY
 | 10=>jC
 | _=>fun _=>none
noncomputable def φ_az(cs:List C):Option (List C):=ah (den Φ_az t_az cs)
end Dx
namespace Dx
open Go
set_option maxHeartbeats 1000000 in
theorem law_ExactWorldDo{w:Wd}{e:Ev}(b0:WC w)(he0:e.m.length ≤ 9223372036854775807):φ_az (w.e++e.e)=some [.bool true]:=by
 unfold φ_az t_az
 simp only[Wd.e,Ev.e,List.cons_append,List.nil_append]
 have e0:Φ_az 0=pl:=rfl
 have e1:Φ_az 1=pm:=rfl
 have e2:Φ_az 2=pp:=rfl
 have e3:Φ_az 3=pq:=rfl
 have e4:Φ_az 4=vW:=rfl
 have e5:Φ_az 5=sQ:=rfl
 have e6:Φ_az 6=lC:=rfl
 have e7:Φ_az 7=p9:=rfl
 have e8:Φ_az 8=lD:=rfl
 have e9:Φ_az 9=wY:=rfl
 have e10:Φ_az 10=jC:=rfl
 have z0:=Ad (l:=1048576) (by omega) (by omega) b0.rs b0.m b0.td b0.hs b0.h b0.ns
 obtain⟨L,hL⟩:∃ L,L=lft 1048576 (nWd w):=⟨_,rfl⟩
 rw[← hL]at z0
 by_cases hz:L<0
 ·refine sc e0 z0 rfl rfl ?_
  simp only[List.cons_append,List.nil_append]
  refine sl (congrArg C.bool (decide_eq_true hz)) ?_
  simp only[List.cons_append,List.nil_append]
  exact st rfl (Ao rfl)
 have b:WB w:=JE (by rw[← hL];exact hz)
 have hr:0 ≤ L ∧ L ≤ 1048576:=by
  have:=xY (l:=1048576) (n:=nWd w) (by omega) (by omega) (by rw[← hL];exact hz)
  rw[hL];exact this
 have z1:=Ae (e:=e) hr.1 hr.2 he0
 obtain⟨L1,hL1⟩:∃ L1,L1=lft L e.m.length:=⟨_,rfl⟩
 rw[← hL1]at z1
 by_cases hz1:L1<0
 ·refine sc e0 z0 rfl rfl ?_
  simp only[List.cons_append,List.nil_append]
  refine sl (congrArg C.bool (decide_eq_false hz)) ?_
  simp only[List.cons_append,List.nil_append]
  refine sf rfl (sc e1 z1 rfl rfl ?_)
  simp only[List.cons_append,List.nil_append]
  refine sl (congrArg C.bool (decide_eq_true hz1)) ?_
  simp only[List.cons_append,List.nil_append]
  exact st rfl (Ao rfl)
 have hn:nWd w ≤ 1048576:=by
  unfold lft at hL;split at hL<;>omega
 have hs:=zo w
 have he:e.m.length ≤ 2000000:=by
  have:=JD (l:=L) (n:=e.m.length) (by rw[← hL1];exact hz1)
  omega
 have c0:=Ag b
 have c1:=Ah he
 have g:=JC (c:=bW w) (w:=wdo w e) (fun h=>(worldOk_iff.1 h).do_ e)
 have p1:=xW b.ws (e:=e) he
 have p2:=xX b.ws (e:=e) he
 generalize (if bW w then wdo w e else wd0)=x at *
 have q0:=kc b
 have q1:=kc g.1
 have q2:=Aj he
 have k0:=ke (k:=1) (w:=w) (by omega) (by omega)
 have n0:=kd 1 w
 have k1:=F9 (k:=l4 1 w) (e:=e) (by omega) (by omega)
 have n1:¬ (ens mI (l4 1 w) e.m<0):=by rw[lI];omega
 have k2:=ke (k:=1) (w:=x) (by omega) (by omega)
 have n2:=kd 1 x
 have n3:¬ (l4 1 x<0):=by omega
 have h0:=rF (k:=1) (w:=x) (by omega) (by omega)
 simp only[Wd.e,F8,List.cons_append,List.nil_append]at p1 p2 k0 k2 h0
 obtain⟨K0,hK0⟩:∃ K,K=l4 1 w:=⟨_,rfl⟩
 rw[← hK0]at k0 k1 n1
 obtain⟨K1,hK1⟩:∃ K,K=ens mI K0 e.m:=⟨_,rfl⟩
 rw[← hK1]at k1 n1
 obtain⟨K2,hK2⟩:∃ K,K=l4 1 x:=⟨_,rfl⟩
 rw[← hK2]at k2 n3 h0
 have bb:∀ k:Int,C.bool (k != k)=C.bool false:=fun k=>congrArg C.bool (bne_self_eq_false k)
 refine sc e0 z0 rfl rfl ?_
 simp only[List.cons_append,List.nil_append]
 refine sl (congrArg C.bool (decide_eq_false hz)) ?_
 simp only[List.cons_append,List.nil_append]
 refine sf rfl ?_
 refine sc e1 z1 rfl rfl ?_
 simp only[List.cons_append,List.nil_append]
 refine sl (congrArg C.bool (decide_eq_false hz1)) ?_
 simp only[List.cons_append,List.nil_append]
 refine sf rfl ?_
 refine sj (cs:=[.bool x.dk.up,.list (x.dk.lg.rs.map Rec.e),.int .i64 x.dk.lg.f,.list (x.dk.td.map Word.e),.list (x.hs.map House.e),.list (x.ns.map Word.e)]) (dc e2 c0 rfl rfl (dc e3 c1 rfl rfl (dc e4 p2 rfl rfl (dj rfl)))) rfl ?_
 simp only[List.cons_append,List.nil_append]
 refine sc e2 c0 rfl rfl ?_
 simp only[List.cons_append,List.nil_append]
 refine sc e3 c1 rfl rfl ?_
 simp only[List.cons_append,List.nil_append]
 refine sc e5 p1 rfl rfl ?_
 simp only[List.cons_append,List.nil_append]
 refine sc e6 q1 rfl rfl ?_
 simp only[List.cons_append,List.nil_append]
 refine sl rfl ?_
 simp only[List.cons_append,List.nil_append]
 refine sf rfl ?_
 refine sc e2 c0 rfl rfl ?_
 simp only[List.cons_append,List.nil_append]
 refine sc e6 q0 rfl rfl ?_
 simp only[List.cons_append,List.nil_append]
 refine sl rfl ?_
 simp only[List.cons_append,List.nil_append]
 refine sf rfl ?_
 refine sc e3 c1 rfl rfl ?_
 simp only[List.cons_append,List.nil_append]
 refine sc e7 q2 rfl rfl ?_
 simp only[List.cons_append,List.nil_append]
 refine sl rfl ?_
 simp only[List.cons_append,List.nil_append]
 refine sf rfl ?_
 refine sc e8 k0 rfl rfl ?_
 simp only[List.cons_append,List.nil_append]
 refine sc e9 k1 rfl rfl ?_
 simp only[List.cons_append,List.nil_append]
 refine sl (congrArg C.bool (decide_eq_false n1)) ?_
 simp only[List.cons_append,List.nil_append]
 refine sf rfl ?_
 refine sc e6 q1 rfl rfl ?_
 simp only[List.cons_append,List.nil_append]
 refine sl rfl ?_
 simp only[List.cons_append,List.nil_append]
 refine sf rfl ?_
 refine sc e8 k2 rfl rfl ?_
 simp only[List.cons_append,List.nil_append]
 refine sc e10 h0 rfl rfl ?_
 simp only[List.cons_append,List.nil_append]
 refine sl (congrArg C.bool (decide_eq_false n3)) ?_
 simp only[List.cons_append,List.nil_append]
 refine sf rfl ?_
 refine sl (bb _) ?_
 simp only[List.cons_append,List.nil_append]
 refine sf rfl ?_
 refine sc e2 c0 rfl rfl ?_
 simp only[List.cons_append,List.nil_append]
 refine sc e3 c1 rfl rfl ?_
 simp only[List.cons_append,List.nil_append]
 refine sc e5 p1 rfl rfl ?_
 simp only[List.cons_append,List.nil_append]
 refine sc e6 q1 rfl rfl ?_
 simp only[List.cons_append,List.nil_append]
 refine sl rfl ?_
 simp only[List.cons_append,List.nil_append]
 refine sf rfl ?_
 refine sc e10 h0 rfl rfl ?_
 simp only[List.cons_append,List.nil_append]
 refine sl (congrArg C.bool (decide_eq_false n3)) ?_
 simp only[List.cons_append,List.nil_append]
 refine sf rfl ?_
 refine sl (bb _) ?_
 simp only[List.cons_append,List.nil_append]
 refine sf rfl ?_
 exact Ao rfl
end Dx
namespace Dx
open Go Go.Proofs
def c_az:Con:=⟨[.own true [.val,.val,.val,.val,.val,.val] kW false,.own true v4 [kI,kI,kI,.list] false],[⟨false,[.val],[.bool],false⟩]⟩
def h_az:How:=⟨ar [],
 ar [(9,⟨kW,[(6,(.ptr 1000 0))],[(1000,.cells [(.bool (.v 0)),(.view true (.v 1)),(sI 2),(.view true (.v 3)),(.view true (.v 4)),(.view true (.v 5))])],[],1⟩)],
 ar []⟩
theorem has_az:Has Tryz.prog 5 c_az φ_az:=fp (R:=al) (tr:=false) (E:=[(6,0,c_er),(22,1,c_ft),(8,2,c_ff),(24,3,c_eu),(23,4,c_fi),(25,5,c_ex),(10,6,JP),(26,7,c_eo),(11,8,JQ),(27,9,c_cg),(12,10,JR)]) (Φ:=Φ_az) (t:=t_az) ⟨DR,DS,DV,DW,K5,LP,zB,EO,zC,Ma,zD,trivial⟩ Tryz.f5 h_az (by kernel_rfl)
end Dx
namespace Go.Proofs.YtkpnlbinfagpcaaGreat.fnExactWorldDo
open Go.ChangeShapes Go.WideShapes Go.ChangeAt Go.RowKit Dx
set_option linter.unusedVariables false
set_option maxRecDepth 100000
theorem own:ownKnob Tryz.prog.godebug=none:=by kernel_rfl
theorem params:Tryz.f5.params=#[30,60]:=by kernel_rfl
theorem t4:Tryz.prog.underlying 4=some .bool:=by kernel_rfl
theorem tI:Tryz.prog.underlying 3=some (.int .i64):=by kernel_rfl
theorem tIs:Tryz.prog.underlying 46=some (.slice 3):=by kernel_rfl
theorem tRs:Tryz.prog.underlying 22=some (.slice 170):=by kernel_rfl
theorem tWs:Tryz.prog.underlying 25=some (.slice 105):=by kernel_rfl
theorem tHs:Tryz.prog.underlying 28=some (.slice 89):=by kernel_rfl
theorem tEs:Tryz.prog.underlying 47=some (.slice 60):=by kernel_rfl
theorem func:Tryz.prog.funcs[5]?=some Tryz.f5:=by kernel_rfl
theorem lo:laidOutB Tryz.prog=true:=by kernel_rfl
section
variable {H:Type} {enc:TypeId×Value → H} {W:World}
instance:Inhabited Rec:=⟨⟨0,0,[]⟩⟩
instance:Inhabited Word:=⟨⟨0,0,0,0⟩⟩
instance:Inhabited House:=⟨⟨0,false,0,⟨[],0⟩⟩⟩
instance:Inhabited Ev:=⟨⟨0,0,0,[]⟩⟩
abbrev On(t k:Nat){X:Type}(F:X → List C)(Q:X → Prop):Prop:=∀ {H:Type} {enc:TypeId×Value → H} {W:World},Opn enc Tryz.prog W t k F Q
theorem oI:On 3 1 eI (fun _=>True):=zq tI
theorem oB:On 4 1 (fun b:Bool=>[C.bool b]) (fun _=>True):=rI (by kernel_rfl)
theorem oIs:On 46 1 (fun l:List Int=>[C.list (l.map eI)]) (fun l=>l.length ≤ bS ∧ ∀ y∈l,True):=bV tIs (by kernel_rfl) (by decide) oI
theorem oR:On 170 3 Rec.e (fun r=>r.m.length ≤ bS) :=
 (co (k:=3) (fl:=[(3,0,1),(3,1,1),(46,2,1)]) (by kernel_rfl) (by kernel_rfl) (by kernel_rfl) (ax oI (ax oI (ax oIs cn)))).map (fun y=>(⟨y.1,y.2.1,y.2.2.1⟩:Rec)) (fun _=>rfl) (fun y h=>h.2.2.1.1)
theorem oRs:On 22 1 (fun l:List Rec=>[C.list (l.map Rec.e)]) (fun l=>l.length ≤ bS ∧ ∀ y∈l,y.m.length ≤ bS):=bV tRs (by kernel_rfl) (by decide) oR
theorem oL:On 24 2 Log.e (fun l=>l.rs.length ≤ bS ∧ ∀ y∈l.rs,y.m.length ≤ bS) :=
 (co (k:=2) (fl:=[(22,0,1),(3,1,1)]) (by kernel_rfl) (by kernel_rfl) (by kernel_rfl) (ax oRs (ax oI cn))).map (fun y=>(⟨y.1,y.2.1⟩:Log)) (fun _=>rfl) (fun y h=>h.1)
theorem oW:On 105 4 Word.e (fun _=>True) :=
 (co (k:=4) (fl:=[(3,0,1),(3,1,1),(3,2,1),(3,3,1)]) (by kernel_rfl) (by kernel_rfl) (by kernel_rfl) (ax oI (ax oI (ax oI (ax oI cn))))).map (fun y=>(⟨y.1,y.2.1,y.2.2.1,y.2.2.2.1⟩:Word)) (fun _=>rfl) (fun y h=>trivial)
theorem oWs:On 25 1 (fun l:List Word=>[C.list (l.map Word.e)]) (fun l=>l.length ≤ bS ∧ ∀ y∈l,True):=bV tWs (by kernel_rfl) (by decide) oW
theorem oH:On 89 5 House.e (fun h=>h.lg.rs.length ≤ bS ∧ ∀ y∈h.lg.rs,y.m.length ≤ bS) :=
 (co (k:=5) (fl:=[(3,0,1),(4,1,1),(3,2,1),(24,3,2)]) (by kernel_rfl) (by kernel_rfl) (by kernel_rfl) (ax oI (ax oB (ax oI (ax oL cn))))).map (fun y=>(⟨y.1,y.2.1,y.2.2.1,y.2.2.2.1⟩:House)) (fun _=>rfl) (fun y h=>h.2.2.2.1)
theorem oHs:On 28 1 (fun l:List House=>[C.list (l.map House.e)]) (fun l=>l.length ≤ bS ∧ ∀ h∈l,h.lg.rs.length ≤ bS ∧ ∀ y∈h.lg.rs,y.m.length ≤ bS):=bV tHs (by kernel_rfl) (by decide) oH
theorem oD:On 27 4 Desk.e (fun d=>(d.lg.rs.length ≤ bS ∧ ∀ y∈d.lg.rs,y.m.length ≤ bS) ∧ d.td.length ≤ bS) :=
 (co (k:=4) (fl:=[(4,0,1),(24,1,2),(25,3,1)]) (by kernel_rfl) (by kernel_rfl) (by kernel_rfl) (ax oB (ax oL (ax oWs cn)))).map (fun y=>(⟨y.1,y.2.1,y.2.2.1⟩:Desk)) (fun _=>rfl) (fun y h=>⟨h.2.1,h.2.2.1.1⟩)
theorem oWd:On 30 6 Wd.e WC :=
 (co (k:=6) (fl:=[(27,0,4),(28,4,1),(25,5,1)]) (by kernel_rfl) (by kernel_rfl) (by kernel_rfl) (ax oD (ax oHs (ax oWs cn)))).map (fun y=>(⟨y.1,y.2.1,y.2.2.1⟩:Wd)) (fun _=>rfl)
  (fun y h=>⟨h.1.1.1,h.1.1.2,h.1.2,h.2.1.1,h.2.1.2,h.2.2.1.1⟩)
theorem oE:On 60 4 Ev.e (fun e=>e.m.length ≤ bS) :=
 (co (k:=4) (fl:=[(3,0,1),(3,1,1),(3,2,1),(46,3,1)]) (by kernel_rfl) (by kernel_rfl) (by kernel_rfl) (ax oI (ax oI (ax oI (ax oIs cn))))).map (fun y=>(⟨y.1,y.2.1,y.2.2.1,y.2.2.2.1⟩:Ev)) (fun _=>rfl) (fun y h=>h.2.2.2.1.1)
theorem oEs:On 47 1 (fun l:List Ev=>[C.list (l.map Ev.e)]) (fun l=>l.length ≤ bS ∧ ∀ e∈l,e.m.length ≤ bS):=bV tEs (by kernel_rfl) (by decide) oE
end
theorem contract(H:Type)(enc:TypeId×Value → H)(W:World)(base:Nat)(args:Array Value)(ds gs:List (DataW H))(before:List MemPlace)
  (hval:∀(j:Nat) t v,Tryz.f5.params[j]?=some t → args[j]?=some v → Value.okWide Tryz.prog W .any base t v)
  (hW:DataW.Whole enc Tryz.prog Tryz.f5.params.toList Rows.fnExactWorldDoSpec.vars false W args.toList ds gs before) :
  Calls Tryz.prog 5 args W fun e W'=>∃ v,e=.returned v ∧ Rows.fnExactWorldDoSpec.post enc Tryz.prog Tryz.f5 false true false false W args v W':=by
 have hW':=hW
 obtain⟨p,q,hA0,hV,rfl,hfz,hnd⟩:=hW
 have hA:DataW.TrodAll enc Tryz.prog W 0 (fun _=>true) true Tryz.f5.params.toList args.toList ds p:=hA0
 rw[params]at hA hval
 obtain⟨v0,vs0,d0,ds0,p0,q0,hargs,rfl,rfl,h0,r0⟩:=trodAll_cons hA
 obtain⟨v1,vs1,d1,ds1,p1,q1,rfl,rfl,rfl,h1,r1⟩:=trodAll_cons r0
 obtain⟨rfl,rfl,rfl⟩:=trodAll_nil r1
 obtain rfl:args=#[v0,v1]:=by cases args;simp_all
 obtain⟨rfl,rfl⟩:=trodVars_none hV
 have lt:∀ x∈p0++p1,x.block<W.heap.size:=fun x hx=>hW'.lt x (by simpa using hx)
 obtain⟨y0,g0,par0⟩:=lP oWd (Z:=fun b=>b<W.heap.size ∧ b∉([]:List Nat)) (zr (by kernel_rfl) (hval 0 30 v0 rfl rfl)) h0 (ks:=[.bool,.list,.int .i64,.list,.list,.list]) (shs:=[.val,.val,.val,.val,.val,.val]) (fun _=>rfl) (fun _=>rfl)
 obtain⟨y1,g1,par1⟩:=lP oE (Z:=fun b=>b<W.heap.size ∧ b∉([]:List Nat)) (zr (by kernel_rfl) (hval 1 60 v1 rfl rfl)) h1 (ks:=[.int .i64,.int .i64,.int .i64,.list]) (shs:=[.val,.val,.val,.val]) (fun _=>rfl) (fun _=>rfl)
 have hlaw:φ_az (y0.e++y1.e)=some [.bool true]:=law_ExactWorldDo g0 g1
 refine(iY (vs:=[v0,v1]) has_az (by intro p hp;simp only[List.mem_cons,List.mem_nil_iff,or_false]at hp;rcases hp with rfl|rfl<;>exact⟨_,_,_,rfl⟩) ⟨y0.e,y1.e,v0,[v1],[],[],rfl,rfl,rfl,par0,y1.e,[],v1,[],[],[],(List.append_nil _).symm,rfl,rfl,par1,rfl,rfl,rfl⟩ hlaw).mono ?_
 rintro e W' ⟨rfl,z1,z2,z3⟩
 refine⟨_,rfl,[d0,d1],[],p0++p1,[],p0++p1,[],by simpa using hW',trodAll_cons_mk (shut_bool t4 _) trodAll_mk0,?_,rfl,rH z1 z2 z3 _,fun h=>by cases h⟩
 rw[params]
 have:=trodAll_cons_mk (fR lo (by kernel_rfl) (of_decide_eq_true (by kernel_rfl)) h0 z3 fun x hx=>lt x (by simp[hx])) (trodAll_cons_mk (fR lo (by kernel_rfl) (of_decide_eq_true (by kernel_rfl)) h1 z3 fun x hx=>lt x (by simp[hx])) (trodAll_mk0 (enc:=enc) (P:=Tryz.prog) (w:=W') (base:=0) (spare:=fun b=>decide (b<W.heap.size)) (held:=true)))
 rw[List.append_nil]at this
 exact this
set_option maxRecDepth 100000 in
theorem lifted(os:Os)(started:os.Started)(H:Type)(enc:TypeId×Value → H) :
  ReturnsInHanded {} Tryz.checked os 5 .any (Rows.fnExactWorldDoSpec.pre6 enc Tryz.prog Tryz.f5 Rows.fnExactWorldDoRow.domain false) (Rows.fnExactWorldDoSpec.post enc Tryz.prog Tryz.f5 false true false false):=by
 refine returnsInHanded_of_change (C:=Tryz.checked) own started (by kernel_rfl) func
  (ChangeSpec.witness6 (enc:=enc) (C:=Tryz.checked) false ⟨#[],#[.agg #[.bool false,.slice none 0 0,.int .i64 0,.slice none 0 0,.slice none 0 0,.slice none 0 0],.agg #[.int .i64 0,.int .i64 0,.int .i64 0,.slice none 0 0]],[]⟩ 8 (by kernel_rfl) (by kernel_rfl) (by kernel_rfl) (by kernel_rfl)) ?_
 intro W base args ds gs before hval hW _ _
 exact contract H enc W base args ds gs before hval hW
theorem proved:Rows.FnExactWorldDoSaid :=
 OpenClaim.holds_of_wide 5 Tryz.f5 rfl rfl rfl rfl rfl rfl rfl ⟨rfl,rfl,rfl,rfl,rfl⟩ rfl rfl rfl rfl rfl (by kernel_rfl) func (by kernel_rfl)
  (of_decide_eq_true (by kernel_rfl)) (by unfold Func.isWrapper;first|(rw[if_pos (by decide +kernel)];kernel_rfl)|(rw[if_neg (by decide +kernel)];exact⟨rfl,rfl⟩))
  (fun os started H enc _=>lifted os started H enc)
#print axioms proved
end Go.Proofs.YtkpnlbinfagpcaaGreat.fnExactWorldDo
