/- PROVED: Rows.FnExactWorldPlaySaid: whatever the input, laws.FnExactWorldPlay returns true, and its arguments read as they did. No condition beyond the statement's own. -/
import Derived.Test.YtkpnlbinfagpcaaGreatZb
import Derived.Test.YtkpnlbinfagpcaaGreatHa
import Derived.Test.YtkpnlbinfagpcaaGreatJa
import Derived.Test.YtkpnlbinfagpcaaGreatRows
set_option linter.all false
namespace Dx
open Go Go.Proofs
def t_ax:Tree :=
 .letp .len [⟨.list,(.v 0)⟩]<|
 .letp .gtI [⟨(.int .i64),(.v 2)⟩,⟨(.int .i64),(.n 1048576)⟩]<|
 .ite (.v 3) (
 .ret [⟨.bool,(.b true)⟩])<|
 .call 0 [⟨.list,(.v 1)⟩,⟨(.int .i64),(.n 1048576)⟩] [(.int .i64)]<|
 .letp .ltI [⟨(.int .i64),(.v 4)⟩,⟨(.int .i64),(.n 0)⟩]<|
 .ite (.v 5) (
 .ret [⟨.bool,(.b true)⟩])<|
 .call 1 [⟨.list,(.v 0)⟩] [.list]<|
 .call 2 [⟨.list,(.v 1)⟩] [.list]<|
 .call 3 [⟨.list,(.v 6)⟩,⟨.list,(.v 7)⟩] [.bool,.list,(.int .i64),.list,.list,.list,.bool]<|
 .call 1 [⟨.list,(.v 0)⟩] [.list]<|
 .call 2 [⟨.list,(.v 1)⟩] [.list]<|
 .call 4 [⟨.list,(.v 15)⟩,⟨.list,(.v 16)⟩] [.bool,.list,(.int .i64),.list,.list,.list,.bool]<|
 .call 5 [⟨.bool,(.v 17)⟩,⟨.list,(.v 18)⟩,⟨(.int .i64),(.v 19)⟩,⟨.list,(.v 20)⟩,⟨.list,(.v 21)⟩,⟨.list,(.v 22)⟩,⟨.bool,(.v 8)⟩,⟨.list,(.v 9)⟩,⟨(.int .i64),(.v 10)⟩,⟨.list,(.v 11)⟩,⟨.list,(.v 12)⟩,⟨.list,(.v 13)⟩] [.bool]<|
 .letp .not [⟨.bool,(.v 24)⟩]<|
 .ite (.v 25) (
 .ret [⟨.bool,(.b false)⟩])<|
 .letp .neB [⟨.bool,(.v 23)⟩,⟨.bool,(.v 14)⟩]<|
 .ite (.v 26) (
 .ret [⟨.bool,(.b false)⟩])<|
 .call 1 [⟨.list,(.v 0)⟩] [.list]<|
 .call 6 [⟨.list,(.v 15)⟩,⟨.list,(.v 27)⟩] [.bool]<|
 .letp .not [⟨.bool,(.v 28)⟩]<|
 .ite (.v 29) (
 .ret [⟨.bool,(.b false)⟩])<|
 .call 2 [⟨.list,(.v 1)⟩] [.list]<|
 .call 7 [⟨.list,(.v 16)⟩,⟨.list,(.v 30)⟩] [.bool]<|
 .letp .not [⟨.bool,(.v 31)⟩]<|
 .ite (.v 32) (
 .ret [⟨.bool,(.b false)⟩])<|
 .call 8 [⟨.list,(.v 15)⟩,⟨(.int .i64),(.n 1)⟩] [(.int .i64),.list]<|
 .call 9 [⟨.list,(.v 16)⟩,⟨(.int .i64),(.v 33)⟩] [(.int .i64),.list]<|
 .letp .ltI [⟨(.int .i64),(.v 35)⟩,⟨(.int .i64),(.n 0)⟩]<|
 .ite (.v 37) (
 .ret [⟨.bool,(.b false)⟩])<|
 .call 5 [⟨.bool,(.v 17)⟩,⟨.list,(.v 18)⟩,⟨(.int .i64),(.v 19)⟩,⟨.list,(.v 20)⟩,⟨.list,(.v 21)⟩,⟨.list,(.v 22)⟩,⟨.bool,(.v 8)⟩,⟨.list,(.v 9)⟩,⟨(.int .i64),(.v 10)⟩,⟨.list,(.v 11)⟩,⟨.list,(.v 12)⟩,⟨.list,(.v 13)⟩] [.bool]<|
 .letp .not [⟨.bool,(.v 38)⟩]<|
 .ite (.v 39) (
 .ret [⟨.bool,(.b false)⟩])<|
 .letp .neB [⟨.bool,(.v 23)⟩,⟨.bool,(.v 14)⟩]<|
 .ite (.v 40) (
 .ret [⟨.bool,(.b false)⟩])<|
 .call 10 [⟨.bool,(.v 17)⟩,⟨.list,(.v 18)⟩,⟨(.int .i64),(.v 19)⟩,⟨.list,(.v 20)⟩,⟨.list,(.v 21)⟩,⟨.list,(.v 22)⟩,⟨(.int .i64),(.n 1)⟩] [(.int .i64),.bool,.list,(.int .i64),.list,.list,.list]<|
 .call 11 [⟨.bool,(.v 17)⟩,⟨.list,(.v 43)⟩,⟨(.int .i64),(.v 19)⟩,⟨.list,(.v 45)⟩,⟨.list,(.v 46)⟩,⟨.list,(.v 47)⟩,⟨(.int .i64),(.n 1)⟩] [(.int .i64)]<|
 .letp .ltI [⟨(.int .i64),(.v 48)⟩,⟨(.int .i64),(.n 0)⟩]<|
 .ite (.v 49) (
 .ret [⟨.bool,(.b false)⟩])<|
 .letp .neI [⟨(.int .i64),(.v 48)⟩,⟨(.int .i64),(.v 41)⟩]<|
 .ite (.v 50) (
 .ret [⟨.bool,(.b false)⟩])<|
 .call 1 [⟨.list,(.v 0)⟩] [.list]<|
 .call 2 [⟨.list,(.v 1)⟩] [.list]<|
 .call 4 [⟨.list,(.v 51)⟩,⟨.list,(.v 52)⟩] [.bool,.list,(.int .i64),.list,.list,.list,.bool]<|
 .call 5 [⟨.bool,(.v 53)⟩,⟨.list,(.v 54)⟩,⟨(.int .i64),(.v 55)⟩,⟨.list,(.v 56)⟩,⟨.list,(.v 57)⟩,⟨.list,(.v 58)⟩,⟨.bool,(.v 8)⟩,⟨.list,(.v 9)⟩,⟨(.int .i64),(.v 10)⟩,⟨.list,(.v 11)⟩,⟨.list,(.v 12)⟩,⟨.list,(.v 13)⟩] [.bool]<|
 .letp .not [⟨.bool,(.v 60)⟩]<|
 .ite (.v 61) (
 .ret [⟨.bool,(.b false)⟩])<|
 .letp .neB [⟨.bool,(.v 59)⟩,⟨.bool,(.v 14)⟩]<|
 .ite (.v 62) (
 .ret [⟨.bool,(.b false)⟩])<|
 .call 11 [⟨.bool,(.v 17)⟩,⟨.list,(.v 43)⟩,⟨(.int .i64),(.v 19)⟩,⟨.list,(.v 45)⟩,⟨.list,(.v 46)⟩,⟨.list,(.v 47)⟩,⟨(.int .i64),(.n 1)⟩] [(.int .i64)]<|
 .letp .ltI [⟨(.int .i64),(.v 63)⟩,⟨(.int .i64),(.n 0)⟩]<|
 .ite (.v 64) (
 .ret [⟨.bool,(.b false)⟩])<|
 .letp .neI [⟨(.int .i64),(.v 63)⟩,⟨(.int .i64),(.v 41)⟩]<|
 .ite (.v 65) (
 .ret [⟨.bool,(.b false)⟩])<|
 .ret [⟨.bool,(.b true)⟩]
noncomputable def Φ_ax:Phi:=fun n=>match n with
 | 0=>xg
 | 1=>lq
 | 2=>xh
 | 3=>xl
 | 4=>xp
 | 5=>lC
 | 6=>lB
 | 7=>xq
 | 8=>iO
 | 9=>xr
 | 10=>lD
 | 11=>jC
 | _=>fun _=>none
noncomputable def φ_ax(cs:List C):Option (List C):=ah (den Φ_ax t_ax cs)
end Dx
namespace Dx
open Go
theorem sE_le:∀ es:List Ev,sE es ≤ 3*(es.length+nEv es)
 | []=>by simp[sE]
 | x::xs=>by
  have:=sE_le xs
  simp only[sE,nEv,List.map_cons,List.sum_cons,List.length_cons]at *;omega
set_option maxHeartbeats 1000000 in
theorem law_ExactWorldPlay{rooms:List Int}{es:List Ev}(hel0:es.length ≤ 9223372036854775807)(hem0:∀ e∈es,e.m.length ≤ 9223372036854775807):φ_ax [.list (rooms.map eI),.list (es.map Ev.e)]=some [.bool true]:=by
 unfold φ_ax t_ax
 have e0:Φ_ax 0=xg:=rfl
 have e1:Φ_ax 1=lq:=rfl
 have e2:Φ_ax 2=xh:=rfl
 have e3:Φ_ax 3=xl:=rfl
 have e4:Φ_ax 4=xp:=rfl
 have e5:Φ_ax 5=lC:=rfl
 have e6:Φ_ax 6=lB:=rfl
 have e7:Φ_ax 7=xq:=rfl
 have e8:Φ_ax 8=iO:=rfl
 have e9:Φ_ax 9=xr:=rfl
 have e10:Φ_ax 10=lD:=rfl
 have e11:Φ_ax 11=jC:=rfl
 refine sl rfl ?_
 simp only[List.cons_append,List.nil_append]
 by_cases hr:(((rooms.map eI).length:Nat):Int)>1048576
 ·refine sl (congrArg C.bool (decide_eq_true hr)) ?_
  simp only[List.cons_append,List.nil_append]
  exact st rfl (Ao rfl)
 have hr':rooms.length ≤ 1048576:=by rw[List.length_map]at hr;omega
 have z0:=CY (l:=1048576) (by omega) (by omega) hel0 hem0
 obtain⟨L,hL⟩:∃ L,L=lft 1048576 (es.length+nEv es):=⟨_,rfl⟩
 rw[← hL]at z0
 refine sl (congrArg C.bool (decide_eq_false hr)) ?_
 simp only[List.cons_append,List.nil_append]
 refine sf rfl ?_
 by_cases hz:L<0
 ·refine sc e0 z0 rfl rfl ?_
  simp only[List.cons_append,List.nil_append]
  refine sl (congrArg C.bool (decide_eq_true hz)) ?_
  simp only[List.cons_append,List.nil_append]
  exact st rfl (Ao rfl)
 have hn:es.length+nEv es ≤ 1048576:=by
  unfold lft at hL;split at hL<;>omega
 have hel:es.length ≤ 2000000:=by omega
 have hem:∀ e∈es,e.m.length ≤ 2000000:=fun e h=>by have:=Ap h;omega
 have hsE:=sE_le es
 have c0:=zj (l:=rooms) (by omega)
 have c1:=CZ hel hem
 have g:WB ((bN rooms es).getD wd0) ∧ sWd ((bN rooms es).getD wd0) ≤ 100000:=by
  cases hw:bN rooms es with
  | none=>exact DL
  | some v=>exact(Cv hw).1.wb
 have p1:=ue (rooms:=rooms) (es:=es) (by omega) (by omega) hem
 have p2:=t7 (rooms:=rooms) (es:=es) (by omega) (by omega) hem
 generalize (bN rooms es).getD wd0=x at *
 generalize (bN rooms es).isSome=ok at *
 have q1:=kc g.1
 have q2:=zk (l:=rooms) (by omega)
 have q3:=C0 hel hem
 have k0:=tn (k:=1) (l:=rooms) (by omega) (by omega)
 have n0:=lI rooms 1
 have k1:=C1 (k:=ens mI 1 rooms) (l:=es) (by omega) (by omega)
 have n1:¬ (ens mE (ens mI 1 rooms) es<0):=by rw[JF];omega
 have k2:=ke (k:=1) (w:=x) (by omega) (by omega)
 have n2:=kd 1 x
 have n3:¬ (l4 1 x<0):=by omega
 have h0:=rF (k:=1) (w:=x) (by omega) (by omega)
 simp only[Wd.e,F8,List.cons_append,List.nil_append]at p1 p2 k2 h0
 obtain⟨K0,hK0⟩:∃ K,K=ens mI 1 rooms:=⟨_,rfl⟩
 rw[← hK0]at k0 k1 n1
 obtain⟨K1,hK1⟩:∃ K,K=ens mE K0 es:=⟨_,rfl⟩
 rw[← hK1]at k1 n1
 obtain⟨K2,hK2⟩:∃ K,K=l4 1 x:=⟨_,rfl⟩
 rw[← hK2]at k2 n3 h0
 have bb:∀ k:Int,C.bool (k != k)=C.bool false:=fun k=>congrArg C.bool (bne_self_eq_false k)
 have bn:∀ k:Bool,C.bool (!(k==k))=C.bool false:=fun k=>by cases k<;>rfl
 refine sc e0 z0 rfl rfl ?_
 simp only[List.cons_append,List.nil_append]
 refine sl (congrArg C.bool (decide_eq_false hz)) ?_
 simp only[List.cons_append,List.nil_append]
 refine sf rfl ?_
 refine sc e1 c0 rfl rfl ?_
 simp only[List.cons_append,List.nil_append]
 refine sc e2 c1 rfl rfl ?_
 simp only[List.cons_append,List.nil_append]
 refine sc e3 p2 rfl rfl ?_
 simp only[List.cons_append,List.nil_append]
 refine sc e1 c0 rfl rfl ?_
 simp only[List.cons_append,List.nil_append]
 refine sc e2 c1 rfl rfl ?_
 simp only[List.cons_append,List.nil_append]
 refine sc e4 p1 rfl rfl ?_
 simp only[List.cons_append,List.nil_append]
 refine sc e5 q1 rfl rfl ?_
 simp only[List.cons_append,List.nil_append]
 refine sl rfl ?_
 simp only[List.cons_append,List.nil_append]
 refine sf rfl ?_
 refine sl (bn _) ?_
 simp only[List.cons_append,List.nil_append]
 refine sf rfl ?_
 refine sc e1 c0 rfl rfl ?_
 simp only[List.cons_append,List.nil_append]
 refine sc e6 q2 rfl rfl ?_
 simp only[List.cons_append,List.nil_append]
 refine sl rfl ?_
 simp only[List.cons_append,List.nil_append]
 refine sf rfl ?_
 refine sc e2 c1 rfl rfl ?_
 simp only[List.cons_append,List.nil_append]
 refine sc e7 q3 rfl rfl ?_
 simp only[List.cons_append,List.nil_append]
 refine sl rfl ?_
 simp only[List.cons_append,List.nil_append]
 refine sf rfl ?_
 refine sc e8 k0 rfl rfl ?_
 simp only[List.cons_append,List.nil_append]
 refine sc e9 k1 rfl rfl ?_
 simp only[List.cons_append,List.nil_append]
 refine sl (congrArg C.bool (decide_eq_false n1)) ?_
 simp only[List.cons_append,List.nil_append]
 refine sf rfl ?_
 refine sc e5 q1 rfl rfl ?_
 simp only[List.cons_append,List.nil_append]
 refine sl rfl ?_
 simp only[List.cons_append,List.nil_append]
 refine sf rfl ?_
 refine sl (bn _) ?_
 simp only[List.cons_append,List.nil_append]
 refine sf rfl ?_
 refine sc e10 k2 rfl rfl ?_
 simp only[List.cons_append,List.nil_append]
 refine sc e11 h0 rfl rfl ?_
 simp only[List.cons_append,List.nil_append]
 refine sl (congrArg C.bool (decide_eq_false n3)) ?_
 simp only[List.cons_append,List.nil_append]
 refine sf rfl ?_
 refine sl (bb _) ?_
 simp only[List.cons_append,List.nil_append]
 refine sf rfl ?_
 refine sc e1 c0 rfl rfl ?_
 simp only[List.cons_append,List.nil_append]
 refine sc e2 c1 rfl rfl ?_
 simp only[List.cons_append,List.nil_append]
 refine sc e4 p1 rfl rfl ?_
 simp only[List.cons_append,List.nil_append]
 refine sc e5 q1 rfl rfl ?_
 simp only[List.cons_append,List.nil_append]
 refine sl rfl ?_
 simp only[List.cons_append,List.nil_append]
 refine sf rfl ?_
 refine sl (bn _) ?_
 simp only[List.cons_append,List.nil_append]
 refine sf rfl ?_
 refine sc e11 h0 rfl rfl ?_
 simp only[List.cons_append,List.nil_append]
 refine sl (congrArg C.bool (decide_eq_false n3)) ?_
 simp only[List.cons_append,List.nil_append]
 refine sf rfl ?_
 refine sl (bb _) ?_
 simp only[List.cons_append,List.nil_append]
 refine sf rfl ?_
 exact Ao rfl
end Dx
namespace Dx
open Go Go.Proofs
def c_ax:Con:=⟨[.own false [.val] [.list] false,.own false [.val] [.list] false],[⟨false,[.val],[.bool],false⟩]⟩
theorem has_ax:Has Tryz.prog 4 c_ax φ_ax:=fp (R:=al) (tr:=false) (E:=[(13,0,c_dn),(15,1,JH),(16,2,c_do),(14,3,c_cp),(17,4,c_cb),(10,5,JP),(18,6,JO),(19,7,c_ea),(20,8,Gh),(21,9,c_bn),(11,10,JQ),(12,11,JR)]) (Φ:=Φ_ax) (t:=t_ax) ⟨Mm,zt,Mn,Mr,Mv,zB,zA,Mw,tx,Mx,zC,zD,trivial⟩ Tryz.f4 hE (by kernel_rfl)
end Dx
namespace Go.Proofs.YtkpnlbinfagpcaaGreat.fnExactWorldPlay
open Go.ChangeShapes Go.WideShapes Go.ChangeAt Go.RowKit Dx
set_option linter.unusedVariables false
set_option maxRecDepth 100000
theorem own:ownKnob Tryz.prog.godebug=none:=by kernel_rfl
theorem params:Tryz.f4.params=#[46,47]:=by kernel_rfl
theorem t4:Tryz.prog.underlying 4=some .bool:=by kernel_rfl
theorem tI:Tryz.prog.underlying 3=some (.int .i64):=by kernel_rfl
theorem tIs:Tryz.prog.underlying 46=some (.slice 3):=by kernel_rfl
theorem tRs:Tryz.prog.underlying 22=some (.slice 170):=by kernel_rfl
theorem tWs:Tryz.prog.underlying 25=some (.slice 105):=by kernel_rfl
theorem tHs:Tryz.prog.underlying 28=some (.slice 89):=by kernel_rfl
theorem tEs:Tryz.prog.underlying 47=some (.slice 60):=by kernel_rfl
theorem func:Tryz.prog.funcs[4]?=some Tryz.f4:=by kernel_rfl
theorem lo:laidOutB Tryz.prog=true:=by kernel_rfl
section
variable {H:Type} {enc:TypeId×Value → H} {W:World}
instance:Inhabited Rec:=⟨⟨0,0,[]⟩⟩
instance:Inhabited Word:=⟨⟨0,0,0,0⟩⟩
instance:Inhabited House:=⟨⟨0,false,0,⟨[],0⟩⟩⟩
instance:Inhabited Ev:=⟨⟨0,0,0,[]⟩⟩
abbrev On(t k:Nat){X:Type}(F:X → List C)(Q:X → Prop):Prop:=∀ {H:Type} {enc:TypeId×Value → H} {W:World},Opn enc Tryz.prog W t k F Q
theorem oI:On 3 1 eI (fun _=>True):=zq tI
theorem oB:On 4 1 (fun b:Bool=>[C.bool b]) (fun _=>True):=rI (by kernel_rfl)
theorem oIs:On 46 1 (fun l:List Int=>[C.list (l.map eI)]) (fun l=>l.length ≤ bS ∧ ∀ y∈l,True):=bV tIs (by kernel_rfl) (by decide) oI
theorem oR:On 170 3 Rec.e (fun r=>r.m.length ≤ bS) :=
 (co (k:=3) (fl:=[(3,0,1),(3,1,1),(46,2,1)]) (by kernel_rfl) (by kernel_rfl) (by kernel_rfl) (ax oI (ax oI (ax oIs cn)))).map (fun y=>(⟨y.1,y.2.1,y.2.2.1⟩:Rec)) (fun _=>rfl) (fun y h=>h.2.2.1.1)
theorem oRs:On 22 1 (fun l:List Rec=>[C.list (l.map Rec.e)]) (fun l=>l.length ≤ bS ∧ ∀ y∈l,y.m.length ≤ bS):=bV tRs (by kernel_rfl) (by decide) oR
theorem oL:On 24 2 Log.e (fun l=>l.rs.length ≤ bS ∧ ∀ y∈l.rs,y.m.length ≤ bS) :=
 (co (k:=2) (fl:=[(22,0,1),(3,1,1)]) (by kernel_rfl) (by kernel_rfl) (by kernel_rfl) (ax oRs (ax oI cn))).map (fun y=>(⟨y.1,y.2.1⟩:Log)) (fun _=>rfl) (fun y h=>h.1)
theorem oW:On 105 4 Word.e (fun _=>True) :=
 (co (k:=4) (fl:=[(3,0,1),(3,1,1),(3,2,1),(3,3,1)]) (by kernel_rfl) (by kernel_rfl) (by kernel_rfl) (ax oI (ax oI (ax oI (ax oI cn))))).map (fun y=>(⟨y.1,y.2.1,y.2.2.1,y.2.2.2.1⟩:Word)) (fun _=>rfl) (fun y h=>trivial)
theorem oWs:On 25 1 (fun l:List Word=>[C.list (l.map Word.e)]) (fun l=>l.length ≤ bS ∧ ∀ y∈l,True):=bV tWs (by kernel_rfl) (by decide) oW
theorem oH:On 89 5 House.e (fun h=>h.lg.rs.length ≤ bS ∧ ∀ y∈h.lg.rs,y.m.length ≤ bS) :=
 (co (k:=5) (fl:=[(3,0,1),(4,1,1),(3,2,1),(24,3,2)]) (by kernel_rfl) (by kernel_rfl) (by kernel_rfl) (ax oI (ax oB (ax oI (ax oL cn))))).map (fun y=>(⟨y.1,y.2.1,y.2.2.1,y.2.2.2.1⟩:House)) (fun _=>rfl) (fun y h=>h.2.2.2.1)
theorem oHs:On 28 1 (fun l:List House=>[C.list (l.map House.e)]) (fun l=>l.length ≤ bS ∧ ∀ h∈l,h.lg.rs.length ≤ bS ∧ ∀ y∈h.lg.rs,y.m.length ≤ bS):=bV tHs (by kernel_rfl) (by decide) oH
theorem oD:On 27 4 Desk.e (fun d=>(d.lg.rs.length ≤ bS ∧ ∀ y∈d.lg.rs,y.m.length ≤ bS) ∧ d.td.length ≤ bS) :=
 (co (k:=4) (fl:=[(4,0,1),(24,1,2),(25,3,1)]) (by kernel_rfl) (by kernel_rfl) (by kernel_rfl) (ax oB (ax oL (ax oWs cn)))).map (fun y=>(⟨y.1,y.2.1,y.2.2.1⟩:Desk)) (fun _=>rfl) (fun y h=>⟨h.2.1,h.2.2.1.1⟩)
theorem oWd:On 30 6 Wd.e WC :=
 (co (k:=6) (fl:=[(27,0,4),(28,4,1),(25,5,1)]) (by kernel_rfl) (by kernel_rfl) (by kernel_rfl) (ax oD (ax oHs (ax oWs cn)))).map (fun y=>(⟨y.1,y.2.1,y.2.2.1⟩:Wd)) (fun _=>rfl)
  (fun y h=>⟨h.1.1.1,h.1.1.2,h.1.2,h.2.1.1,h.2.1.2,h.2.2.1.1⟩)
theorem oE:On 60 4 Ev.e (fun e=>e.m.length ≤ bS) :=
 (co (k:=4) (fl:=[(3,0,1),(3,1,1),(3,2,1),(46,3,1)]) (by kernel_rfl) (by kernel_rfl) (by kernel_rfl) (ax oI (ax oI (ax oI (ax oIs cn))))).map (fun y=>(⟨y.1,y.2.1,y.2.2.1,y.2.2.2.1⟩:Ev)) (fun _=>rfl) (fun y h=>h.2.2.2.1.1)
theorem oEs:On 47 1 (fun l:List Ev=>[C.list (l.map Ev.e)]) (fun l=>l.length ≤ bS ∧ ∀ e∈l,e.m.length ≤ bS):=bV tEs (by kernel_rfl) (by decide) oE
end
theorem contract(H:Type)(enc:TypeId×Value → H)(W:World)(base:Nat)(args:Array Value)(ds gs:List (DataW H))(before:List MemPlace)
  (hval:∀(j:Nat) t v,Tryz.f4.params[j]?=some t → args[j]?=some v → Value.okWide Tryz.prog W .any base t v)
  (hW:DataW.Whole enc Tryz.prog Tryz.f4.params.toList Rows.fnExactWorldPlaySpec.vars false W args.toList ds gs before) :
  Calls Tryz.prog 4 args W fun e W'=>∃ v,e=.returned v ∧ Rows.fnExactWorldPlaySpec.post enc Tryz.prog Tryz.f4 false true false false W args v W':=by
 have hW':=hW
 obtain⟨p,q,hA0,hV,rfl,hfz,hnd⟩:=hW
 have hA:DataW.TrodAll enc Tryz.prog W 0 (fun _=>true) true Tryz.f4.params.toList args.toList ds p:=hA0
 rw[params]at hA hval
 obtain⟨v0,vs0,d0,ds0,p0,q0,hargs,rfl,rfl,h0,r0⟩:=trodAll_cons hA
 obtain⟨v1,vs1,d1,ds1,p1,q1,rfl,rfl,rfl,h1,r1⟩:=trodAll_cons r0
 obtain⟨rfl,rfl,rfl⟩:=trodAll_nil r1
 obtain rfl:args=#[v0,v1]:=by cases args;simp_all
 obtain⟨rfl,rfl⟩:=trodVars_none hV
 have lt:∀ x∈p0++p1,x.block<W.heap.size:=fun x hx=>hW'.lt x (by simpa using hx)
 obtain⟨y0,g0,par0⟩:=lP oIs (Z:=fun b=>b<W.heap.size ∧ b∉([]:List Nat)) (DN tIs (hval 0 46 v0 rfl rfl)) h0 (ks:=[.list]) (shs:=[.val]) (fun _=>rfl) (fun _=>rfl)
 obtain⟨y1,g1,par1⟩:=lP oEs (Z:=fun b=>b<W.heap.size ∧ b∉([]:List Nat)) (DN tEs (hval 1 47 v1 rfl rfl)) h1 (ks:=[.list]) (shs:=[.val]) (fun _=>rfl) (fun _=>rfl)
 have hlaw:φ_ax ([C.list (y0.map eI)]++[C.list (y1.map Ev.e)])=some [.bool true]:=law_ExactWorldPlay g1.1 g1.2
 refine(iY (vs:=[v0,v1]) has_ax (by intro p hp;simp only[List.mem_cons,List.mem_nil_iff,or_false]at hp;rcases hp with rfl|rfl<;>exact⟨_,_,_,rfl⟩) ⟨[C.list (y0.map eI)],[C.list (y1.map Ev.e)],v0,[v1],[],[],rfl,rfl,rfl,par0,[C.list (y1.map Ev.e)],[],v1,[],[],[],(List.append_nil _).symm,rfl,rfl,par1,rfl,rfl,rfl⟩ hlaw).mono ?_
 rintro e W' ⟨rfl,z1,z2,z3⟩
 refine⟨_,rfl,[d0,d1],[],p0++p1,[],p0++p1,[],by simpa using hW',trodAll_cons_mk (shut_bool t4 _) trodAll_mk0,?_,rfl,rH z1 z2 z3 _,fun h=>by cases h⟩
 rw[params]
 have:=trodAll_cons_mk (fR lo (by kernel_rfl) (of_decide_eq_true (by kernel_rfl)) h0 z3 fun x hx=>lt x (by simp[hx])) (trodAll_cons_mk (fR lo (by kernel_rfl) (of_decide_eq_true (by kernel_rfl)) h1 z3 fun x hx=>lt x (by simp[hx])) (trodAll_mk0 (enc:=enc) (P:=Tryz.prog) (w:=W') (base:=0) (spare:=fun b=>decide (b<W.heap.size)) (held:=true)))
 rw[List.append_nil]at this
 exact this
set_option maxRecDepth 100000 in
theorem lifted(os:Os)(started:os.Started)(H:Type)(enc:TypeId×Value → H) :
  ReturnsInHanded {} Tryz.checked os 4 .any (Rows.fnExactWorldPlaySpec.pre6 enc Tryz.prog Tryz.f4 Rows.fnExactWorldPlayRow.domain false) (Rows.fnExactWorldPlaySpec.post enc Tryz.prog Tryz.f4 false true false false):=by
 refine returnsInHanded_of_change (C:=Tryz.checked) own started (by kernel_rfl) func
  (ChangeSpec.witness6 (enc:=enc) (C:=Tryz.checked) false ⟨#[],#[.slice none 0 0,.slice none 0 0],[]⟩ 8 (by kernel_rfl) (by kernel_rfl) (by kernel_rfl) (by kernel_rfl)) ?_
 intro W base args ds gs before hval hW _ _
 exact contract H enc W base args ds gs before hval hW
theorem proved:Rows.FnExactWorldPlaySaid :=
 OpenClaim.holds_of_wide 4 Tryz.f4 rfl rfl rfl rfl rfl rfl rfl ⟨rfl,rfl,rfl,rfl,rfl⟩ rfl rfl rfl rfl rfl (by kernel_rfl) func (by kernel_rfl)
  (of_decide_eq_true (by kernel_rfl)) (by unfold Func.isWrapper;first|(rw[if_pos (by decide +kernel)];kernel_rfl)|(rw[if_neg (by decide +kernel)];exact⟨rfl,rfl⟩))
  (fun os started H enc _=>lifted os started H enc)
#print axioms proved
end Go.Proofs.YtkpnlbinfagpcaaGreat.fnExactWorldPlay
