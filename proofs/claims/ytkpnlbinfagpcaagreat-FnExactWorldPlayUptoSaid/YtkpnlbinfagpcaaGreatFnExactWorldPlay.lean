/- PROVED: Rows.FnExactWorldPlayUptoSaid: whatever the input of bulk at most 1048576, laws.FnExactWorldPlay returns true, and its arguments read as they did. No condition beyond the statement's own. -/
import Derived.Test.YtkpnlbinfagpcaaGreatZb
import Derived.Test.YtkpnlbinfagpcaaGreatHa
import Derived.Test.YtkpnlbinfagpcaaGreatJa
import Derived.Test.YtkpnlbinfagpcaaGreatRows
set_option linter.all false
namespace Dx
open Go Go.Proofs
def t_ax:Tree :=
 .letp .len [⟨.list,(.v 0)⟩]<|
 .letp .gtI [⟨(.int .i64),(.v 2)⟩,⟨(.int .i64),(.n 1048576)⟩]<|
 .ite (.v 3) (
 .ret [⟨.bool,(.b true)⟩])<|
 .call 0 [⟨.list,(.v 1)⟩,⟨(.int .i64),(.n 1048576)⟩] [(.int .i64)]<|
 .letp .ltI [⟨(.int .i64),(.v 4)⟩,⟨(.int .i64),(.n 0)⟩]<|
 .ite (.v 5) (
 .ret [⟨.bool,(.b true)⟩])<|
 .call 1 [⟨.list,(.v 0)⟩] [.list]<|
 .call 2 [⟨.list,(.v 1)⟩] [.list]<|
 .call 3 [⟨.list,(.v 6)⟩,⟨.list,(.v 7)⟩] [.bool,.list,(.int .i64),.list,.list,.list,.bool]<|
 .call 1 [⟨.list,(.v 0)⟩] [.list]<|
 .call 2 [⟨.list,(.v 1)⟩] [.list]<|
 .call 4 [⟨.list,(.v 15)⟩,⟨.list,(.v 16)⟩] [.bool,.list,(.int .i64),.list,.list,.list,.bool]<|
 .call 5 [⟨.bool,(.v 17)⟩,⟨.list,(.v 18)⟩,⟨(.int .i64),(.v 19)⟩,⟨.list,(.v 20)⟩,⟨.list,(.v 21)⟩,⟨.list,(.v 22)⟩,⟨.bool,(.v 8)⟩,⟨.list,(.v 9)⟩,⟨(.int .i64),(.v 10)⟩,⟨.list,(.v 11)⟩,⟨.list,(.v 12)⟩,⟨.list,(.v 13)⟩] [.bool]<|
 .letp .not [⟨.bool,(.v 24)⟩]<|
 .ite (.v 25) (
 .ret [⟨.bool,(.b false)⟩])<|
 .letp .neB [⟨.bool,(.v 23)⟩,⟨.bool,(.v 14)⟩]<|
 .ite (.v 26) (
 .ret [⟨.bool,(.b false)⟩])<|
 .call 1 [⟨.list,(.v 0)⟩] [.list]<|
 .call 6 [⟨.list,(.v 15)⟩,⟨.list,(.v 27)⟩] [.bool]<|
 .letp .not [⟨.bool,(.v 28)⟩]<|
 .ite (.v 29) (
 .ret [⟨.bool,(.b false)⟩])<|
 .call 2 [⟨.list,(.v 1)⟩] [.list]<|
 .call 7 [⟨.list,(.v 16)⟩,⟨.list,(.v 30)⟩] [.bool]<|
 .letp .not [⟨.bool,(.v 31)⟩]<|
 .ite (.v 32) (
 .ret [⟨.bool,(.b false)⟩])<|
 .call 8 [⟨.list,(.v 15)⟩,⟨(.int .i64),(.n 1)⟩] [(.int .i64),.list]<|
 .call 9 [⟨.list,(.v 16)⟩,⟨(.int .i64),(.v 33)⟩] [(.int .i64),.list]<|
 .letp .ltI [⟨(.int .i64),(.v 35)⟩,⟨(.int .i64),(.n 0)⟩]<|
 .ite (.v 37) (
 .ret [⟨.bool,(.b false)⟩])<|
 .call 5 [⟨.bool,(.v 17)⟩,⟨.list,(.v 18)⟩,⟨(.int .i64),(.v 19)⟩,⟨.list,(.v 20)⟩,⟨.list,(.v 21)⟩,⟨.list,(.v 22)⟩,⟨.bool,(.v 8)⟩,⟨.list,(.v 9)⟩,⟨(.int .i64),(.v 10)⟩,⟨.list,(.v 11)⟩,⟨.list,(.v 12)⟩,⟨.list,(.v 13)⟩] [.bool]<|
 .letp .not [⟨.bool,(.v 38)⟩]<|
 .ite (.v 39) (
 .ret [⟨.bool,(.b false)⟩])<|
 .letp .neB [⟨.bool,(.v 23)⟩,⟨.bool,(.v 14)⟩]<|
 .ite (.v 40) (
 .ret [⟨.bool,(.b false)⟩])<|
 .call 10 [⟨.bool,(.v 17)⟩,⟨.list,(.v 18)⟩,⟨(.int .i64),(.v 19)⟩,⟨.list,(.v 20)⟩,⟨.list,(.v 21)⟩,⟨.list,(.v 22)⟩,⟨(.int .i64),(.n 1)⟩] [(.int .i64),.bool,.list,(.int .i64),.list,.list,.list]<|
 .call 11 [⟨.bool,(.v 17)⟩,⟨.list,(.v 43)⟩,⟨(.int .i64),(.v 19)⟩,⟨.list,(.v 45)⟩,⟨.list,(.v 46)⟩,⟨.list,(.v 47)⟩,⟨(.int .i64),(.n 1)⟩] [(.int .i64)]<|
 .letp .ltI [⟨(.int .i64),(.v 48)⟩,⟨(.int .i64),(.n 0)⟩]<|
 .ite (.v 49) (
 .ret [⟨.bool,(.b false)⟩])<|
 .letp .neI [⟨(.int .i64),(.v 48)⟩,⟨(.int .i64),(.v 41)⟩]<|
 .ite (.v 50) (
 .ret [⟨.bool,(.b false)⟩])<|
 .call 1 [⟨.list,(.v 0)⟩] [.list]<|
 .call 2 [⟨.list,(.v 1)⟩] [.list]<|
 .call 4 [⟨.list,(.v 51)⟩,⟨.list,(.v 52)⟩] [.bool,.list,(.int .i64),.list,.list,.list,.bool]<|
 .call 5 [⟨.bool,(.v 53)⟩,⟨.list,(.v 54)⟩,⟨(.int .i64),(.v 55)⟩,⟨.list,(.v 56)⟩,⟨.list,(.v 57)⟩,⟨.list,(.v 58)⟩,⟨.bool,(.v 8)⟩,⟨.list,(.v 9)⟩,⟨(.int .i64),(.v 10)⟩,⟨.list,(.v 11)⟩,⟨.list,(.v 12)⟩,⟨.list,(.v 13)⟩] [.bool]<|
 .letp .not [⟨.bool,(.v 60)⟩]<|
 .ite (.v 61) (
 .ret [⟨.bool,(.b false)⟩])<|
 .letp .neB [⟨.bool,(.v 59)⟩,⟨.bool,(.v 14)⟩]<|
 .ite (.v 62) (
 .ret [⟨.bool,(.b false)⟩])<|
 .call 11 [⟨.bool,(.v 17)⟩,⟨.list,(.v 43)⟩,⟨(.int .i64),(.v 19)⟩,⟨.list,(.v 45)⟩,⟨.list,(.v 46)⟩,⟨.list,(.v 47)⟩,⟨(.int .i64),(.n 1)⟩] [(.int .i64)]<|
 .letp .ltI [⟨(.int .i64),(.v 63)⟩,⟨(.int .i64),(.n 0)⟩]<|
 .ite (.v 64) (
 .ret [⟨.bool,(.b false)⟩])<|
 .letp .neI [⟨(.int .i64),(.v 63)⟩,⟨(.int .i64),(.v 41)⟩]<|
 .ite (.v 65) (
 .ret [⟨.bool,(.b false)⟩])<|
 .ret [⟨.bool,(.b true)⟩]
noncomputable def Φ_ax:Phi:=fun n=>match n with
 | 0=>xe
 | 1=>ln
 | 2=>xf
 | 3=>xj
 | 4=>xn
 | 5=>lz
 | 6=>ly
 | 7=>xo
 | 8=>iN
 | 9=>xp
 | 10=>lB
 | 11=>jA
 | _=>fun _=>none
noncomputable def φ_ax(cs:List C):Option (List C):=ah (den Φ_ax t_ax cs)
end Dx
namespace Dx
open Go
theorem sE_le:∀ es:List Ev,sE es ≤ 3*(es.length+nEv es)
 | []=>by simp[sE]
 | x::xs=>by
  have:=sE_le xs
  simp only[sE,nEv,List.map_cons,List.sum_cons,List.length_cons]at *;omega
set_option maxHeartbeats 1000000 in
theorem law_ExactWorldPlay{rooms:List Int}{es:List Ev}(hrl:rooms.length ≤ 2000000)(hel:es.length ≤ 2000000)(hem:∀ e∈es,e.m.length ≤ 2000000):φ_ax [.list (rooms.map eI),.list (es.map Ev.e)]=some [.bool true]:=by
 unfold φ_ax t_ax
 have e0:Φ_ax 0=xe:=rfl
 have e1:Φ_ax 1=ln:=rfl
 have e2:Φ_ax 2=xf:=rfl
 have e3:Φ_ax 3=xj:=rfl
 have e4:Φ_ax 4=xn:=rfl
 have e5:Φ_ax 5=lz:=rfl
 have e6:Φ_ax 6=ly:=rfl
 have e7:Φ_ax 7=xo:=rfl
 have e8:Φ_ax 8=iN:=rfl
 have e9:Φ_ax 9=xp:=rfl
 have e10:Φ_ax 10=lB:=rfl
 have e11:Φ_ax 11=jA:=rfl
 refine sl rfl ?_
 simp only[List.cons_append,List.nil_append]
 by_cases hr:(((rooms.map eI).length:Nat):Int)>1048576
 ·refine sl (congrArg C.bool (decide_eq_true hr)) ?_
  simp only[List.cons_append,List.nil_append]
  exact st rfl (Al rfl)
 have hr':rooms.length ≤ 1048576:=by rw[List.length_map]at hr;omega
 have z0:=CU (l:=1048576) (by omega) (by omega) hel hem
 obtain⟨L,hL⟩:∃ L,L=lft 1048576 (es.length+nEv es):=⟨_,rfl⟩
 rw[← hL]at z0
 refine sl (congrArg C.bool (decide_eq_false hr)) ?_
 simp only[List.cons_append,List.nil_append]
 refine sf rfl ?_
 by_cases hz:L<0
 ·refine sc e0 z0 rfl rfl ?_
  simp only[List.cons_append,List.nil_append]
  refine sl (congrArg C.bool (decide_eq_true hz)) ?_
  simp only[List.cons_append,List.nil_append]
  exact st rfl (Al rfl)
 have hn:es.length+nEv es ≤ 1048576:=by
  unfold lft at hL;split at hL<;>omega
 have hsE:=sE_le es
 have c0:=zh (l:=rooms) (by omega)
 have c1:=CV hel hem
 have g:WB ((bN rooms es).getD wd0) ∧ sWd ((bN rooms es).getD wd0) ≤ 100000:=by
  cases hw:bN rooms es with
  | none=>exact DH
  | some v=>exact(Cr hw).1.wb
 have p1:=uc (rooms:=rooms) (es:=es) (by omega) (by omega) hem
 have p2:=t5 (rooms:=rooms) (es:=es) (by omega) (by omega) hem
 generalize (bN rooms es).getD wd0=x at *
 generalize (bN rooms es).isSome=ok at *
 have q1:=ka g.1
 have q2:=zi (l:=rooms) (by omega)
 have q3:=CW hel hem
 have k0:=tj (k:=1) (l:=rooms) (by omega) (by omega)
 have n0:=lG rooms 1
 have k1:=CX (k:=ens mI 1 rooms) (l:=es) (by omega) (by omega)
 have n1:¬ (ens mE (ens mI 1 rooms) es<0):=by rw[Jy];omega
 have k2:=kc (k:=1) (w:=x) (by omega) (by omega)
 have n2:=kb 1 x
 have n3:¬ (lY 1 x<0):=by omega
 have h0:=rD (k:=1) (w:=x) (by omega) (by omega)
 simp only[Wd.e,F3,List.cons_append,List.nil_append]at p1 p2 k2 h0
 obtain⟨K0,hK0⟩:∃ K,K=ens mI 1 rooms:=⟨_,rfl⟩
 rw[← hK0]at k0 k1 n1
 obtain⟨K1,hK1⟩:∃ K,K=ens mE K0 es:=⟨_,rfl⟩
 rw[← hK1]at k1 n1
 obtain⟨K2,hK2⟩:∃ K,K=lY 1 x:=⟨_,rfl⟩
 rw[← hK2]at k2 n3 h0
 have bb:∀ k:Int,C.bool (k != k)=C.bool false:=fun k=>congrArg C.bool (bne_self_eq_false k)
 have bn:∀ k:Bool,C.bool (!(k==k))=C.bool false:=fun k=>by cases k<;>rfl
 refine sc e0 z0 rfl rfl ?_
 simp only[List.cons_append,List.nil_append]
 refine sl (congrArg C.bool (decide_eq_false hz)) ?_
 simp only[List.cons_append,List.nil_append]
 refine sf rfl ?_
 refine sc e1 c0 rfl rfl ?_
 simp only[List.cons_append,List.nil_append]
 refine sc e2 c1 rfl rfl ?_
 simp only[List.cons_append,List.nil_append]
 refine sc e3 p2 rfl rfl ?_
 simp only[List.cons_append,List.nil_append]
 refine sc e1 c0 rfl rfl ?_
 simp only[List.cons_append,List.nil_append]
 refine sc e2 c1 rfl rfl ?_
 simp only[List.cons_append,List.nil_append]
 refine sc e4 p1 rfl rfl ?_
 simp only[List.cons_append,List.nil_append]
 refine sc e5 q1 rfl rfl ?_
 simp only[List.cons_append,List.nil_append]
 refine sl rfl ?_
 simp only[List.cons_append,List.nil_append]
 refine sf rfl ?_
 refine sl (bn _) ?_
 simp only[List.cons_append,List.nil_append]
 refine sf rfl ?_
 refine sc e1 c0 rfl rfl ?_
 simp only[List.cons_append,List.nil_append]
 refine sc e6 q2 rfl rfl ?_
 simp only[List.cons_append,List.nil_append]
 refine sl rfl ?_
 simp only[List.cons_append,List.nil_append]
 refine sf rfl ?_
 refine sc e2 c1 rfl rfl ?_
 simp only[List.cons_append,List.nil_append]
 refine sc e7 q3 rfl rfl ?_
 simp only[List.cons_append,List.nil_append]
 refine sl rfl ?_
 simp only[List.cons_append,List.nil_append]
 refine sf rfl ?_
 refine sc e8 k0 rfl rfl ?_
 simp only[List.cons_append,List.nil_append]
 refine sc e9 k1 rfl rfl ?_
 simp only[List.cons_append,List.nil_append]
 refine sl (congrArg C.bool (decide_eq_false n1)) ?_
 simp only[List.cons_append,List.nil_append]
 refine sf rfl ?_
 refine sc e5 q1 rfl rfl ?_
 simp only[List.cons_append,List.nil_append]
 refine sl rfl ?_
 simp only[List.cons_append,List.nil_append]
 refine sf rfl ?_
 refine sl (bn _) ?_
 simp only[List.cons_append,List.nil_append]
 refine sf rfl ?_
 refine sc e10 k2 rfl rfl ?_
 simp only[List.cons_append,List.nil_append]
 refine sc e11 h0 rfl rfl ?_
 simp only[List.cons_append,List.nil_append]
 refine sl (congrArg C.bool (decide_eq_false n3)) ?_
 simp only[List.cons_append,List.nil_append]
 refine sf rfl ?_
 refine sl (bb _) ?_
 simp only[List.cons_append,List.nil_append]
 refine sf rfl ?_
 refine sc e1 c0 rfl rfl ?_
 simp only[List.cons_append,List.nil_append]
 refine sc e2 c1 rfl rfl ?_
 simp only[List.cons_append,List.nil_append]
 refine sc e4 p1 rfl rfl ?_
 simp only[List.cons_append,List.nil_append]
 refine sc e5 q1 rfl rfl ?_
 simp only[List.cons_append,List.nil_append]
 refine sl rfl ?_
 simp only[List.cons_append,List.nil_append]
 refine sf rfl ?_
 refine sl (bn _) ?_
 simp only[List.cons_append,List.nil_append]
 refine sf rfl ?_
 refine sc e11 h0 rfl rfl ?_
 simp only[List.cons_append,List.nil_append]
 refine sl (congrArg C.bool (decide_eq_false n3)) ?_
 simp only[List.cons_append,List.nil_append]
 refine sf rfl ?_
 refine sl (bb _) ?_
 simp only[List.cons_append,List.nil_append]
 refine sf rfl ?_
 exact Al rfl
end Dx
namespace Dx
open Go Go.Proofs
def c_ax:Con:=⟨[.own false [.val] [.list] false,.own false [.val] [.list] false],[⟨false,[.val],[.bool],false⟩]⟩
theorem has_ax:Has Tryz.prog 4 c_ax φ_ax:=fp (R:=al) (tr:=false) (E:=[(13,0,c_dl),(15,1,JA),(16,2,c_dn),(14,3,c_ci),(17,4,c_ce),(10,5,JI),(18,6,JH),(19,7,c_dx),(20,8,Gb),(21,9,c_bq),(11,10,JJ),(12,11,JK)]) (Φ:=Φ_ax) (t:=t_ax) ⟨Mf,zq,Mg,Mk,Mo,zz,zy,Mp,tv,Mq,zA,zB,trivial⟩ Tryz.f4 hE (by kernel_rfl)
end Dx
namespace Go.Proofs.YtkpnlbinfagpcaaGreat.fnExactWorldPlay
open Go.ChangeShapes Go.WideShapes Go.ChangeAt Go.RowKit Dx
set_option linter.unusedVariables false
set_option maxRecDepth 100000
theorem own:ownKnob Tryz.prog.godebug=none:=by kernel_rfl
theorem params:Tryz.f4.params=#[46,47]:=by kernel_rfl
theorem t4:Tryz.prog.underlying 4=some .bool:=by kernel_rfl
theorem tI:Tryz.prog.underlying 3=some (.int .i64):=by kernel_rfl
theorem tIs:Tryz.prog.underlying 46=some (.slice 3):=by kernel_rfl
theorem tRs:Tryz.prog.underlying 22=some (.slice 170):=by kernel_rfl
theorem tWs:Tryz.prog.underlying 25=some (.slice 105):=by kernel_rfl
theorem tHs:Tryz.prog.underlying 28=some (.slice 89):=by kernel_rfl
theorem tEs:Tryz.prog.underlying 47=some (.slice 60):=by kernel_rfl
theorem func:Tryz.prog.funcs[4]?=some Tryz.f4:=by kernel_rfl
theorem lo:laidOutB Tryz.prog=true:=by kernel_rfl
section
variable {H:Type} {enc:TypeId×Value → H} {W:World}
theorem pos(d:DataW H):1 ≤ Rows.uptoBulk d:=by unfold Rows.uptoBulk;split<;>omega
theorem memb{d:DataW H}:∀ {l:List (DataW H)},d∈l → Rows.uptoBulk d ≤ Rows.uptoBulkAll l
 | [],h=>by simp at h
 | x::l,h=>by
  rw[Rows.uptoBulkAll]
  rcases List.mem_cons.1 h with rfl|h
  ·omega
  ·have:=memb h
   omega
theorem lenb:∀ l:List (DataW H),l.length ≤ Rows.uptoBulkAll l
 | []=>Nat.zero_le _
 | x::l=>by
  have:=lenb l
  have:=pos x
  rw[Rows.uptoBulkAll,List.length_cons]
  omega
theorem bulk:Bulk (Rows.uptoBulk (H:=H)) :=
 ⟨fun xs r=>by have:=lenb xs;simp only[Rows.uptoBulk];omega,fun xs r d h=>by have:=memb h;simp only[Rows.uptoBulk];omega,fun xs d h=>by have:=memb h;simp only[Rows.uptoBulk];omega⟩
instance:Inhabited Rec:=⟨⟨0,0,[]⟩⟩
instance:Inhabited Word:=⟨⟨0,0,0,0⟩⟩
instance:Inhabited House:=⟨⟨0,false,0,⟨[],0⟩⟩⟩
instance:Inhabited Ev:=⟨⟨0,0,0,[]⟩⟩
abbrev On(t k:Nat){X:Type}(F:X → List C)(Q:X → Prop):Prop:=∀ {H:Type} {enc:TypeId×Value → H} {W:World},Opn enc Tryz.prog W Rows.uptoBulk 1048576 t k F Q
theorem oI:On 3 1 eI (fun _=>True):=zo tI
theorem oB:On 4 1 (fun b:Bool=>[C.bool b]) (fun _=>True):=rG (by kernel_rfl)
theorem oIs:On 46 1 (fun l:List Int=>[C.list (l.map eI)]) (fun l=>l.length ≤ 1048576 ∧ ∀ y∈l,True):=bU bulk tIs (by kernel_rfl) (by decide) (by decide) oI
theorem oR:On 170 3 Rec.e (fun r=>r.m.length ≤ 1048576) :=
 (cn (k:=3) (fl:=[(3,0,1),(3,1,1),(46,2,1)]) bulk (by kernel_rfl) (by kernel_rfl) (by kernel_rfl) (ax oI (ax oI (ax oIs cm)))).map (fun y=>(⟨y.1,y.2.1,y.2.2.1⟩:Rec)) (fun _=>rfl) (fun y h=>h.2.2.1.1)
theorem oRs:On 22 1 (fun l:List Rec=>[C.list (l.map Rec.e)]) (fun l=>l.length ≤ 1048576 ∧ ∀ y∈l,y.m.length ≤ 1048576):=bU bulk tRs (by kernel_rfl) (by decide) (by decide) oR
theorem oL:On 24 2 Log.e (fun l=>l.rs.length ≤ 1048576 ∧ ∀ y∈l.rs,y.m.length ≤ 1048576) :=
 (cn (k:=2) (fl:=[(22,0,1),(3,1,1)]) bulk (by kernel_rfl) (by kernel_rfl) (by kernel_rfl) (ax oRs (ax oI cm))).map (fun y=>(⟨y.1,y.2.1⟩:Log)) (fun _=>rfl) (fun y h=>h.1)
theorem oW:On 105 4 Word.e (fun _=>True) :=
 (cn (k:=4) (fl:=[(3,0,1),(3,1,1),(3,2,1),(3,3,1)]) bulk (by kernel_rfl) (by kernel_rfl) (by kernel_rfl) (ax oI (ax oI (ax oI (ax oI cm))))).map (fun y=>(⟨y.1,y.2.1,y.2.2.1,y.2.2.2.1⟩:Word)) (fun _=>rfl) (fun y h=>trivial)
theorem oWs:On 25 1 (fun l:List Word=>[C.list (l.map Word.e)]) (fun l=>l.length ≤ 1048576 ∧ ∀ y∈l,True):=bU bulk tWs (by kernel_rfl) (by decide) (by decide) oW
theorem oH:On 89 5 House.e (fun h=>h.lg.rs.length ≤ 1048576 ∧ ∀ y∈h.lg.rs,y.m.length ≤ 1048576) :=
 (cn (k:=5) (fl:=[(3,0,1),(4,1,1),(3,2,1),(24,3,2)]) bulk (by kernel_rfl) (by kernel_rfl) (by kernel_rfl) (ax oI (ax oB (ax oI (ax oL cm))))).map (fun y=>(⟨y.1,y.2.1,y.2.2.1,y.2.2.2.1⟩:House)) (fun _=>rfl) (fun y h=>h.2.2.2.1)
theorem oHs:On 28 1 (fun l:List House=>[C.list (l.map House.e)]) (fun l=>l.length ≤ 1048576 ∧ ∀ h∈l,h.lg.rs.length ≤ 1048576 ∧ ∀ y∈h.lg.rs,y.m.length ≤ 1048576):=bU bulk tHs (by kernel_rfl) (by decide) (by decide) oH
theorem oD:On 27 4 Desk.e (fun d=>(d.lg.rs.length ≤ 1048576 ∧ ∀ y∈d.lg.rs,y.m.length ≤ 1048576) ∧ d.td.length ≤ 1048576) :=
 (cn (k:=4) (fl:=[(4,0,1),(24,1,2),(25,3,1)]) bulk (by kernel_rfl) (by kernel_rfl) (by kernel_rfl) (ax oB (ax oL (ax oWs cm)))).map (fun y=>(⟨y.1,y.2.1,y.2.2.1⟩:Desk)) (fun _=>rfl) (fun y h=>⟨h.2.1,h.2.2.1.1⟩)
theorem oWd:On 30 6 Wd.e WB :=
 (cn (k:=6) (fl:=[(27,0,4),(28,4,1),(25,5,1)]) bulk (by kernel_rfl) (by kernel_rfl) (by kernel_rfl) (ax oD (ax oHs (ax oWs cm)))).map (fun y=>(⟨y.1,y.2.1,y.2.2.1⟩:Wd)) (fun _=>rfl)
  (fun y h=>⟨Nat.le_trans h.1.1.1 (by decide),fun r hr=>Nat.le_trans (h.1.1.2 r hr) (by decide),Nat.le_trans h.1.2 (by decide),Nat.le_trans h.2.1.1 (by decide),fun x hx=>⟨Nat.le_trans (h.2.1.2 x hx).1 (by decide),fun r hr=>Nat.le_trans ((h.2.1.2 x hx).2 r hr) (by decide)⟩,Nat.le_trans h.2.2.1.1 (by decide)⟩)
theorem oE:On 60 4 Ev.e (fun e=>e.m.length ≤ 1048576) :=
 (cn (k:=4) (fl:=[(3,0,1),(3,1,1),(3,2,1),(46,3,1)]) bulk (by kernel_rfl) (by kernel_rfl) (by kernel_rfl) (ax oI (ax oI (ax oI (ax oIs cm))))).map (fun y=>(⟨y.1,y.2.1,y.2.2.1,y.2.2.2.1⟩:Ev)) (fun _=>rfl) (fun y h=>h.2.2.2.1.1)
theorem oEs:On 47 1 (fun l:List Ev=>[C.list (l.map Ev.e)]) (fun l=>l.length ≤ 1048576 ∧ ∀ e∈l,e.m.length ≤ 1048576):=bU bulk tEs (by kernel_rfl) (by decide) (by decide) oE
end
theorem s2{H:Type}{d e:DataW H}(hk:Rows.uptoSmall H [d,e]=true):Rows.uptoBulk d ≤ 1048576 ∧ Rows.uptoBulk e ≤ 1048576:=by
 have h:Rows.uptoBulkAll [d,e] ≤ 1048576:=of_decide_eq_true hk
 simp only[Rows.uptoBulkAll]at h
 omega
theorem contract(H:Type)(enc:TypeId×Value → H)(W:World)(base:Nat)(args:Array Value)(ds gs:List (DataW H))(before:List MemPlace)
  (hval:∀(j:Nat) t v,Tryz.f4.params[j]?=some t → args[j]?=some v → Value.okWide Tryz.prog W .any base t v)
  (hW:DataW.Whole enc Tryz.prog Tryz.f4.params.toList Rows.fnExactWorldPlaySpec.vars false W args.toList ds gs before) (hk:Rows.uptoSmall H (ds++gs)=true) :
  Calls Tryz.prog 4 args W fun e W'=>∃ v,e=.returned v ∧ Rows.fnExactWorldPlaySpec.post enc Tryz.prog Tryz.f4 false true false false W args v W':=by
 have hW':=hW
 obtain⟨p,q,hA0,hV,rfl,hfz,hnd⟩:=hW
 have hA:DataW.TrodAll enc Tryz.prog W 0 (fun _=>true) true Tryz.f4.params.toList args.toList ds p:=hA0
 rw[params]at hA hval
 obtain⟨v0,vs0,d0,ds0,p0,q0,hargs,rfl,rfl,h0,r0⟩:=trodAll_cons hA
 obtain⟨v1,vs1,d1,ds1,p1,q1,rfl,rfl,rfl,h1,r1⟩:=trodAll_cons r0
 obtain⟨rfl,rfl,rfl⟩:=trodAll_nil r1
 obtain rfl:args=#[v0,v1]:=by cases args;simp_all
 obtain⟨rfl,rfl⟩:=trodVars_none hV
 obtain⟨b0,b1⟩:=s2 hk
 have lt:∀ x∈p0++p1,x.block<W.heap.size:=fun x hx=>hW'.lt x (by simpa using hx)
 obtain⟨y0,g0,par0⟩:=lN oIs (Z:=fun b=>b<W.heap.size ∧ b∉([]:List Nat)) (DJ tIs (hval 0 46 v0 rfl rfl)) h0 b0 (ks:=[.list]) (shs:=[.val]) (fun _=>rfl) (fun _=>rfl)
 obtain⟨y1,g1,par1⟩:=lN oEs (Z:=fun b=>b<W.heap.size ∧ b∉([]:List Nat)) (DJ tEs (hval 1 47 v1 rfl rfl)) h1 b1 (ks:=[.list]) (shs:=[.val]) (fun _=>rfl) (fun _=>rfl)
 have hlaw:φ_ax ([C.list (y0.map eI)]++[C.list (y1.map Ev.e)])=some [.bool true]:=law_ExactWorldPlay (Nat.le_trans g0.1 (by decide)) (Nat.le_trans g1.1 (by decide)) (fun e he=>Nat.le_trans (g1.2 e he) (by decide))
 refine(iX (vs:=[v0,v1]) has_ax (by intro p hp;simp only[List.mem_cons,List.mem_nil_iff,or_false]at hp;rcases hp with rfl|rfl<;>exact⟨_,_,_,rfl⟩) ⟨[C.list (y0.map eI)],[C.list (y1.map Ev.e)],v0,[v1],[],[],rfl,rfl,rfl,par0,[C.list (y1.map Ev.e)],[],v1,[],[],[],(List.append_nil _).symm,rfl,rfl,par1,rfl,rfl,rfl⟩ hlaw).mono ?_
 rintro e W' ⟨rfl,z1,z2,z3⟩
 refine⟨_,rfl,[d0,d1],[],p0++p1,[],p0++p1,[],by simpa using hW',trodAll_cons_mk (shut_bool t4 _) trodAll_mk0,?_,rfl,rF z1 z2 z3 _,fun h=>by cases h⟩
 rw[params]
 have:=trodAll_cons_mk (fQ lo (by kernel_rfl) (of_decide_eq_true (by kernel_rfl)) h0 z3 fun x hx=>lt x (by simp[hx])) (trodAll_cons_mk (fQ lo (by kernel_rfl) (of_decide_eq_true (by kernel_rfl)) h1 z3 fun x hx=>lt x (by simp[hx])) (trodAll_mk0 (enc:=enc) (P:=Tryz.prog) (w:=W') (base:=0) (spare:=fun b=>decide (b<W.heap.size)) (held:=true)))
 rw[List.append_nil]at this
 exact this
set_option maxRecDepth 100000 in
theorem lifted(os:Os)(started:os.Started)(H:Type)(enc:TypeId×Value → H)(F:Stop.Interp) :
  ReturnsInHanded {} Tryz.checked os 4 .any ((Rows.OpenSpec.upto Rows.fnExactWorldPlaySpec).pre6 enc Tryz.prog Tryz.f4 Rows.fnExactWorldPlayUptoRow.domain false) (((Rows.OpenSpec.upto Rows.fnExactWorldPlaySpec).at F).post enc Tryz.prog Tryz.f4 false true false false):=by
 refine returnsInHanded_of_cond (C:=Tryz.checked) (s:=Rows.OpenSpec.upto Rows.fnExactWorldPlaySpec) (k:=Rows.uptoSmall) rfl own started (by kernel_rfl) func
  (OpenSpec.witness (enc:=enc) (C:=Tryz.checked) (s:=Rows.OpenSpec.upto Rows.fnExactWorldPlaySpec) (k:=Rows.uptoSmall) rfl false ⟨#[],#[.slice none 0 0,.slice none 0 0],[]⟩ 8 (by kernel_rfl) (by kernel_rfl) (by kernel_rfl)
   (x:=([.nil,.nil],[],[])) (by kernel_rfl) rfl (by kernel_rfl)) ?_
 intro W base args ds gs before hval hW _ hk _
 exact contract H enc W base args ds gs before hval hW hk
theorem proved:Rows.FnExactWorldPlayUptoSaid :=
 OpenClaim.holds_of_cond 4 Tryz.f4 rfl rfl rfl rfl rfl rfl rfl ⟨rfl,rfl,rfl,rfl,rfl⟩ rfl rfl rfl rfl rfl (by kernel_rfl) func (by kernel_rfl)
  (of_decide_eq_true (by kernel_rfl)) (by unfold Func.isWrapper;first|(rw[if_pos (by decide +kernel)];kernel_rfl)|(rw[if_neg (by decide +kernel)];exact⟨rfl,rfl⟩))
  (fun os started H enc _ F=>lifted os started H enc F)
#print axioms proved
end Go.Proofs.YtkpnlbinfagpcaaGreat.fnExactWorldPlay
