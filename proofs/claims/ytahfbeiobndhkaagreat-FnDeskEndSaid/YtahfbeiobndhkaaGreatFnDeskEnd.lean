/- PROVED: Rows.FnDeskEndSaid: whatever the input, laws.FnDeskEnd returns true, and its arguments read as they did. No condition beyond the statement's own. -/
import Derived.Test.YtahfbeiobndhkaaGreatZb
import Derived.Test.YtahfbeiobndhkaaGreatHa
import Derived.Test.YtahfbeiobndhkaaGreatJa
import Derived.Test.YtahfbeiobndhkaaGreatRows
set_option linter.all false
namespace Dx
open Go Go.Proofs
def t_cc:Tree :=
 .letp .len [⟨.list,(.v 0)⟩]<|
 .letp .gtI [⟨(.int .i64),(.v 1)⟩,⟨(.int .i64),(.n 1048576)⟩]<|
 .ite (.v 2) (
 .ret [⟨.bool,(.b true)⟩])<|
 .call 0 [⟨.list,(.v 0)⟩] [.bool,.list,(.int .i64),.list,(.int .i64),(.int .i64),(.int .i64),(.int .i64)]<|
 .call 1 [⟨.bool,(.v 3)⟩,⟨.list,(.v 4)⟩,⟨(.int .i64),(.v 5)⟩,⟨.list,(.v 6)⟩,⟨(.int .i64),(.v 7)⟩,⟨(.int .i64),(.v 8)⟩,⟨(.int .i64),(.v 9)⟩,⟨(.int .i64),(.v 10)⟩] [.bool,.list,(.int .i64),.list]<|
 .call 2 [⟨.bool,(.v 3)⟩,⟨.list,(.v 4)⟩,⟨(.int .i64),(.v 5)⟩,⟨.list,(.v 6)⟩,⟨(.int .i64),(.v 7)⟩,⟨(.int .i64),(.v 8)⟩,⟨(.int .i64),(.v 9)⟩,⟨(.int .i64),(.v 10)⟩] [.bool,.list,(.int .i64),.list]<|
 .call 3 [⟨.bool,(.v 11)⟩,⟨.list,(.v 12)⟩,⟨(.int .i64),(.v 13)⟩,⟨.list,(.v 14)⟩,⟨.bool,(.v 15)⟩,⟨.list,(.v 16)⟩,⟨(.int .i64),(.v 17)⟩,⟨.list,(.v 18)⟩] [.bool]<|
 .letp .not [⟨.bool,(.v 19)⟩]<|
 .ite (.v 20) (
 .call 2 [⟨.bool,(.v 3)⟩,⟨.list,(.v 4)⟩,⟨(.int .i64),(.v 5)⟩,⟨.list,(.v 6)⟩,⟨(.int .i64),(.v 7)⟩,⟨(.int .i64),(.v 8)⟩,⟨(.int .i64),(.v 9)⟩,⟨(.int .i64),(.v 10)⟩] [.bool,.list,(.int .i64),.list]<|
 .call 3 [⟨.bool,(.v 11)⟩,⟨.list,(.v 12)⟩,⟨(.int .i64),(.v 13)⟩,⟨.list,(.v 14)⟩,⟨.bool,(.v 21)⟩,⟨.list,(.v 22)⟩,⟨(.int .i64),(.v 23)⟩,⟨.list,(.v 24)⟩] [.bool]<|
 .ret [⟨.bool,(.v 25)⟩])<|
 .call 4 [⟨.bool,(.v 3)⟩,⟨.list,(.v 4)⟩,⟨(.int .i64),(.v 5)⟩,⟨.list,(.v 6)⟩] [.bool]<|
 .letp .not [⟨.bool,(.v 21)⟩]<|
 .ite (.v 22) (
 .call 2 [⟨.bool,(.v 3)⟩,⟨.list,(.v 4)⟩,⟨(.int .i64),(.v 5)⟩,⟨.list,(.v 6)⟩,⟨(.int .i64),(.v 7)⟩,⟨(.int .i64),(.v 8)⟩,⟨(.int .i64),(.v 9)⟩,⟨(.int .i64),(.v 10)⟩] [.bool,.list,(.int .i64),.list]<|
 .call 3 [⟨.bool,(.v 11)⟩,⟨.list,(.v 12)⟩,⟨(.int .i64),(.v 13)⟩,⟨.list,(.v 14)⟩,⟨.bool,(.v 23)⟩,⟨.list,(.v 24)⟩,⟨(.int .i64),(.v 25)⟩,⟨.list,(.v 26)⟩] [.bool]<|
 .ret [⟨.bool,(.v 27)⟩])<|
 .call 5 [⟨.bool,(.v 3)⟩,⟨.list,(.v 4)⟩,⟨(.int .i64),(.v 5)⟩,⟨.list,(.v 6)⟩,⟨.bool,(.b true)⟩] [.list]<|
 .call 5 [⟨.bool,(.v 3)⟩,⟨.list,(.v 4)⟩,⟨(.int .i64),(.v 5)⟩,⟨.list,(.v 6)⟩,⟨.bool,(.b false)⟩] [.list]<|
 .call 5 [⟨.bool,(.v 11)⟩,⟨.list,(.v 12)⟩,⟨(.int .i64),(.v 13)⟩,⟨.list,(.v 14)⟩,⟨.bool,(.b false)⟩] [.list]<|
 .iter [⟨(.int .i64),(.n 0)⟩]<|
 .letp .len [⟨.list,(.v 25)⟩]<|
 .letp .ltI [⟨(.int .i64),(.v 26)⟩,⟨(.int .i64),(.v 27)⟩]<|
 .ite (.v 28) (
 .row (.v 25) (.v 26) [.list,(.int .i64)]<|
 .row (.v 24) (.v 26) [.list,(.int .i64)]<|
 .letp .eqI [⟨(.int .i64),(.v 30)⟩,⟨(.int .i64),(.v 32)⟩]<|
 .ite (.v 33) (
 .letp (.add .i64) [⟨(.int .i64),(.v 26)⟩,⟨(.int .i64),(.n 1)⟩]<|
 .jump [⟨(.int .i64),(.v 34)⟩])<|
 .row (.v 25) (.v 26) [.list,(.int .i64)]<|
 .letp .ltI [⟨(.int .i64),(.v 35)⟩,⟨(.int .i64),(.n 4)⟩]<|
 .ite (.v 36) (
 .letp (.add .i64) [⟨(.int .i64),(.v 26)⟩,⟨(.int .i64),(.n 1)⟩]<|
 .jump [⟨(.int .i64),(.v 37)⟩])<|
 .join [(.int .i64),(.int .i64)] (
 .row (.v 25) (.v 26) [.list,(.int .i64)]<|
 .letp .eqI [⟨(.int .i64),(.v 38)⟩,⟨(.int .i64),(.n 5)⟩]<|
 .ite (.v 39) (
 .jump [⟨(.int .i64),(.n 7)⟩,⟨(.int .i64),(.n 3)⟩])<|
 .jump [⟨(.int .i64),(.n 6)⟩,⟨(.int .i64),(.n 2)⟩])<|
 .letp .len [⟨.list,(.v 23)⟩]<|
 .letp .geI [⟨(.int .i64),(.v 26)⟩,⟨(.int .i64),(.v 39)⟩]<|
 .ite (.v 40) (
 .up<|
 .ret [⟨.bool,(.b false)⟩])<|
 .row (.v 23) (.v 26) [.list,(.int .i64)]<|
 .letp .neI [⟨(.int .i64),(.v 42)⟩,⟨(.int .i64),(.v 38)⟩]<|
 .ite (.v 43) (
 .up<|
 .ret [⟨.bool,(.b false)⟩])<|
 .letp (.add .i64) [⟨(.int .i64),(.v 26)⟩,⟨(.int .i64),(.n 1)⟩]<|
 .row (.v 25) (.v 26) [.list,(.int .i64)]<|
 .call 6 [⟨.list,(.v 14)⟩,⟨(.int .i64),(.v 44)⟩,⟨.list,(.v 45)⟩,⟨(.int .i64),(.v 37)⟩] [.bool]<|
 .letp .not [⟨.bool,(.v 47)⟩]<|
 .ite (.v 48) (
 .up<|
 .ret [⟨.bool,(.b false)⟩])<|
 .letp (.add .i64) [⟨(.int .i64),(.v 26)⟩,⟨(.int .i64),(.n 1)⟩]<|
 .jump [⟨(.int .i64),(.v 49)⟩])<|
 .up<|
 .ret [⟨.bool,(.b true)⟩]
noncomputable def Φ_cc:Phi:=fun n=>match n with
 | 0=>mp
 | 1=>gF
 | 2=>mq
 | 3=>cW
 | 4=>dU
 | 5=>dh
 | 6=>qR
 | _=>fun _=>none
noncomputable def φ_cc(cs:List C):Option (List C):=aj (den Φ_cc t_cc cs)
end Dx
namespace Dx
open Go
section
variable {code:List Int}
set_option maxHeartbeats 8000000 in
theorem law_DeskEnd(hl:code.length ≤ 1099511627776)(hc:fk code):φ_cc [.list (code.map eB)]=some [.bool true]:=by
 unfold φ_cc t_cc
 refine dm rfl rfl rfl rfl rfl hl hc fun d x ok=>?_
 have e5:Φ_cc 5=dh:=rfl
 have e6:Φ_cc 6=qR:=rfl
 have hch:=fun(t:Int) (ht:1 ≤ t)=>(kB ok x ht).1
 have hlen:=(kB ok x (t:=1) (by omega)).2
 have oy:DkOk (dhear d x):=(ok.hear x).1
 generalize dhear d x=y at *
 have hdS:DkS ⟨d.up,⟨d.lg.rs,d.lg.f⟩,d.td⟩:=ok.S
 have hyS:DkS ⟨y.up,⟨y.lg.rs,y.lg.f⟩,y.td⟩:=oy.S
 have t1:=aW (b:=true) hdS
 have t2:=aW (b:=false) hdS
 have t3:=aW (b:=false) hyS
 simp only[eE,eG]at t1 t2 t3
 rw[if_pos (deskOk_iff.2 ok)]at t1 t2
 rw[if_pos (deskOk_iff.2 oy)]at t3
 have htd:=oy.tdlen
 have trY:TrOk (ah y.lg false):=oy.trOk false
 have hY6:=trY.len
 have hL:(ah y.lg false).length=(ah d.lg false).length:=hlen
 have hLy:((((ah y.lg false).map Trip.e).length:Nat):Int)=((ah y.lg false).length:Nat):=by rw[List.length_map]
 have hLf:((((ah d.lg true).map Trip.e).length:Nat):Int)=((ah d.lg true).length:Nat):=by rw[List.length_map]
 unfold iZ
 refine sc e5 t1 rfl rfl (sc e5 t2 rfl rfl ?_)
 simp only[List.cons_append,List.nil_append]
 refine sc e5 t3 rfl rfl ?_
 simp only[List.cons_append,List.nil_append]
 rw[gk]
 simp only[aK,Cell.den,At.den,aa,C.toInt_int,C.toBool_bool,C.toList_list,c8]
 refine lr (I:=fun k ps=>∃ i:Nat,i+k=(ah y.lg false).length ∧ ps=[.int .i64 (i:Int)]) (o:=.ret [.bool true]) (ah y.lg false).length ⟨0,by omega,rfl⟩ ?_ rfl
 rintro k ps ⟨i,hik,rfl⟩
 by_cases hi:i<(ah y.lg false).length
 ·left
  refine⟨[.int .i64 ((i+1:Nat):Int)],k-1,by omega,?_,i+1,by omega,rfl⟩
  have hi':(i:Int)<((ah y.lg false).length:Nat):=by omega
  have we:IntKind.wrap .i64 ((i:Int)+1)=((i+1:Nat):Int):=by rw[az (by omega) (by omega)];omega
  have ra:(ah y.lg false)[i]?=some ((ah y.lg false)[i]'hi):=List.getElem?_eq_getElem hi
  have rb:(ah d.lg false)[i]?=some ((ah d.lg false)[i]'(by omega)):=List.getElem?_eq_getElem (by omega)
  have am:=aT (tripOk_iff.1 (trY.ok _ (List.getElem_mem hi))).1
  have G:=hch ((i+1:Nat):Int) (by omega)
  generalize (ah y.lg false)[i]'hi=a at ra am
  generalize (ah d.lg false)[i]'(by omega)=b at rb
  have ta:tAt (af y false) ((i+1:Nat):Int)=a:=pP ra
  have tb:tAt (af d false) ((i+1:Nat):Int)=b:=pP rb
  unfold Chg at G
  rw[ta,tb]at G
  obtain⟨cm,G⟩:=G
  refine dl (congrArg (C.int .i64) hLy) (dl (congrArg C.bool (decide_eq_true hi')) (yt rfl (yr rfl rfl (fun f=>cX ra) ?_)))
  simp only[List.cons_append,List.nil_append,Trip.e]
  refine yr rfl rfl (fun f=>cX rb) ?_
  simp only[List.cons_append,List.nil_append,Trip.e]
  by_cases hab:a.s=b.s
  ·have hq:(a.s==b.s)=true:=by rw[hab];simp
   exact dl (congrArg C.bool hq) (yt rfl (dl (congrArg (C.int .i64) we) (dj rfl)))
  have hq:(a.s==b.s)=false:=by rw[beq_eq_false_iff_ne];exact hab
  refine dl (congrArg C.bool hq) (yf rfl (yr rfl rfl (fun f=>cX ra) ?_))
  simp only[List.cons_append,List.nil_append,Trip.e]
  by_cases h4:a.s<4
  ·exact dl (congrArg C.bool (decide_eq_true h4)) (yt rfl (dl (congrArg (C.int .i64) we) (dj rfl)))
  refine dl (congrArg C.bool (decide_eq_false h4)) (yf rfl ?_)
  simp only[List.cons_append,List.nil_append]
  obtain⟨kk,want,hj,hf1,hf2,hall⟩:∃ kk want:Int,(a.s=5 ∧ kk=7 ∧ want=3 ∨ a.s≠5 ∧ kk=6 ∧ want=2) ∧ ((i+1:Nat):Int) ≤ (af d true).length ∧ (tAt (af d true) ((i+1:Nat):Int)).s=want ∧ al y.td ((i+1:Nat):Int) kk 1 a.m=true:=by
   rcases G with c|⟨c,_⟩|⟨c,_⟩|⟨c1,c2,c3,c4,c5⟩|⟨c1,c2,c3,c4,c5⟩
   ·exact absurd c hab
   ·omega
   ·omega
   ·exact⟨6,2,.inr ⟨by omega,rfl,rfl⟩,c3,c4,by rw[cm];exact c5⟩
   ·exact⟨7,3,.inl ⟨c1,rfl,rfl⟩,c3,c4,by rw[cm];exact c5⟩
  have hfl:i<(ah d.lg true).length:=by
   have:(af d true).length=(ah d.lg true).length:=rfl
   omega
  have rf:(ah d.lg true)[i]?=some ((ah d.lg true)[i]'hfl):=List.getElem?_eq_getElem hfl
  generalize (ah d.lg true)[i]'hfl=g at rf
  have tf:tAt (af d true) ((i+1:Nat):Int)=g:=pP rf
  rw[tf]at hf2
  have na:=Ip (td:=y.td) (t:=((i+1:Nat):Int)) (k:=kk) (m:=a.m) (by omega) (by omega)
  rw[hall]at na
  have hge:¬ ((i:Int) ≥ ((ah d.lg true).length:Nat)):=by omega
  have hne:(g.s != want)=false:=by rw[hf2];simp
  refine yn (cs:=[.int .i64 kk,.int .i64 want]) ?_ rfl ?_
  ·refine yr rfl rfl (fun f=>cX ra) ?_
   simp only[List.cons_append,List.nil_append,Trip.e]
   rcases hj with ⟨h5,rfl,rfl⟩|⟨h5,rfl,rfl⟩
   ·have:(a.s==5)=true:=by rw[h5];rfl
    exact dl (congrArg C.bool this) (yt rfl (dj rfl))
   ·have:(a.s==5)=false:=by rw[beq_eq_false_iff_ne];exact h5
    exact dl (congrArg C.bool this) (yf rfl (dj rfl))
  ·simp only[List.cons_append,List.nil_append]
   refine dl (congrArg (C.int .i64) hLf) (dl (congrArg C.bool (decide_eq_false hge)) (yf rfl (yr rfl rfl (fun f=>cX rf) ?_)))
   simp only[List.cons_append,List.nil_append,Trip.e]
   refine dl (congrArg C.bool hne) (yf rfl (dl (congrArg (C.int .i64) we) (yr rfl rfl (fun f=>cX ra) ?_)))
   simp only[List.cons_append,List.nil_append,Trip.e]
   exact dc e6 na rfl rfl (dl (v:=.bool false) rfl (yf rfl (dl (congrArg (C.int .i64) we) (dj rfl))))
 ·right
  have hi':¬ (i:Int)<((ah y.lg false).length:Nat):=by omega
  exact dl (congrArg (C.int .i64) hLy) (dl (congrArg C.bool (decide_eq_false hi')) (yf rfl (yu (yret rfl))))
end
end Dx
namespace Dx
open Go Go.Proofs
def c_cc:Con:=⟨[.own false [.val] [.list] false],[⟨false,[.val],[.bool],false⟩]⟩
def h_cc:How:=⟨aB [(0,⟨[kI],[(2,(.bool (.b false))),(9,(sI 0))],[],[],0⟩)],
 aB [(19,⟨[kI,kI],[(10,(sI 0)),(11,(sI 1))],[],[],0⟩)],
 aB []⟩
theorem has_cc:Has Tryz.prog 13 c_cc φ_cc:=fp (R:=[]) (tr:=false) (E:=[(33,0,Ek),(34,1,Cb),(35,2,El),(23,3,sM),(36,4,sL),(25,5,yq),(41,6,c_gj)]) (Φ:=Φ_cc) (t:=t_cc) ⟨p8,mJ,p9,gp,gn,i6,Em,trivial⟩ Tryz.f13 h_cc (by kernel_rfl)
end Dx
namespace Go.Proofs.YtahfbeiobndhkaaGreat.fnDeskEnd
open Go.ChangeShapes Go.WideShapes Go.ChangeAt Go.RowKit Dx
set_option linter.unusedVariables false
set_option maxRecDepth 100000
theorem own:ownKnob Tryz.prog.godebug=none:=by kernel_rfl
theorem params:Tryz.f13.params=#[22]:=by kernel_rfl
theorem results:Tryz.f13.resultTypes=#[4]:=by kernel_rfl
theorem t22:Tryz.prog.underlying 22=some (.slice 5):=by kernel_rfl
theorem t5:Tryz.prog.underlying 5=some (.int .u8):=by kernel_rfl
theorem t4:Tryz.prog.underlying 4=some .bool:=by kernel_rfl
theorem c5:Tryz.prog.cellsOf 5=1:=by kernel_rfl
theorem func:Tryz.prog.funcs[13]?=some Tryz.f13:=by kernel_rfl
theorem contract(H:Type)(enc:TypeId×Value → H)(W:World)(base:Nat)(args:Array Value)(ds gs:List (DataW H))(before:List MemPlace)
  (hval:∀(j:Nat) t v,Tryz.f13.params[j]?=some t → args[j]?=some v → Value.okWide Tryz.prog W .any base t v)
  (hW:DataW.Whole enc Tryz.prog Tryz.f13.params.toList Rows.fnDeskEndSpec.vars false W args.toList ds gs before) :
  Calls Tryz.prog 13 args W fun e W'=>∃ v,e=.returned v ∧ Rows.fnDeskEndSpec.post enc Tryz.prog Tryz.f13 false true false false W args v W':=by
 have hW':=hW
 obtain⟨p,q,hA0,hV,rfl,hfz,hnd⟩:=hW
 have hA:DataW.TrodAll enc Tryz.prog W 0 (fun _=>true) true Tryz.f13.params.toList args.toList ds p:=hA0
 rw[params]at hA hval
 obtain⟨v0,vs0,d0,ds0,p0,q0,hargs,rfl,rfl,h0,r0⟩:=trodAll_cons hA
 obtain⟨rfl,rfl,rfl⟩:=trodAll_nil r0
 obtain rfl:args=#[v0]:=by cases args;simp_all
 obtain⟨rfl,rfl⟩:=trodVars_none hV
 obtain⟨code,hb,hrep,hd,hshut⟩:=bA t22 t5 c5 (hval 0 22 v0 rfl rfl) h0
 have hlaw:φ_cc [.list (code.map cB)]=some [.bool true]:=by
  by_cases h:code.length ≤ 1048576
  ·exact law_DeskEnd (by omega) hb
  ·unfold φ_cc t_cc
   exact mC (by rw[List.length_map];omega)
 refine(bU (vs:=[v0]) has_cc (by simp[dq]) ⟨[.list (code.map cB)],[],v0,[],[],[],rfl,rfl,rfl,cv hrep,rfl,rfl,rfl⟩ hlaw).mono ?_
 rintro e W' ⟨rfl,h1,h2,h3⟩
 refine⟨_,rfl,[d0],[],p0,[],p0,[],by simpa using hW',trodAll_cons_mk (shut_bool t4 _) trodAll_mk0,?_,rfl,de h1 h2 h3 _,fun h=>by cases h⟩
 rw[params]
 have:=trodAll_cons_mk (hshut W' h3) (trodAll_mk0 (enc:=enc) (P:=Tryz.prog) (w:=W') (base:=0) (spare:=fun b=>decide (b<W.heap.size)) (held:=true))
 rw[List.append_nil]at this
 exact this
set_option maxRecDepth 100000 in
theorem lifted(os:Os)(started:os.Started)(H:Type)(enc:TypeId×Value → H) :
  ReturnsInHanded {} Tryz.checked os 13 .any (Rows.fnDeskEndSpec.pre6 enc Tryz.prog Tryz.f13 Rows.fnDeskEndRow.domain false) (Rows.fnDeskEndSpec.post enc Tryz.prog Tryz.f13 false true false false):=by
 refine returnsInHanded_of_change (C:=Tryz.checked) own started (by kernel_rfl) func
  (ChangeSpec.witness6 (enc:=enc) (C:=Tryz.checked) false ⟨#[],#[.slice none 0 0],[]⟩ 8 (by kernel_rfl) (by kernel_rfl) (by kernel_rfl) (by kernel_rfl)) ?_
 intro W base args ds gs before hval hW _ _
 exact contract H enc W base args ds gs before hval hW
theorem proved:Rows.FnDeskEndSaid :=
 OpenClaim.holds_of_wide 13 Tryz.f13 rfl rfl rfl rfl rfl rfl rfl ⟨rfl,rfl,rfl,rfl,rfl⟩ rfl rfl rfl rfl rfl (by kernel_rfl) func (by kernel_rfl)
  (of_decide_eq_true (by kernel_rfl)) (by unfold Func.isWrapper;first|(rw[if_pos (by decide +kernel)];kernel_rfl)|(rw[if_neg (by decide +kernel)];exact⟨rfl,rfl⟩))
  (fun os started H enc _=>lifted os started H enc)
#print axioms proved
end Go.Proofs.YtahfbeiobndhkaaGreat.fnDeskEnd
