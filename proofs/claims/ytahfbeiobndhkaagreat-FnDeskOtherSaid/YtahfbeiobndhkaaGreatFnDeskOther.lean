/- PROVED: Rows.FnDeskOtherSaid: whatever the input, laws.FnDeskOther returns true, and its arguments read as they did. No condition beyond the statement's own. -/
import Derived.Test.YtahfbeiobndhkaaGreatZb
import Derived.Test.YtahfbeiobndhkaaGreatHa
import Derived.Test.YtahfbeiobndhkaaGreatJa
import Derived.Test.YtahfbeiobndhkaaGreatRows
set_option linter.all false
namespace Dx
open Go Go.Proofs
def t_bi:Tree :=
 .letp .len [⟨.list,(.v 0)⟩]<|
 .letp .gtI [⟨(.int .i64),(.v 1)⟩,⟨(.int .i64),(.n 1048576)⟩]<|
 .ite (.v 2) (
 .ret [⟨.bool,(.b true)⟩])<|
 .call 0 [⟨.list,(.v 0)⟩] [.bool,.list,(.int .i64),.list,(.int .i64),(.int .i64),(.int .i64),(.int .i64)]<|
 .call 1 [⟨.bool,(.v 3)⟩,⟨.list,(.v 4)⟩,⟨(.int .i64),(.v 5)⟩,⟨.list,(.v 6)⟩,⟨(.int .i64),(.v 7)⟩,⟨(.int .i64),(.v 8)⟩,⟨(.int .i64),(.v 9)⟩,⟨(.int .i64),(.v 10)⟩] [.bool,.list,(.int .i64),.list]<|
 .call 2 [⟨.bool,(.v 3)⟩,⟨.list,(.v 4)⟩,⟨(.int .i64),(.v 5)⟩,⟨.list,(.v 6)⟩,⟨(.int .i64),(.v 7)⟩,⟨(.int .i64),(.v 8)⟩,⟨(.int .i64),(.v 9)⟩,⟨(.int .i64),(.v 10)⟩] [.bool,.list,(.int .i64),.list]<|
 .call 3 [⟨.bool,(.v 11)⟩,⟨.list,(.v 12)⟩,⟨(.int .i64),(.v 13)⟩,⟨.list,(.v 14)⟩,⟨.bool,(.v 15)⟩,⟨.list,(.v 16)⟩,⟨(.int .i64),(.v 17)⟩,⟨.list,(.v 18)⟩] [.bool]<|
 .letp .not [⟨.bool,(.v 19)⟩]<|
 .ite (.v 20) (
 .call 2 [⟨.bool,(.v 3)⟩,⟨.list,(.v 4)⟩,⟨(.int .i64),(.v 5)⟩,⟨.list,(.v 6)⟩,⟨(.int .i64),(.v 7)⟩,⟨(.int .i64),(.v 8)⟩,⟨(.int .i64),(.v 9)⟩,⟨(.int .i64),(.v 10)⟩] [.bool,.list,(.int .i64),.list]<|
 .call 3 [⟨.bool,(.v 11)⟩,⟨.list,(.v 12)⟩,⟨(.int .i64),(.v 13)⟩,⟨.list,(.v 14)⟩,⟨.bool,(.v 21)⟩,⟨.list,(.v 22)⟩,⟨(.int .i64),(.v 23)⟩,⟨.list,(.v 24)⟩] [.bool]<|
 .ret [⟨.bool,(.v 25)⟩])<|
 .call 4 [⟨.bool,(.v 3)⟩,⟨.list,(.v 4)⟩,⟨(.int .i64),(.v 5)⟩,⟨.list,(.v 6)⟩] [.bool]<|
 .letp .not [⟨.bool,(.v 21)⟩]<|
 .ite (.v 22) (
 .call 2 [⟨.bool,(.v 3)⟩,⟨.list,(.v 4)⟩,⟨(.int .i64),(.v 5)⟩,⟨.list,(.v 6)⟩,⟨(.int .i64),(.v 7)⟩,⟨(.int .i64),(.v 8)⟩,⟨(.int .i64),(.v 9)⟩,⟨(.int .i64),(.v 10)⟩] [.bool,.list,(.int .i64),.list]<|
 .call 3 [⟨.bool,(.v 11)⟩,⟨.list,(.v 12)⟩,⟨(.int .i64),(.v 13)⟩,⟨.list,(.v 14)⟩,⟨.bool,(.v 23)⟩,⟨.list,(.v 24)⟩,⟨(.int .i64),(.v 25)⟩,⟨.list,(.v 26)⟩] [.bool]<|
 .ret [⟨.bool,(.v 27)⟩])<|
 .call 5 [⟨.bool,(.v 3)⟩,⟨.list,(.v 4)⟩,⟨(.int .i64),(.v 5)⟩,⟨.list,(.v 6)⟩,⟨.bool,(.b false)⟩] [.list]<|
 .letp .len [⟨.list,(.v 23)⟩]<|
 .call 1 [⟨.bool,(.v 3)⟩,⟨.list,(.v 4)⟩,⟨(.int .i64),(.v 5)⟩,⟨.list,(.v 6)⟩,⟨(.int .i64),(.n 2)⟩,⟨(.int .i64),(.n 1)⟩,⟨(.int .i64),(.n 1)⟩,⟨(.int .i64),(.n 0)⟩] [.bool,.list,(.int .i64),.list]<|
 .letp (.add .i64) [⟨(.int .i64),(.v 24)⟩,⟨(.int .i64),(.n 1)⟩]<|
 .call 1 [⟨.bool,(.v 3)⟩,⟨.list,(.v 4)⟩,⟨(.int .i64),(.v 5)⟩,⟨.list,(.v 6)⟩,⟨(.int .i64),(.n 4)⟩,⟨(.int .i64),(.n 1)⟩,⟨(.int .i64),(.v 29)⟩,⟨(.int .i64),(.n 0)⟩] [.bool,.list,(.int .i64),.list]<|
 .call 6 [⟨.bool,(.v 3)⟩,⟨.list,(.v 4)⟩,⟨(.int .i64),(.v 5)⟩,⟨.list,(.v 6)⟩,⟨(.int .i64),(.n 40)⟩] [.bool,.list,(.int .i64),.list]<|
 .call 1 [⟨.bool,(.v 34)⟩,⟨.list,(.v 35)⟩,⟨(.int .i64),(.v 36)⟩,⟨.list,(.v 37)⟩,⟨(.int .i64),(.v 7)⟩,⟨(.int .i64),(.v 8)⟩,⟨(.int .i64),(.v 9)⟩,⟨(.int .i64),(.v 10)⟩] [.bool,.list,(.int .i64),.list]<|
 .call 3 [⟨.bool,(.v 25)⟩,⟨.list,(.v 26)⟩,⟨(.int .i64),(.v 27)⟩,⟨.list,(.v 28)⟩,⟨.bool,(.v 3)⟩,⟨.list,(.v 4)⟩,⟨(.int .i64),(.v 5)⟩,⟨.list,(.v 6)⟩] [.bool]<|
 .ite (.v 42) (
 .call 3 [⟨.bool,(.v 30)⟩,⟨.list,(.v 31)⟩,⟨(.int .i64),(.v 32)⟩,⟨.list,(.v 33)⟩,⟨.bool,(.v 3)⟩,⟨.list,(.v 4)⟩,⟨(.int .i64),(.v 5)⟩,⟨.list,(.v 6)⟩] [.bool]<|
 .ite (.v 43) (
 .call 3 [⟨.bool,(.v 38)⟩,⟨.list,(.v 39)⟩,⟨(.int .i64),(.v 40)⟩,⟨.list,(.v 41)⟩,⟨.bool,(.v 34)⟩,⟨.list,(.v 35)⟩,⟨(.int .i64),(.v 36)⟩,⟨.list,(.v 37)⟩] [.bool]<|
 .ret [⟨.bool,(.v 44)⟩])<|
 .ret [⟨.bool,(.b false)⟩])<|
 .ret [⟨.bool,(.b false)⟩]
noncomputable def Φ_bi:Phi:=fun n=>match n with
 | 0=>mp
 | 1=>gF
 | 2=>mq
 | 3=>cW
 | 4=>dU
 | 5=>dh
 | 6=>qK
 | _=>fun _=>none
noncomputable def φ_bi(cs:List C):Option (List C):=aj (den Φ_bi t_bi cs)
end Dx
namespace Dx
open Go
section
variable {code:List Int}
set_option maxHeartbeats 2000000 in
theorem law_DeskOther(hl:code.length ≤ 1099511627776)(hc:fk code):φ_bi [.list (code.map eB)]=some [.bool true]:=by
 unfold φ_bi t_bi
 refine dm rfl rfl rfl rfl rfl hl hc fun d x ok=>?_
 have e1:Φ_bi 1=gF:=rfl
 have e3:Φ_bi 3=cW:=rfl
 have e5:Φ_bi 5=dh:=rfl
 have e6:Φ_bi 6=qK:=rfl
 have hS:DkS ⟨d.up,⟨d.lg.rs,d.lg.f⟩,d.td⟩:=ok.S
 have hok:aU d=true:=deskOk_iff.2 ok
 have pt:=aW hS (b:=false)
 have p1:=dD hS (k:=2) (h:=1) (t:=1) (m:=0)
 have p2:=dD hS (k:=4) (h:=1) (t:=(((ah d.lg false).length+1:Nat):Int)) (m:=0)
 have pf:=nP (up:=d.up) (rs:=d.lg.rs) (f:=d.lg.f) (td:=d.td) ok (keep:=40)
 simp only[eE,eG]at pt p1 p2 pf
 rw[if_pos hok]at pt p1 p2
 have q1:dhear d ⟨2,1,1,0⟩=d:=by
  have:bd d ⟨2,1,1,0⟩=false:=by simp[bd]
  unfold dhear;rw[this];rfl
 have q2:dhear d ⟨4,1,(((ah d.lg false).length+1:Nat):Int),0⟩=d:=by
  have:bd d ⟨4,1,(((ah d.lg false).length+1:Nat):Int),0⟩=false:=by
   have e:af d false=ah d.lg false:=rfl
   simp only[bd,e,Bool.and_eq_false_iff,decide_eq_false_iff_not]
   right;right;right;omega
  unfold dhear;rw[this];rfl
 rw[q1]at p1
 rw[q2]at p2
 obtain⟨g,hg⟩:∃ g,g=dfall d 40:=⟨_,rfl⟩
 rw[← hg]at pf
 have og:DkOk g:=by rw[hg];exact ok.fall 40
 have hgS:DkS ⟨g.up,⟨g.lg.rs,g.lg.f⟩,g.td⟩:=og.S
 have p3:=dD hgS (k:=x.k) (h:=x.h) (t:=x.t) (m:=x.m)
 simp only[eE,eG,nG]at p3
 rw[if_pos (deskOk_iff.2 og)]at p3
 have q3:dhear g x=g:=by
  have:bd g x=false:=by rw[hg];rfl
  unfold dhear;rw[this];rfl
 rw[q3]at p3
 have hn:=kh ok.S
 have hng:=kh og.S
 simp only[Desk.e]at p1 p2 p3 pf
 have hlen:((((ah d.lg false).map Trip.e).length:Nat):Int)=((ah d.lg false).length:Nat):=by rw[List.length_map]
 have hl6:(ah d.lg false).length ≤ 6:=(ok.trOk false).len
 have hw:IntKind.wrap .i64 ((((ah d.lg false).length:Nat):Int)+1)=(((ah d.lg false).length+1:Nat):Int):=au (by omega)
 unfold iZ
 refine sc e5 pt rfl rfl (sl (congrArg (C.int .i64) hlen) (sc e1 p1 rfl rfl (sl (congrArg (C.int .i64) hw) ?_)))
 simp only[List.cons_append,List.nil_append]
 refine sc e1 p2 rfl rfl (sc e6 pf rfl rfl ?_)
 simp only[List.cons_append,List.nil_append]
 refine sc e1 p3 rfl rfl (sc e3 hn rfl rfl ?_)
 simp only[List.cons_append,List.nil_append]
 exact st rfl (sc e3 hn rfl rfl (st rfl (sc e3 hng rfl rfl (dR rfl))))
end
end Dx
namespace Dx
open Go Go.Proofs
def c_bi:Con:=⟨[.own false [.val] [.list] false],[⟨false,[.val],[.bool],false⟩]⟩
theorem has_bi:Has Tryz.prog 12 c_bi φ_bi:=fp (R:=[]) (tr:=false) (E:=[(33,0,Ek),(34,1,Cb),(35,2,El),(23,3,sM),(36,4,sL),(25,5,yq),(40,6,c_di)]) (Φ:=Φ_bi) (t:=t_bi) ⟨p8,mJ,p9,gp,gn,i6,Ec,trivial⟩ Tryz.f12 hE (by kernel_rfl)
end Dx
namespace Go.Proofs.YtahfbeiobndhkaaGreat.fnDeskOther
open Go.ChangeShapes Go.WideShapes Go.ChangeAt Go.RowKit Dx
set_option linter.unusedVariables false
set_option maxRecDepth 100000
theorem own:ownKnob Tryz.prog.godebug=none:=by kernel_rfl
theorem params:Tryz.f12.params=#[22]:=by kernel_rfl
theorem results:Tryz.f12.resultTypes=#[4]:=by kernel_rfl
theorem t22:Tryz.prog.underlying 22=some (.slice 5):=by kernel_rfl
theorem t5:Tryz.prog.underlying 5=some (.int .u8):=by kernel_rfl
theorem t4:Tryz.prog.underlying 4=some .bool:=by kernel_rfl
theorem c5:Tryz.prog.cellsOf 5=1:=by kernel_rfl
theorem func:Tryz.prog.funcs[12]?=some Tryz.f12:=by kernel_rfl
theorem contract(H:Type)(enc:TypeId×Value → H)(W:World)(base:Nat)(args:Array Value)(ds gs:List (DataW H))(before:List MemPlace)
  (hval:∀(j:Nat) t v,Tryz.f12.params[j]?=some t → args[j]?=some v → Value.okWide Tryz.prog W .any base t v)
  (hW:DataW.Whole enc Tryz.prog Tryz.f12.params.toList Rows.fnDeskOtherSpec.vars false W args.toList ds gs before) :
  Calls Tryz.prog 12 args W fun e W'=>∃ v,e=.returned v ∧ Rows.fnDeskOtherSpec.post enc Tryz.prog Tryz.f12 false true false false W args v W':=by
 have hW':=hW
 obtain⟨p,q,hA0,hV,rfl,hfz,hnd⟩:=hW
 have hA:DataW.TrodAll enc Tryz.prog W 0 (fun _=>true) true Tryz.f12.params.toList args.toList ds p:=hA0
 rw[params]at hA hval
 obtain⟨v0,vs0,d0,ds0,p0,q0,hargs,rfl,rfl,h0,r0⟩:=trodAll_cons hA
 obtain⟨rfl,rfl,rfl⟩:=trodAll_nil r0
 obtain rfl:args=#[v0]:=by cases args;simp_all
 obtain⟨rfl,rfl⟩:=trodVars_none hV
 obtain⟨code,hb,hrep,hd,hshut⟩:=bA t22 t5 c5 (hval 0 22 v0 rfl rfl) h0
 have hlaw:φ_bi [.list (code.map cB)]=some [.bool true]:=by
  by_cases h:code.length ≤ 1048576
  ·exact law_DeskOther (by omega) hb
  ·unfold φ_bi t_bi
   exact mC (by rw[List.length_map];omega)
 refine(bU (vs:=[v0]) has_bi (by simp[dq]) ⟨[.list (code.map cB)],[],v0,[],[],[],rfl,rfl,rfl,cv hrep,rfl,rfl,rfl⟩ hlaw).mono ?_
 rintro e W' ⟨rfl,h1,h2,h3⟩
 refine⟨_,rfl,[d0],[],p0,[],p0,[],by simpa using hW',trodAll_cons_mk (shut_bool t4 _) trodAll_mk0,?_,rfl,de h1 h2 h3 _,fun h=>by cases h⟩
 rw[params]
 have:=trodAll_cons_mk (hshut W' h3) (trodAll_mk0 (enc:=enc) (P:=Tryz.prog) (w:=W') (base:=0) (spare:=fun b=>decide (b<W.heap.size)) (held:=true))
 rw[List.append_nil]at this
 exact this
set_option maxRecDepth 100000 in
theorem lifted(os:Os)(started:os.Started)(H:Type)(enc:TypeId×Value → H) :
  ReturnsInHanded {} Tryz.checked os 12 .any (Rows.fnDeskOtherSpec.pre6 enc Tryz.prog Tryz.f12 Rows.fnDeskOtherRow.domain false) (Rows.fnDeskOtherSpec.post enc Tryz.prog Tryz.f12 false true false false):=by
 refine returnsInHanded_of_change (C:=Tryz.checked) own started (by kernel_rfl) func
  (ChangeSpec.witness6 (enc:=enc) (C:=Tryz.checked) false ⟨#[],#[.slice none 0 0],[]⟩ 8 (by kernel_rfl) (by kernel_rfl) (by kernel_rfl) (by kernel_rfl)) ?_
 intro W base args ds gs before hval hW _ _
 exact contract H enc W base args ds gs before hval hW
theorem proved:Rows.FnDeskOtherSaid :=
 OpenClaim.holds_of_wide 12 Tryz.f12 rfl rfl rfl rfl rfl rfl rfl ⟨rfl,rfl,rfl,rfl,rfl⟩ rfl rfl rfl rfl rfl (by kernel_rfl) func (by kernel_rfl)
  (of_decide_eq_true (by kernel_rfl)) (by unfold Func.isWrapper;first|(rw[if_pos (by decide +kernel)];kernel_rfl)|(rw[if_neg (by decide +kernel)];exact⟨rfl,rfl⟩))
  (fun os started H enc _=>lifted os started H enc)
#print axioms proved
end Go.Proofs.YtahfbeiobndhkaaGreat.fnDeskOther
