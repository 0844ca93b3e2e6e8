/- PROVED: Rows.FnDeskTwiceSaid: whatever the input, laws.FnDeskTwice returns true, and its arguments read as they did. No condition beyond the statement's own. -/
import Derived.Test.YtahfbeiobndhkaaGreatZb
import Derived.Test.YtahfbeiobndhkaaGreatHa
import Derived.Test.YtahfbeiobndhkaaGreatJa
import Derived.Test.YtahfbeiobndhkaaGreatRows
set_option linter.all false
namespace Dx
open Go Go.Proofs
def t_bj:Tree :=
 .letp .len [⟨.list,(.v 0)⟩]<|
 .letp .gtI [⟨(.int .i64),(.v 1)⟩,⟨(.int .i64),(.n 1048576)⟩]<|
 .ite (.v 2) (
 .ret [⟨.bool,(.b true)⟩])<|
 .call 0 [⟨.list,(.v 0)⟩] [.bool,.list,(.int .i64),.list,(.int .i64),(.int .i64),(.int .i64),(.int .i64)]<|
 .call 1 [⟨.bool,(.v 3)⟩,⟨.list,(.v 4)⟩,⟨(.int .i64),(.v 5)⟩,⟨.list,(.v 6)⟩,⟨(.int .i64),(.v 7)⟩,⟨(.int .i64),(.v 8)⟩,⟨(.int .i64),(.v 9)⟩,⟨(.int .i64),(.v 10)⟩] [.bool,.list,(.int .i64),.list]<|
 .call 2 [⟨.bool,(.v 3)⟩,⟨.list,(.v 4)⟩,⟨(.int .i64),(.v 5)⟩,⟨.list,(.v 6)⟩,⟨(.int .i64),(.v 7)⟩,⟨(.int .i64),(.v 8)⟩,⟨(.int .i64),(.v 9)⟩,⟨(.int .i64),(.v 10)⟩] [.bool,.list,(.int .i64),.list]<|
 .call 3 [⟨.bool,(.v 11)⟩,⟨.list,(.v 12)⟩,⟨(.int .i64),(.v 13)⟩,⟨.list,(.v 14)⟩,⟨.bool,(.v 15)⟩,⟨.list,(.v 16)⟩,⟨(.int .i64),(.v 17)⟩,⟨.list,(.v 18)⟩] [.bool]<|
 .letp .not [⟨.bool,(.v 19)⟩]<|
 .ite (.v 20) (
 .call 2 [⟨.bool,(.v 3)⟩,⟨.list,(.v 4)⟩,⟨(.int .i64),(.v 5)⟩,⟨.list,(.v 6)⟩,⟨(.int .i64),(.v 7)⟩,⟨(.int .i64),(.v 8)⟩,⟨(.int .i64),(.v 9)⟩,⟨(.int .i64),(.v 10)⟩] [.bool,.list,(.int .i64),.list]<|
 .call 3 [⟨.bool,(.v 11)⟩,⟨.list,(.v 12)⟩,⟨(.int .i64),(.v 13)⟩,⟨.list,(.v 14)⟩,⟨.bool,(.v 21)⟩,⟨.list,(.v 22)⟩,⟨(.int .i64),(.v 23)⟩,⟨.list,(.v 24)⟩] [.bool]<|
 .ret [⟨.bool,(.v 25)⟩])<|
 .call 4 [⟨.bool,(.v 3)⟩,⟨.list,(.v 4)⟩,⟨(.int .i64),(.v 5)⟩,⟨.list,(.v 6)⟩] [.bool]<|
 .letp .not [⟨.bool,(.v 21)⟩]<|
 .ite (.v 22) (
 .call 2 [⟨.bool,(.v 3)⟩,⟨.list,(.v 4)⟩,⟨(.int .i64),(.v 5)⟩,⟨.list,(.v 6)⟩,⟨(.int .i64),(.v 7)⟩,⟨(.int .i64),(.v 8)⟩,⟨(.int .i64),(.v 9)⟩,⟨(.int .i64),(.v 10)⟩] [.bool,.list,(.int .i64),.list]<|
 .call 3 [⟨.bool,(.v 11)⟩,⟨.list,(.v 12)⟩,⟨(.int .i64),(.v 13)⟩,⟨.list,(.v 14)⟩,⟨.bool,(.v 23)⟩,⟨.list,(.v 24)⟩,⟨(.int .i64),(.v 25)⟩,⟨.list,(.v 26)⟩] [.bool]<|
 .ret [⟨.bool,(.v 27)⟩])<|
 .call 1 [⟨.bool,(.v 11)⟩,⟨.list,(.v 12)⟩,⟨(.int .i64),(.v 13)⟩,⟨.list,(.v 14)⟩,⟨(.int .i64),(.v 7)⟩,⟨(.int .i64),(.v 8)⟩,⟨(.int .i64),(.v 9)⟩,⟨(.int .i64),(.v 10)⟩] [.bool,.list,(.int .i64),.list]<|
 .call 3 [⟨.bool,(.v 23)⟩,⟨.list,(.v 24)⟩,⟨(.int .i64),(.v 25)⟩,⟨.list,(.v 26)⟩,⟨.bool,(.v 11)⟩,⟨.list,(.v 12)⟩,⟨(.int .i64),(.v 13)⟩,⟨.list,(.v 14)⟩] [.bool]<|
 .ret [⟨.bool,(.v 27)⟩]
noncomputable def Φ_bj:Phi:=fun n=>match n with
 | 0=>mp
 | 1=>gF
 | 2=>mq
 | 3=>cW
 | 4=>dU
 | _=>fun _=>none
noncomputable def φ_bj(cs:List C):Option (List C):=aj (den Φ_bj t_bj cs)
end Dx
namespace Dx
open Go
section
variable {code:List Int}
set_option maxHeartbeats 2000000 in
theorem law_DeskTwice(hl:code.length ≤ 1099511627776)(hc:fk code):φ_bj [.list (code.map eB)]=some [.bool true]:=by
 unfold φ_bj t_bj
 refine dm rfl rfl rfl rfl rfl hl hc fun d x ok=>?_
 have e1:Φ_bj 1=gF:=rfl
 have e3:Φ_bj 3=cW:=rfl
 obtain⟨y,hy⟩:∃ y,y=dhear d x:=⟨_,rfl⟩
 have oy:DkOk y:=by rw[hy];exact(ok.hear x).1
 have hyS:DkS ⟨y.up,⟨y.lg.rs,y.lg.f⟩,y.td⟩:=oy.S
 have p1:=dD hyS (k:=x.k) (h:=x.h) (t:=x.t) (m:=x.m)
 have hn:=kh oy.S
 simp only[eE,eG,nG]at p1
 rw[if_pos (deskOk_iff.2 oy)]at p1
 have tw:dhear y x=y:=by rw[hy];exact lM ok x
 rw[tw]at p1
 simp only[Desk.e]at p1
 rw[← hy]
 unfold iZ
 exact sc e1 p1 rfl rfl (sc e3 hn rfl rfl (dR rfl))
end
end Dx
namespace Dx
open Go Go.Proofs
def c_bj:Con:=⟨[.own false [.val] [.list] false],[⟨false,[.val],[.bool],false⟩]⟩
theorem has_bj:Has Tryz.prog 8 c_bj φ_bj:=fp (R:=[]) (tr:=false) (E:=[(33,0,Ek),(34,1,Cb),(35,2,El),(23,3,sM),(36,4,sL)]) (Φ:=Φ_bj) (t:=t_bj) ⟨p8,mJ,p9,gp,gn,trivial⟩ Tryz.f8 hE (by kernel_rfl)
end Dx
namespace Go.Proofs.YtahfbeiobndhkaaGreat.fnDeskTwice
open Go.ChangeShapes Go.WideShapes Go.ChangeAt Go.RowKit Dx
set_option linter.unusedVariables false
set_option maxRecDepth 100000
theorem own:ownKnob Tryz.prog.godebug=none:=by kernel_rfl
theorem params:Tryz.f8.params=#[22]:=by kernel_rfl
theorem results:Tryz.f8.resultTypes=#[4]:=by kernel_rfl
theorem t22:Tryz.prog.underlying 22=some (.slice 5):=by kernel_rfl
theorem t5:Tryz.prog.underlying 5=some (.int .u8):=by kernel_rfl
theorem t4:Tryz.prog.underlying 4=some .bool:=by kernel_rfl
theorem c5:Tryz.prog.cellsOf 5=1:=by kernel_rfl
theorem func:Tryz.prog.funcs[8]?=some Tryz.f8:=by kernel_rfl
theorem contract(H:Type)(enc:TypeId×Value → H)(W:World)(base:Nat)(args:Array Value)(ds gs:List (DataW H))(before:List MemPlace)
  (hval:∀(j:Nat) t v,Tryz.f8.params[j]?=some t → args[j]?=some v → Value.okWide Tryz.prog W .any base t v)
  (hW:DataW.Whole enc Tryz.prog Tryz.f8.params.toList Rows.fnDeskTwiceSpec.vars false W args.toList ds gs before) :
  Calls Tryz.prog 8 args W fun e W'=>∃ v,e=.returned v ∧ Rows.fnDeskTwiceSpec.post enc Tryz.prog Tryz.f8 false true false false W args v W':=by
 have hW':=hW
 obtain⟨p,q,hA0,hV,rfl,hfz,hnd⟩:=hW
 have hA:DataW.TrodAll enc Tryz.prog W 0 (fun _=>true) true Tryz.f8.params.toList args.toList ds p:=hA0
 rw[params]at hA hval
 obtain⟨v0,vs0,d0,ds0,p0,q0,hargs,rfl,rfl,h0,r0⟩:=trodAll_cons hA
 obtain⟨rfl,rfl,rfl⟩:=trodAll_nil r0
 obtain rfl:args=#[v0]:=by cases args;simp_all
 obtain⟨rfl,rfl⟩:=trodVars_none hV
 obtain⟨code,hb,hrep,hd,hshut⟩:=bA t22 t5 c5 (hval 0 22 v0 rfl rfl) h0
 have hlaw:φ_bj [.list (code.map cB)]=some [.bool true]:=by
  by_cases h:code.length ≤ 1048576
  ·exact law_DeskTwice (by omega) hb
  ·unfold φ_bj t_bj
   exact mC (by rw[List.length_map];omega)
 refine(bU (vs:=[v0]) has_bj (by simp[dq]) ⟨[.list (code.map cB)],[],v0,[],[],[],rfl,rfl,rfl,cv hrep,rfl,rfl,rfl⟩ hlaw).mono ?_
 rintro e W' ⟨rfl,h1,h2,h3⟩
 refine⟨_,rfl,[d0],[],p0,[],p0,[],by simpa using hW',trodAll_cons_mk (shut_bool t4 _) trodAll_mk0,?_,rfl,de h1 h2 h3 _,fun h=>by cases h⟩
 rw[params]
 have:=trodAll_cons_mk (hshut W' h3) (trodAll_mk0 (enc:=enc) (P:=Tryz.prog) (w:=W') (base:=0) (spare:=fun b=>decide (b<W.heap.size)) (held:=true))
 rw[List.append_nil]at this
 exact this
set_option maxRecDepth 100000 in
theorem lifted(os:Os)(started:os.Started)(H:Type)(enc:TypeId×Value → H) :
  ReturnsInHanded {} Tryz.checked os 8 .any (Rows.fnDeskTwiceSpec.pre6 enc Tryz.prog Tryz.f8 Rows.fnDeskTwiceRow.domain false) (Rows.fnDeskTwiceSpec.post enc Tryz.prog Tryz.f8 false true false false):=by
 refine returnsInHanded_of_change (C:=Tryz.checked) own started (by kernel_rfl) func
  (ChangeSpec.witness6 (enc:=enc) (C:=Tryz.checked) false ⟨#[],#[.slice none 0 0],[]⟩ 8 (by kernel_rfl) (by kernel_rfl) (by kernel_rfl) (by kernel_rfl)) ?_
 intro W base args ds gs before hval hW _ _
 exact contract H enc W base args ds gs before hval hW
theorem proved:Rows.FnDeskTwiceSaid :=
 OpenClaim.holds_of_wide 8 Tryz.f8 rfl rfl rfl rfl rfl rfl rfl ⟨rfl,rfl,rfl,rfl,rfl⟩ rfl rfl rfl rfl rfl (by kernel_rfl) func (by kernel_rfl)
  (of_decide_eq_true (by kernel_rfl)) (by unfold Func.isWrapper;first|(rw[if_pos (by decide +kernel)];kernel_rfl)|(rw[if_neg (by decide +kernel)];exact⟨rfl,rfl⟩))
  (fun os started H enc _=>lifted os started H enc)
#print axioms proved
end Go.Proofs.YtahfbeiobndhkaaGreat.fnDeskTwice
