/- PROVED: Rows.FnDeskNewSaid: whatever the input, laws.FnDeskNew returns true, and its arguments read as they did. No condition beyond the statement's own. -/
import Derived.Test.YtahfbeiobndhkaaGreatZb
import Derived.Test.YtahfbeiobndhkaaGreatHa
import Derived.Test.YtahfbeiobndhkaaGreatJa
import Derived.Test.YtahfbeiobndhkaaGreatRows
set_option linter.all false
namespace Dx
open Go Go.Proofs
def t_cy:Tree :=
 .letp .len [⟨.list,(.v 0)⟩]<|
 .letp .gtI [⟨(.int .i64),(.v 1)⟩,⟨(.int .i64),(.n 1048576)⟩]<|
 .ite (.v 2) (
 .ret [⟨.bool,(.b true)⟩])<|
 .call 0 [⟨.list,(.v 0)⟩] [.bool,.list,(.int .i64),.list,.list]<|
 .call 1 [⟨.bool,(.v 3)⟩,⟨.list,(.v 4)⟩,⟨(.int .i64),(.v 5)⟩,⟨.list,(.v 6)⟩,⟨.list,(.v 7)⟩] [.bool,.list,(.int .i64),.list,.bool]<|
 .call 2 [⟨.bool,(.v 3)⟩,⟨.list,(.v 4)⟩,⟨(.int .i64),(.v 5)⟩,⟨.list,(.v 6)⟩,⟨.list,(.v 7)⟩] [.bool,.list,(.int .i64),.list,.bool]<|
 .letp .neB [⟨.bool,(.v 17)⟩,⟨.bool,(.v 12)⟩]<|
 .ite (.v 18) (
 .ret [⟨.bool,(.b false)⟩])<|
 .call 3 [⟨.bool,(.v 13)⟩,⟨.list,(.v 14)⟩,⟨(.int .i64),(.v 15)⟩,⟨.list,(.v 16)⟩,⟨.bool,(.v 8)⟩,⟨.list,(.v 9)⟩,⟨(.int .i64),(.v 10)⟩,⟨.list,(.v 11)⟩] [.bool]<|
 .letp .not [⟨.bool,(.v 19)⟩]<|
 .ite (.v 20) (
 .ret [⟨.bool,(.b false)⟩])<|
 .call 4 [] [.bool,.list,(.int .i64),.list]<|
 .letp (.mkl 1) [⟨(.int .i64),(.n 1)⟩,⟨(.int .i64),(.n 0)⟩,⟨(.int .i64),(.n 2)⟩]<|
 .call 2 [⟨.bool,(.v 21)⟩,⟨.list,(.v 22)⟩,⟨(.int .i64),(.v 23)⟩,⟨.list,(.v 24)⟩,⟨.list,(.v 25)⟩] [.bool,.list,(.int .i64),.list,.bool]<|
 .call 5 [⟨.bool,(.v 26)⟩,⟨.list,(.v 27)⟩,⟨(.int .i64),(.v 28)⟩,⟨.list,(.v 29)⟩,⟨.bool,(.b false)⟩] [.list]<|
 .call 6 [⟨.bool,(.v 21)⟩,⟨.list,(.v 22)⟩,⟨(.int .i64),(.v 23)⟩,⟨.list,(.v 24)⟩] [.bool]<|
 .ite (.v 32) (
 .ite (.v 21) (
 .call 5 [⟨.bool,(.v 21)⟩,⟨.list,(.v 22)⟩,⟨(.int .i64),(.v 23)⟩,⟨.list,(.v 24)⟩,⟨.bool,(.b false)⟩] [.list]<|
 .letp .len [⟨.list,(.v 33)⟩]<|
 .letp .eqI [⟨(.int .i64),(.v 34)⟩,⟨(.int .i64),(.n 0)⟩]<|
 .ite (.v 35) (
 .call 7 [⟨.bool,(.v 21)⟩,⟨.list,(.v 22)⟩,⟨(.int .i64),(.v 23)⟩,⟨.list,(.v 24)⟩] [.list]<|
 .letp .len [⟨.list,(.v 36)⟩]<|
 .letp .eqI [⟨(.int .i64),(.v 37)⟩,⟨(.int .i64),(.n 0)⟩]<|
 .ite (.v 38) (
 .ite (.v 30) (
 .letp .len [⟨.list,(.v 31)⟩]<|
 .letp .eqI [⟨(.int .i64),(.v 39)⟩,⟨(.int .i64),(.n 1)⟩]<|
 .ite (.v 40) (
 .call 7 [⟨.bool,(.v 26)⟩,⟨.list,(.v 27)⟩,⟨(.int .i64),(.v 28)⟩,⟨.list,(.v 29)⟩] [.list]<|
 .letp .len [⟨.list,(.v 41)⟩]<|
 .letp .eqI [⟨(.int .i64),(.v 42)⟩,⟨(.int .i64),(.n 0)⟩]<|
 .ret [⟨.bool,(.v 43)⟩])<|
 .ret [⟨.bool,(.b false)⟩])<|
 .ret [⟨.bool,(.b false)⟩])<|
 .ret [⟨.bool,(.b false)⟩])<|
 .ret [⟨.bool,(.b false)⟩])<|
 .ret [⟨.bool,(.b false)⟩])<|
 .ret [⟨.bool,(.b false)⟩]
noncomputable def Φ_cy:Phi:=fun n=>match n with
 | 0=>kx
 | 1=>kA
 | 2=>hU
 | 3=>cW
 | 4=>tR
 | 5=>dh
 | 6=>cu
 | 7=>jq
 | _=>fun _=>none
noncomputable def φ_cy(cs:List C):Option (List C):=aj (den Φ_cy t_cy cs)
end Dx
namespace Dx
open Go
section
variable {code:List Int}
set_option maxHeartbeats 4000000 in
theorem law_DeskNew(hl:code.length ≤ 1099511627776)(hc:fk code):φ_cy [.list (code.map eB)]=some [.bool true]:=by
 unfold φ_cy t_cy
 have e0:Φ_cy 0=kx:=rfl
 have e1:Φ_cy 1=kA:=rfl
 have e2:Φ_cy 2=hU:=rfl
 have e3:Φ_cy 3=cW:=rfl
 have e4:Φ_cy 4=tR:=rfl
 have e5:Φ_cy 5=dh:=rfl
 have e6:Φ_cy 6=cu:=rfl
 have e7:Φ_cy 7=jq:=rfl
 obtain⟨d,m,y,b,hd,hs,hm,hyS,p2,p1,hb⟩:=lu hl hc
 have hn:=kh hyS
 simp only[Desk.e,List.cons_append,List.nil_append]at p1 p2 hd
 refine sl rfl ?_
 by_cases hbig:(((code.map eB).length:Nat):Int)>1048576
 ·exact sl (congrArg C.bool (decide_eq_true hbig)) (st rfl (dR rfl))
 refine sl (congrArg C.bool (decide_eq_false hbig)) (sf rfl (sc e0 hd rfl rfl (sc e1 p2 rfl rfl ?_)))
 simp only[List.cons_append,List.nil_append]
 refine sc e2 p1 rfl rfl (sl (v:=.bool false) (congrArg C.bool (show (b != b)=false by cases b<;>rfl)) (sf rfl (sc e3 hn rfl rfl (sl (v:=.bool false) rfl (sf rfl ?_)))))
 simp only[List.cons_append,List.nil_append]
 have hnS:DkS ⟨true,⟨[],0⟩,[]⟩:=⟨⟨by simp,by simp⟩,by simp⟩
 have kn:aU ⟨true,⟨[],0⟩,[]⟩=true:=by decide
 have b1:=iy hnS (ms:=[1,0,2]) (by simp)
 have kr:aA (aV ⟨true,⟨[],0⟩,[]⟩ [1,0,2])=true:=by decide
 rw[kn,kr]at b1
 have ky:aQ ⟨true,⟨[],0⟩,[]⟩ (aV ⟨true,⟨[],0⟩,[]⟩ [1,0,2])=⟨true,⟨[⟨4,1,[1,0,2]⟩],0⟩,[]⟩:=rfl
 have kb:cA ⟨true,⟨[],0⟩,[]⟩ (aV ⟨true,⟨[],0⟩,[]⟩ [1,0,2])=true:=rfl
 rw[ky,kb]at b1
 have b1:hU [.bool true,.list [],.int .i64 0,.list [],.list [[.int .i64 1],[.int .i64 0],[.int .i64 2]]]=some [.bool true,.list [[.int .i64 4,.int .i64 1,.list [[.int .i64 1],[.int .i64 0],[.int .i64 2]]]],.int .i64 0,.list [],.bool true]:=b1
 have hmS:DkS ⟨true,⟨[⟨4,1,[1,0,2]⟩],0⟩,[]⟩:=⟨⟨by simp,by simp⟩,by simp⟩
 have km:aU ⟨true,⟨[⟨4,1,[1,0,2]⟩],0⟩,[]⟩=true:=by decide
 have t1:=aW hnS (b:=false)
 have t2:=aW hmS (b:=false)
 have w1:=dQ hnS
 have w2:=dQ hmS
 have o1:=bx hnS
 have pn:=By
 rw[kn]at t1 w1 o1
 rw[km]at t2 w2
 have t1:dh [.bool true,.list [],.int .i64 0,.list [],.bool false]=some [.list []]:=t1
 have t2:dh [.bool true,.list [[.int .i64 4,.int .i64 1,.list [[.int .i64 1],[.int .i64 0],[.int .i64 2]]]],.int .i64 0,.list [],.bool false]=some [.list [[.list [[.int .i64 1],[.int .i64 0],[.int .i64 2]],.int .i64 1]]]:=t2
 have w1:jq [.bool true,.list [],.int .i64 0,.list []]=some [.list []]:=w1
 have w2:jq [.bool true,.list [[.int .i64 4,.int .i64 1,.list [[.int .i64 1],[.int .i64 0],[.int .i64 2]]]],.int .i64 0,.list []]=some [.list []]:=w2
 have o1:cu [.bool true,.list [],.int .i64 0,.list []]=some [.bool true]:=o1
 have pn:tR []=some [.bool true,.list [],.int .i64 0,.list []]:=pn
 refine sc e4 pn rfl rfl (sl (v:=.list [[.int .i64 1],[.int .i64 0],[.int .i64 2]]) (congrArg C.list (Dr _ _ _)) ?_)
 simp only[List.cons_append,List.nil_append]
 refine sc e2 b1 rfl rfl (sc e5 t2 rfl rfl (sc e6 o1 rfl rfl (st rfl (st rfl ?_))))
 simp only[List.cons_append,List.nil_append]
 refine sc e5 t1 rfl rfl (sl (v:=.int .i64 0) rfl (sl (v:=.bool true) rfl (st rfl (sc e7 w1 rfl rfl (sl (v:=.int .i64 0) rfl (sl (v:=.bool true) rfl (st rfl (st rfl ?_))))))))
 simp only[List.cons_append,List.nil_append]
 exact sl (v:=.int .i64 1) rfl (sl (v:=.bool true) rfl (st rfl (sc e7 w2 rfl rfl (sl (v:=.int .i64 0) rfl (sl (v:=.bool true) rfl (dR rfl))))))
end
end Dx
namespace Dx
open Go Go.Proofs
def c_cy:Con:=⟨[.own false [.val] [.list] false],[⟨false,[.val],[.bool],false⟩]⟩
theorem has_cy:Has Tryz.prog 7 c_cy φ_cy:=fp (R:=[]) (tr:=false) (E:=[(28,0,ID),(29,1,IE),(30,2,Fx),(23,3,sM),(31,4,c_ei),(25,5,yq),(32,6,pX),(24,7,IC)]) (Φ:=Φ_cy) (t:=t_cy) ⟨zX,zY,ud,gp,KB,i6,eV,zW,trivial⟩ Tryz.f7 hE (by kernel_rfl)
end Dx
namespace Go.Proofs.YtahfbeiobndhkaaGreat.fnDeskNew
open Go.ChangeShapes Go.WideShapes Go.ChangeAt Go.RowKit Dx
set_option linter.unusedVariables false
set_option maxRecDepth 100000
theorem own:ownKnob Tryz.prog.godebug=none:=by kernel_rfl
theorem params:Tryz.f7.params=#[22]:=by kernel_rfl
theorem results:Tryz.f7.resultTypes=#[4]:=by kernel_rfl
theorem t22:Tryz.prog.underlying 22=some (.slice 5):=by kernel_rfl
theorem t5:Tryz.prog.underlying 5=some (.int .u8):=by kernel_rfl
theorem t4:Tryz.prog.underlying 4=some .bool:=by kernel_rfl
theorem c5:Tryz.prog.cellsOf 5=1:=by kernel_rfl
theorem func:Tryz.prog.funcs[7]?=some Tryz.f7:=by kernel_rfl
theorem contract(H:Type)(enc:TypeId×Value → H)(W:World)(base:Nat)(args:Array Value)(ds gs:List (DataW H))(before:List MemPlace)
  (hval:∀(j:Nat) t v,Tryz.f7.params[j]?=some t → args[j]?=some v → Value.okWide Tryz.prog W .any base t v)
  (hW:DataW.Whole enc Tryz.prog Tryz.f7.params.toList Rows.fnDeskNewSpec.vars false W args.toList ds gs before) :
  Calls Tryz.prog 7 args W fun e W'=>∃ v,e=.returned v ∧ Rows.fnDeskNewSpec.post enc Tryz.prog Tryz.f7 false true false false W args v W':=by
 have hW':=hW
 obtain⟨p,q,hA0,hV,rfl,hfz,hnd⟩:=hW
 have hA:DataW.TrodAll enc Tryz.prog W 0 (fun _=>true) true Tryz.f7.params.toList args.toList ds p:=hA0
 rw[params]at hA hval
 obtain⟨v0,vs0,d0,ds0,p0,q0,hargs,rfl,rfl,h0,r0⟩:=trodAll_cons hA
 obtain⟨rfl,rfl,rfl⟩:=trodAll_nil r0
 obtain rfl:args=#[v0]:=by cases args;simp_all
 obtain⟨rfl,rfl⟩:=trodVars_none hV
 obtain⟨code,hb,hrep,hd,hshut⟩:=bA t22 t5 c5 (hval 0 22 v0 rfl rfl) h0
 have hlaw:φ_cy [.list (code.map cB)]=some [.bool true]:=by
  by_cases h:code.length ≤ 1048576
  ·exact law_DeskNew (by omega) hb
  ·unfold φ_cy t_cy
   exact mC (by rw[List.length_map];omega)
 refine(bU (vs:=[v0]) has_cy (by simp[dq]) ⟨[.list (code.map cB)],[],v0,[],[],[],rfl,rfl,rfl,cv hrep,rfl,rfl,rfl⟩ hlaw).mono ?_
 rintro e W' ⟨rfl,h1,h2,h3⟩
 refine⟨_,rfl,[d0],[],p0,[],p0,[],by simpa using hW',trodAll_cons_mk (shut_bool t4 _) trodAll_mk0,?_,rfl,de h1 h2 h3 _,fun h=>by cases h⟩
 rw[params]
 have:=trodAll_cons_mk (hshut W' h3) (trodAll_mk0 (enc:=enc) (P:=Tryz.prog) (w:=W') (base:=0) (spare:=fun b=>decide (b<W.heap.size)) (held:=true))
 rw[List.append_nil]at this
 exact this
set_option maxRecDepth 100000 in
theorem lifted(os:Os)(started:os.Started)(H:Type)(enc:TypeId×Value → H) :
  ReturnsInHanded {} Tryz.checked os 7 .any (Rows.fnDeskNewSpec.pre6 enc Tryz.prog Tryz.f7 Rows.fnDeskNewRow.domain false) (Rows.fnDeskNewSpec.post enc Tryz.prog Tryz.f7 false true false false):=by
 refine returnsInHanded_of_change (C:=Tryz.checked) own started (by kernel_rfl) func
  (ChangeSpec.witness6 (enc:=enc) (C:=Tryz.checked) false ⟨#[],#[.slice none 0 0],[]⟩ 8 (by kernel_rfl) (by kernel_rfl) (by kernel_rfl) (by kernel_rfl)) ?_
 intro W base args ds gs before hval hW _ _
 exact contract H enc W base args ds gs before hval hW
theorem proved:Rows.FnDeskNewSaid :=
 OpenClaim.holds_of_wide 7 Tryz.f7 rfl rfl rfl rfl rfl rfl rfl ⟨rfl,rfl,rfl,rfl,rfl⟩ rfl rfl rfl rfl rfl (by kernel_rfl) func (by kernel_rfl)
  (of_decide_eq_true (by kernel_rfl)) (by unfold Func.isWrapper;first|(rw[if_pos (by decide +kernel)];kernel_rfl)|(rw[if_neg (by decide +kernel)];exact⟨rfl,rfl⟩))
  (fun os started H enc _=>lifted os started H enc)
#print axioms proved
end Go.Proofs.YtahfbeiobndhkaaGreat.fnDeskNew
