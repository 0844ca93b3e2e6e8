/- PROVED: Rows.FnWorldIdleSaid: whatever the input, laws.FnWorldIdle returns true, and its arguments read as they did. No condition beyond the statement's own. -/
import Derived.Test.YtmjkolpalcpgfaaGreatZb
import Derived.Test.YtmjkolpalcpgfaaGreatHa
import Derived.Test.YtmjkolpalcpgfaaGreatJa
import Derived.Test.YtmjkolpalcpgfaaGreatRows
set_option linter.all false
namespace Dx
open Go Go.Proofs
def t_bp:Tree :=
 .letp .len [⟨.list,(.v 0)⟩]<|
 .letp .gtI [⟨(.int .i64),(.v 1)⟩,⟨(.int .i64),(.n 1048576)⟩]<|
 .ite (.v 2) (
 .ret [⟨.bool,(.b true)⟩])<|
 .call 0 [⟨.list,(.v 0)⟩] [.bool,.list,(.int .i64),.list,.list,.list,(.int .i64),(.int .i64),(.int .i64),.list]<|
 .call 1 [⟨.bool,(.v 3)⟩,⟨.list,(.v 4)⟩,⟨(.int .i64),(.v 5)⟩,⟨.list,(.v 6)⟩,⟨.list,(.v 7)⟩,⟨.list,(.v 8)⟩,⟨(.int .i64),(.v 9)⟩,⟨(.int .i64),(.v 10)⟩,⟨(.int .i64),(.v 11)⟩,⟨.list,(.v 12)⟩] [.bool,.list,(.int .i64),.list,.list,.list]<|
 .call 2 [⟨.bool,(.v 3)⟩,⟨.list,(.v 4)⟩,⟨(.int .i64),(.v 5)⟩,⟨.list,(.v 6)⟩,⟨.list,(.v 7)⟩,⟨.list,(.v 8)⟩,⟨(.int .i64),(.v 9)⟩,⟨(.int .i64),(.v 10)⟩,⟨(.int .i64),(.v 11)⟩,⟨.list,(.v 12)⟩] [.bool,.list,(.int .i64),.list,.list,.list]<|
 .call 3 [⟨.bool,(.v 13)⟩,⟨.list,(.v 14)⟩,⟨(.int .i64),(.v 15)⟩,⟨.list,(.v 16)⟩,⟨.list,(.v 17)⟩,⟨.list,(.v 18)⟩,⟨.bool,(.v 19)⟩,⟨.list,(.v 20)⟩,⟨(.int .i64),(.v 21)⟩,⟨.list,(.v 22)⟩,⟨.list,(.v 23)⟩,⟨.list,(.v 24)⟩] [.bool]<|
 .letp .not [⟨.bool,(.v 25)⟩]<|
 .ite (.v 26) (
 .call 2 [⟨.bool,(.v 3)⟩,⟨.list,(.v 4)⟩,⟨(.int .i64),(.v 5)⟩,⟨.list,(.v 6)⟩,⟨.list,(.v 7)⟩,⟨.list,(.v 8)⟩,⟨(.int .i64),(.v 9)⟩,⟨(.int .i64),(.v 10)⟩,⟨(.int .i64),(.v 11)⟩,⟨.list,(.v 12)⟩] [.bool,.list,(.int .i64),.list,.list,.list]<|
 .call 3 [⟨.bool,(.v 13)⟩,⟨.list,(.v 14)⟩,⟨(.int .i64),(.v 15)⟩,⟨.list,(.v 16)⟩,⟨.list,(.v 17)⟩,⟨.list,(.v 18)⟩,⟨.bool,(.v 27)⟩,⟨.list,(.v 28)⟩,⟨(.int .i64),(.v 29)⟩,⟨.list,(.v 30)⟩,⟨.list,(.v 31)⟩,⟨.list,(.v 32)⟩] [.bool]<|
 .ret [⟨.bool,(.v 33)⟩])<|
 .call 4 [⟨.bool,(.v 3)⟩,⟨.list,(.v 4)⟩,⟨(.int .i64),(.v 5)⟩,⟨.list,(.v 6)⟩,⟨.list,(.v 7)⟩,⟨.list,(.v 8)⟩] [.bool]<|
 .letp .not [⟨.bool,(.v 27)⟩]<|
 .ite (.v 28) (
 .call 2 [⟨.bool,(.v 3)⟩,⟨.list,(.v 4)⟩,⟨(.int .i64),(.v 5)⟩,⟨.list,(.v 6)⟩,⟨.list,(.v 7)⟩,⟨.list,(.v 8)⟩,⟨(.int .i64),(.v 9)⟩,⟨(.int .i64),(.v 10)⟩,⟨(.int .i64),(.v 11)⟩,⟨.list,(.v 12)⟩] [.bool,.list,(.int .i64),.list,.list,.list]<|
 .call 3 [⟨.bool,(.v 13)⟩,⟨.list,(.v 14)⟩,⟨(.int .i64),(.v 15)⟩,⟨.list,(.v 16)⟩,⟨.list,(.v 17)⟩,⟨.list,(.v 18)⟩,⟨.bool,(.v 29)⟩,⟨.list,(.v 30)⟩,⟨(.int .i64),(.v 31)⟩,⟨.list,(.v 32)⟩,⟨.list,(.v 33)⟩,⟨.list,(.v 34)⟩] [.bool]<|
 .ret [⟨.bool,(.v 35)⟩])<|
 .call 1 [⟨.bool,(.v 3)⟩,⟨.list,(.v 4)⟩,⟨(.int .i64),(.v 5)⟩,⟨.list,(.v 6)⟩,⟨.list,(.v 7)⟩,⟨.list,(.v 8)⟩,⟨(.int .i64),(.n 10)⟩,⟨(.int .i64),(.n 0)⟩,⟨(.int .i64),(.n 0)⟩,⟨.list,.e⟩] [.bool,.list,(.int .i64),.list,.list,.list]<|
 .letp .len [⟨.list,(.v 8)⟩]<|
 .call 1 [⟨.bool,(.v 3)⟩,⟨.list,(.v 4)⟩,⟨(.int .i64),(.v 5)⟩,⟨.list,(.v 6)⟩,⟨.list,(.v 7)⟩,⟨.list,(.v 8)⟩,⟨(.int .i64),(.n 4)⟩,⟨(.int .i64),(.v 35)⟩,⟨(.int .i64),(.n 0)⟩,⟨.list,.e⟩] [.bool,.list,(.int .i64),.list,.list,.list]<|
 .call 1 [⟨.bool,(.v 3)⟩,⟨.list,(.v 4)⟩,⟨(.int .i64),(.v 5)⟩,⟨.list,(.v 6)⟩,⟨.list,(.v 7)⟩,⟨.list,(.v 8)⟩,⟨(.int .i64),(.n 8)⟩,⟨(.int .i64),(.n 4)⟩,⟨(.int .i64),(.n 0)⟩,⟨.list,.e⟩] [.bool,.list,(.int .i64),.list,.list,.list]<|
 .call 1 [⟨.bool,(.v 3)⟩,⟨.list,(.v 4)⟩,⟨(.int .i64),(.v 5)⟩,⟨.list,(.v 6)⟩,⟨.list,(.v 7)⟩,⟨.list,(.v 8)⟩,⟨(.int .i64),(.n 2)⟩,⟨(.int .i64),(.n 7)⟩,⟨(.int .i64),(.n 0)⟩,⟨.list,.e⟩] [.bool,.list,(.int .i64),.list,.list,.list]<|
 .letp (.mkl 1) [⟨(.int .i64),(.n 0)⟩,⟨(.int .i64),(.n 0)⟩,⟨(.int .i64),(.n 0)⟩]<|
 .call 1 [⟨.bool,(.v 3)⟩,⟨.list,(.v 4)⟩,⟨(.int .i64),(.v 5)⟩,⟨.list,(.v 6)⟩,⟨.list,(.v 7)⟩,⟨.list,(.v 8)⟩,⟨(.int .i64),(.n 1)⟩,⟨(.int .i64),(.n 0)⟩,⟨(.int .i64),(.n 0)⟩,⟨.list,(.v 54)⟩] [.bool,.list,(.int .i64),.list,.list,.list]<|
 .join [.bool,.list,(.int .i64),.list,.list,.list] (
 .call 5 [⟨.bool,(.v 3)⟩,⟨.list,(.v 4)⟩,⟨(.int .i64),(.v 5)⟩,⟨.list,(.v 6)⟩] [.list]<|
 .letp .len [⟨.list,(.v 61)⟩]<|
 .call 1 [⟨.bool,(.v 3)⟩,⟨.list,(.v 4)⟩,⟨(.int .i64),(.v 5)⟩,⟨.list,(.v 6)⟩,⟨.list,(.v 7)⟩,⟨.list,(.v 8)⟩,⟨(.int .i64),(.n 3)⟩,⟨(.int .i64),(.v 62)⟩,⟨(.int .i64),(.n 0)⟩,⟨.list,.e⟩] [.bool,.list,(.int .i64),.list,.list,.list]<|
 .jump [⟨.bool,(.v 63)⟩,⟨.list,(.v 64)⟩,⟨(.int .i64),(.v 65)⟩,⟨.list,(.v 66)⟩,⟨.list,(.v 67)⟩,⟨.list,(.v 68)⟩])<|
 .call 3 [⟨.bool,(.v 29)⟩,⟨.list,(.v 30)⟩,⟨(.int .i64),(.v 31)⟩,⟨.list,(.v 32)⟩,⟨.list,(.v 33)⟩,⟨.list,(.v 34)⟩,⟨.bool,(.v 3)⟩,⟨.list,(.v 4)⟩,⟨(.int .i64),(.v 5)⟩,⟨.list,(.v 6)⟩,⟨.list,(.v 7)⟩,⟨.list,(.v 8)⟩] [.bool]<|
 .ite (.v 67) (
 .call 3 [⟨.bool,(.v 36)⟩,⟨.list,(.v 37)⟩,⟨(.int .i64),(.v 38)⟩,⟨.list,(.v 39)⟩,⟨.list,(.v 40)⟩,⟨.list,(.v 41)⟩,⟨.bool,(.v 3)⟩,⟨.list,(.v 4)⟩,⟨(.int .i64),(.v 5)⟩,⟨.list,(.v 6)⟩,⟨.list,(.v 7)⟩,⟨.list,(.v 8)⟩] [.bool]<|
 .ite (.v 68) (
 .call 3 [⟨.bool,(.v 42)⟩,⟨.list,(.v 43)⟩,⟨(.int .i64),(.v 44)⟩,⟨.list,(.v 45)⟩,⟨.list,(.v 46)⟩,⟨.list,(.v 47)⟩,⟨.bool,(.v 3)⟩,⟨.list,(.v 4)⟩,⟨(.int .i64),(.v 5)⟩,⟨.list,(.v 6)⟩,⟨.list,(.v 7)⟩,⟨.list,(.v 8)⟩] [.bool]<|
 .ite (.v 69) (
 .call 3 [⟨.bool,(.v 48)⟩,⟨.list,(.v 49)⟩,⟨(.int .i64),(.v 50)⟩,⟨.list,(.v 51)⟩,⟨.list,(.v 52)⟩,⟨.list,(.v 53)⟩,⟨.bool,(.v 3)⟩,⟨.list,(.v 4)⟩,⟨(.int .i64),(.v 5)⟩,⟨.list,(.v 6)⟩,⟨.list,(.v 7)⟩,⟨.list,(.v 8)⟩] [.bool]<|
 .ite (.v 70) (
 .call 3 [⟨.bool,(.v 55)⟩,⟨.list,(.v 56)⟩,⟨(.int .i64),(.v 57)⟩,⟨.list,(.v 58)⟩,⟨.list,(.v 59)⟩,⟨.list,(.v 60)⟩,⟨.bool,(.v 3)⟩,⟨.list,(.v 4)⟩,⟨(.int .i64),(.v 5)⟩,⟨.list,(.v 6)⟩,⟨.list,(.v 7)⟩,⟨.list,(.v 8)⟩] [.bool]<|
 .ite (.v 71) (
 .call 3 [⟨.bool,(.v 61)⟩,⟨.list,(.v 62)⟩,⟨(.int .i64),(.v 63)⟩,⟨.list,(.v 64)⟩,⟨.list,(.v 65)⟩,⟨.list,(.v 66)⟩,⟨.bool,(.v 3)⟩,⟨.list,(.v 4)⟩,⟨(.int .i64),(.v 5)⟩,⟨.list,(.v 6)⟩,⟨.list,(.v 7)⟩,⟨.list,(.v 8)⟩] [.bool]<|
 .ret [⟨.bool,(.v 72)⟩])<|
 .ret [⟨.bool,(.b false)⟩])<|
 .ret [⟨.bool,(.b false)⟩])<|
 .ret [⟨.bool,(.b false)⟩])<|
 .ret [⟨.bool,(.b false)⟩])<|
 .ret [⟨.bool,(.b false)⟩]
noncomputable def Φ_bp:Phi:=fun n=>match n with
 | 0=>rB
 | 1=>dI
 | 2=>nN
 | 3=>cY
 | 4=>iG
 | 5=>rA
 | _=>fun _=>none
noncomputable def φ_bp(cs:List C):Option (List C):=ah (den Φ_bp t_bp cs)
end Dx
namespace Dx
open Go
section
variable {code more:List Int}
set_option maxHeartbeats 2000000 in
theorem law_WorldIdle(hl:code.length ≤ 1099511627776)(hc:fQ code):φ_bp [.list (code.map eB)]=some [.bool true]:=by
 unfold φ_bp t_bp
 refine oK rfl rfl rfl rfl rfl hl hc fun w e x ow he hx=>?_
 have e1:Φ_bp 1=dI:=rfl
 have e3:Φ_bp 3=cY:=rfl
 have e5:Φ_bp 5=rA:=rfl
 have d1:=bX ow (e:=⟨10,0,0,[]⟩) (by simp)
 have d2:=bX ow (e:=⟨4,(w.ns.length:Int),0,[]⟩) (by simp)
 have d3:=bX ow (e:=⟨8,4,0,[]⟩) (by simp)
 have d4:=bX ow (e:=⟨2,7,0,[]⟩) (by simp)
 have d5:=bX ow (e:=⟨1,0,0,[0,0,0]⟩) (by simp)
 have d6:=bX ow (e:=⟨3,((aV w.dk).length:Int),0,[]⟩) (by simp)
 rw[idle1]at d1
 rw[idle2]at d2
 rw[idle3]at d3
 rw[idle4]at d4
 rw[idle5]at d5
 rw[idle6]at d6
 have hdS:DkS ⟨w.dk.up,⟨w.dk.lg.rs,w.dk.lg.f⟩,w.dk.td⟩:=ow.dk.S
 have hdo:bH ⟨w.dk.up,⟨w.dk.lg.rs,w.dk.lg.f⟩,w.dk.td⟩=true:=deskOk_iff.2 ow.dk
 have hdw:=mi hdS
 rw[if_pos hdo]at hdw
 have hself:=ow.n (w':=w)
 simp only[decide_true]at hself
 simp only[Wd.e,List.map_nil,List.map_cons,eI]at d1 d2 d3 d4 d5 d6
 have hl1:(((w.ns.map Word.e).length:Nat):Int)=w.ns.length:=by rw[List.length_map]
 have hl2:((((aV w.dk).map Word.e).length:Nat):Int)=(aV w.dk).length:=by rw[List.length_map]
 unfold Fe
 refine sc e1 d1 rfl rfl ?_
 simp only[List.cons_append,List.nil_append]
 refine sl (congrArg (C.int .i64) hl1) (sc e1 d2 rfl rfl ?_)
 simp only[List.cons_append,List.nil_append]
 refine sc e1 d3 rfl rfl ?_
 simp only[List.cons_append,List.nil_append]
 refine sc e1 d4 rfl rfl ?_
 simp only[List.cons_append,List.nil_append]
 refine sl (v:=.list [[.int .i64 0],[.int .i64 0],[.int .i64 0]]) (congrArg C.list (kP _ _ _)) ?_
 simp only[List.cons_append,List.nil_append]
 refine sc e1 d5 rfl rfl ?_
 simp only[List.cons_append,List.nil_append]
 refine sj (dc e5 hdw rfl rfl (dl (congrArg (C.int .i64) hl2) (dc e1 d6 rfl rfl (dj rfl)))) rfl ?_
 simp only[List.cons_append,List.nil_append]
 refine sc e3 hself rfl rfl (st rfl ?_)
 simp only[List.cons_append,List.nil_append]
 refine sc e3 hself rfl rfl (st rfl ?_)
 simp only[List.cons_append,List.nil_append]
 refine sc e3 hself rfl rfl (st rfl ?_)
 simp only[List.cons_append,List.nil_append]
 refine sc e3 hself rfl rfl (st rfl ?_)
 simp only[List.cons_append,List.nil_append]
 refine sc e3 hself rfl rfl (st rfl ?_)
 simp only[List.cons_append,List.nil_append]
 exact sc e3 hself rfl rfl (tC rfl)
end
end Dx
namespace Dx
open Go Go.Proofs
def c_bp:Con:=⟨[.own false [.val] [.list] false],[⟨false,[.val],[.bool],false⟩]⟩
def h_bp:How:=⟨aw [],
 aw [(13,⟨kW,[(11,(.ptr 1000 0))],[(1000,.cells [(.bool (.v 0)),(.view true (.v 1)),(sI 2),(.view true (.v 3)),(.view true (.v 4)),(.view true (.v 5))])],[],1⟩)],
 aw []⟩
theorem has_bp:Has Tryz.prog 13 c_bp φ_bp:=fp (R:=[]) (tr:=false) (E:=[(32,0,c_bm),(28,1,yP),(33,2,c_eg),(17,3,qy),(19,4,EH),(31,5,c_cn)]) (Φ:=Φ_bp) (t:=t_bp) ⟨ER,jF,ES,fF,qx,EQ,trivial⟩ Tryz.f13 h_bp (by kernel_rfl)
end Dx
namespace Go.Proofs.YtmjkolpalcpgfaaGreat.fnWorldIdle
open Go.ChangeShapes Go.WideShapes Go.ChangeAt Go.RowKit Dx
set_option linter.unusedVariables false
set_option maxRecDepth 100000
theorem own:ownKnob Tryz.prog.godebug=none:=by kernel_rfl
theorem params:Tryz.f13.params=#[22]:=by kernel_rfl
theorem results:Tryz.f13.resultTypes=#[4]:=by kernel_rfl
theorem t22:Tryz.prog.underlying 22=some (.slice 5):=by kernel_rfl
theorem t5:Tryz.prog.underlying 5=some (.int .u8):=by kernel_rfl
theorem t4:Tryz.prog.underlying 4=some .bool:=by kernel_rfl
theorem c5:Tryz.prog.cellsOf 5=1:=by kernel_rfl
theorem func:Tryz.prog.funcs[13]?=some Tryz.f13:=by kernel_rfl
theorem contract(H:Type)(enc:TypeId×Value → H)(W:World)(base:Nat)(args:Array Value)(ds gs:List (DataW H))(before:List MemPlace)
  (hval:∀(j:Nat) t v,Tryz.f13.params[j]?=some t → args[j]?=some v → Value.okWide Tryz.prog W .any base t v)
  (hW:DataW.Whole enc Tryz.prog Tryz.f13.params.toList Rows.fnWorldIdleSpec.vars false W args.toList ds gs before) :
  Calls Tryz.prog 13 args W fun e W'=>∃ v,e=.returned v ∧ Rows.fnWorldIdleSpec.post enc Tryz.prog Tryz.f13 false true false false W args v W':=by
 have hW':=hW
 obtain⟨p,q,hA0,hV,rfl,hfz,hnd⟩:=hW
 have hA:DataW.TrodAll enc Tryz.prog W 0 (fun _=>true) true Tryz.f13.params.toList args.toList ds p:=hA0
 rw[params]at hA hval
 obtain⟨v0,vs0,d0,ds0,p0,q0,hargs,rfl,rfl,h0,r0⟩:=trodAll_cons hA
 obtain⟨rfl,rfl,rfl⟩:=trodAll_nil r0
 obtain rfl:args=#[v0]:=by cases args;simp_all
 obtain⟨rfl,rfl⟩:=trodVars_none hV
 obtain⟨code,hb,hrep,hd,hshut⟩:=bx t22 t5 c5 (hval 0 22 v0 rfl rfl) h0
 have hlaw:φ_bp [.list (code.map cB)]=some [.bool true]:=by
  by_cases h:code.length ≤ 1048576
  ·exact law_WorldIdle (by omega) hb
  ·unfold φ_bp t_bp
   exact vf (by rw[List.length_map];omega)
 refine(cz (vs:=[v0]) has_bp (by simp[dZ]) ⟨[.list (code.map cB)],[],v0,[],[],[],rfl,rfl,rfl,ct hrep,rfl,rfl,rfl⟩ hlaw).mono ?_
 rintro e W' ⟨rfl,h1,h2,h3⟩
 refine⟨_,rfl,[d0],[],p0,[],p0,[],by simpa using hW',trodAll_cons_mk (shut_bool t4 _) trodAll_mk0,?_,rfl,dQ h1 h2 h3 _,fun h=>by cases h⟩
 rw[params]
 have:=trodAll_cons_mk (hshut W' h3) (trodAll_mk0 (enc:=enc) (P:=Tryz.prog) (w:=W') (base:=0) (spare:=fun b=>decide (b<W.heap.size)) (held:=true))
 rw[List.append_nil]at this
 exact this
set_option maxRecDepth 100000 in
theorem lifted(os:Os)(started:os.Started)(H:Type)(enc:TypeId×Value → H) :
  ReturnsInHanded {} Tryz.checked os 13 .any (Rows.fnWorldIdleSpec.pre6 enc Tryz.prog Tryz.f13 Rows.fnWorldIdleRow.domain false) (Rows.fnWorldIdleSpec.post enc Tryz.prog Tryz.f13 false true false false):=by
 refine returnsInHanded_of_change (C:=Tryz.checked) own started (by kernel_rfl) func
  (ChangeSpec.witness6 (enc:=enc) (C:=Tryz.checked) false ⟨#[],#[.slice none 0 0],[]⟩ 8 (by kernel_rfl) (by kernel_rfl) (by kernel_rfl) (by kernel_rfl)) ?_
 intro W base args ds gs before hval hW _ _
 exact contract H enc W base args ds gs before hval hW
theorem proved:Rows.FnWorldIdleSaid :=
 OpenClaim.holds_of_wide 13 Tryz.f13 rfl rfl rfl rfl rfl rfl rfl ⟨rfl,rfl,rfl,rfl,rfl⟩ rfl rfl rfl rfl rfl (by kernel_rfl) func (by kernel_rfl)
  (of_decide_eq_true (by kernel_rfl)) (by unfold Func.isWrapper;first|(rw[if_pos (by decide +kernel)];kernel_rfl)|(rw[if_neg (by decide +kernel)];exact⟨rfl,rfl⟩))
  (fun os started H enc _=>lifted os started H enc)
#print axioms proved
end Go.Proofs.YtmjkolpalcpgfaaGreat.fnWorldIdle
