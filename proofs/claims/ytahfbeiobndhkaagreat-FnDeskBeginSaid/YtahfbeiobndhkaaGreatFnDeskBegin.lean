/- PROVED: Rows.FnDeskBeginSaid: whatever the input, laws.FnDeskBegin returns true, and its arguments read as they did. No condition beyond the statement's own. -/
import Derived.Test.YtahfbeiobndhkaaGreatZb
import Derived.Test.YtahfbeiobndhkaaGreatHa
import Derived.Test.YtahfbeiobndhkaaGreatJa
import Derived.Test.YtahfbeiobndhkaaGreatRows
set_option linter.all false
namespace Dx
open Go Go.Proofs
def t_bd:Tree :=
 .letp .len [⟨.list,(.v 0)⟩]<|
 .letp .gtI [⟨(.int .i64),(.v 1)⟩,⟨(.int .i64),(.n 1048576)⟩]<|
 .ite (.v 2) (
 .ret [⟨.bool,(.b true)⟩])<|
 .call 0 [⟨.list,(.v 0)⟩] [.bool,.list,(.int .i64),.list,.list]<|
 .call 1 [⟨.bool,(.v 3)⟩,⟨.list,(.v 4)⟩,⟨(.int .i64),(.v 5)⟩,⟨.list,(.v 6)⟩,⟨.list,(.v 7)⟩] [.bool,.list,(.int .i64),.list,.bool]<|
 .call 2 [⟨.bool,(.v 3)⟩,⟨.list,(.v 4)⟩,⟨(.int .i64),(.v 5)⟩,⟨.list,(.v 6)⟩,⟨.list,(.v 7)⟩] [.bool,.list,(.int .i64),.list,.bool]<|
 .letp .neB [⟨.bool,(.v 17)⟩,⟨.bool,(.v 12)⟩]<|
 .ite (.v 18) (
 .letp .eqB [⟨.bool,(.v 17)⟩,⟨.bool,(.v 12)⟩]<|
 .ite (.v 19) (
 .call 3 [⟨.bool,(.v 13)⟩,⟨.list,(.v 14)⟩,⟨(.int .i64),(.v 15)⟩,⟨.list,(.v 16)⟩,⟨.bool,(.v 8)⟩,⟨.list,(.v 9)⟩,⟨(.int .i64),(.v 10)⟩,⟨.list,(.v 11)⟩] [.bool]<|
 .ret [⟨.bool,(.v 20)⟩])<|
 .ret [⟨.bool,(.b false)⟩])<|
 .call 3 [⟨.bool,(.v 13)⟩,⟨.list,(.v 14)⟩,⟨(.int .i64),(.v 15)⟩,⟨.list,(.v 16)⟩,⟨.bool,(.v 8)⟩,⟨.list,(.v 9)⟩,⟨(.int .i64),(.v 10)⟩,⟨.list,(.v 11)⟩] [.bool]<|
 .letp .not [⟨.bool,(.v 19)⟩]<|
 .ite (.v 20) (
 .letp .eqB [⟨.bool,(.v 17)⟩,⟨.bool,(.v 12)⟩]<|
 .ite (.v 21) (
 .call 3 [⟨.bool,(.v 13)⟩,⟨.list,(.v 14)⟩,⟨(.int .i64),(.v 15)⟩,⟨.list,(.v 16)⟩,⟨.bool,(.v 8)⟩,⟨.list,(.v 9)⟩,⟨(.int .i64),(.v 10)⟩,⟨.list,(.v 11)⟩] [.bool]<|
 .ret [⟨.bool,(.v 22)⟩])<|
 .ret [⟨.bool,(.b false)⟩])<|
 .letp .not [⟨.bool,(.v 17)⟩]<|
 .ite (.v 21) (
 .letp .eqB [⟨.bool,(.v 17)⟩,⟨.bool,(.v 12)⟩]<|
 .ite (.v 22) (
 .call 3 [⟨.bool,(.v 13)⟩,⟨.list,(.v 14)⟩,⟨(.int .i64),(.v 15)⟩,⟨.list,(.v 16)⟩,⟨.bool,(.v 8)⟩,⟨.list,(.v 9)⟩,⟨(.int .i64),(.v 10)⟩,⟨.list,(.v 11)⟩] [.bool]<|
 .ret [⟨.bool,(.v 23)⟩])<|
 .ret [⟨.bool,(.b false)⟩])<|
 .call 4 [⟨.bool,(.v 3)⟩,⟨.list,(.v 4)⟩,⟨(.int .i64),(.v 5)⟩,⟨.list,(.v 6)⟩,⟨.bool,(.b false)⟩] [.list]<|
 .call 4 [⟨.bool,(.v 13)⟩,⟨.list,(.v 14)⟩,⟨(.int .i64),(.v 15)⟩,⟨.list,(.v 16)⟩,⟨.bool,(.b false)⟩] [.list]<|
 .letp .len [⟨.list,(.v 22)⟩]<|
 .letp .len [⟨.list,(.v 23)⟩]<|
 .letp (.add .i64) [⟨(.int .i64),(.v 24)⟩,⟨(.int .i64),(.n 1)⟩]<|
 .letp .eqI [⟨(.int .i64),(.v 25)⟩,⟨(.int .i64),(.v 26)⟩]<|
 .ite (.v 27) (
 .chk .upto [⟨(.int .i64),(.v 24)⟩,⟨.list,(.v 23)⟩]<|
 .letp .take [⟨.list,(.v 23)⟩,⟨(.int .i64),(.v 24)⟩]<|
 .call 5 [⟨.list,(.v 28)⟩,⟨.list,(.v 22)⟩] [.bool]<|
 .ite (.v 29) (
 .row (.v 23) (.v 24) [.list,(.int .i64)]<|
 .call 6 [⟨.list,(.v 30)⟩,⟨.list,(.v 7)⟩] [.bool]<|
 .ite (.v 32) (
 .row (.v 23) (.v 24) [.list,(.int .i64)]<|
 .letp .eqI [⟨(.int .i64),(.v 34)⟩,⟨(.int .i64),(.n 1)⟩]<|
 .ite (.v 35) (
 .call 4 [⟨.bool,(.v 13)⟩,⟨.list,(.v 14)⟩,⟨(.int .i64),(.v 15)⟩,⟨.list,(.v 16)⟩,⟨.bool,(.b true)⟩] [.list]<|
 .call 4 [⟨.bool,(.v 3)⟩,⟨.list,(.v 4)⟩,⟨(.int .i64),(.v 5)⟩,⟨.list,(.v 6)⟩,⟨.bool,(.b true)⟩] [.list]<|
 .call 5 [⟨.list,(.v 36)⟩,⟨.list,(.v 37)⟩] [.bool]<|
 .ite (.v 38) (
 .call 7 [⟨.bool,(.v 13)⟩,⟨.list,(.v 14)⟩,⟨(.int .i64),(.v 15)⟩,⟨.list,(.v 16)⟩] [.list]<|
 .call 7 [⟨.bool,(.v 3)⟩,⟨.list,(.v 4)⟩,⟨(.int .i64),(.v 5)⟩,⟨.list,(.v 6)⟩] [.list]<|
 .call 8 [⟨.list,(.v 39)⟩,⟨.list,(.v 40)⟩] [.bool]<|
 .ite (.v 41) (
 .call 9 [⟨.bool,(.v 13)⟩,⟨.list,(.v 14)⟩,⟨(.int .i64),(.v 15)⟩,⟨.list,(.v 16)⟩] [.bool]<|
 .ret [⟨.bool,(.v 42)⟩])<|
 .ret [⟨.bool,(.b false)⟩])<|
 .ret [⟨.bool,(.b false)⟩])<|
 .ret [⟨.bool,(.b false)⟩])<|
 .ret [⟨.bool,(.b false)⟩])<|
 .ret [⟨.bool,(.b false)⟩])<|
 .ret [⟨.bool,(.b false)⟩]
noncomputable def Φ_bd:Phi:=fun n=>match n with
 | 0=>kx
 | 1=>kA
 | 2=>hU
 | 3=>cW
 | 4=>dh
 | 5=>qP
 | 6=>jo
 | 7=>jq
 | 8=>iN
 | 9=>cu
 | _=>fun _=>none
noncomputable def φ_bd(cs:List C):Option (List C):=aj (den Φ_bd t_bd cs)
end Dx
namespace Dx
open Go
section
variable {code:List Int}
set_option maxHeartbeats 4000000 in
theorem law_DeskBegin(hl:code.length ≤ 1099511627776)(hc:fk code):φ_bd [.list (code.map eB)]=some [.bool true]:=by
 unfold φ_bd t_bd
 have e0:Φ_bd 0=kx:=rfl
 have e1:Φ_bd 1=kA:=rfl
 have e2:Φ_bd 2=hU:=rfl
 have e3:Φ_bd 3=cW:=rfl
 have e4:Φ_bd 4=dh:=rfl
 have e5:Φ_bd 5=qP:=rfl
 have e6:Φ_bd 6=jo:=rfl
 have e7:Φ_bd 7=jq:=rfl
 have e8:Φ_bd 8=iN:=rfl
 have e9:Φ_bd 9=cu:=rfl
 obtain⟨d,m,y,b,hd,hs,hm,hyS,p2,p1,hb⟩:=lu hl hc
 have hn:=kh hyS
 simp only[Desk.e,List.cons_append,List.nil_append]at p1 p2 hd
 refine sl rfl ?_
 by_cases hbig:(((code.map eB).length:Nat):Int)>1048576
 ·exact sl (congrArg C.bool (decide_eq_true hbig)) (st rfl (dR rfl))
 refine sl (congrArg C.bool (decide_eq_false hbig)) (sf rfl (sc e0 hd rfl rfl (sc e1 p2 rfl rfl ?_)))
 simp only[List.cons_append,List.nil_append]
 refine sc e2 p1 rfl rfl (sl (v:=.bool false) (congrArg C.bool (show (b != b)=false by cases b<;>rfl)) (sf rfl (sc e3 hn rfl rfl (sl (v:=.bool false) rfl (sf rfl ?_)))))
 simp only[List.cons_append,List.nil_append]
 cases b with
 | false=>exact sl (v:=.bool true) rfl (st rfl (sl (v:=.bool true) rfl (st rfl (sc e3 hn rfl rfl (dR rfl)))))
 | true =>
  obtain⟨ok,oy,hmo,h5,hy,hu,ht,hr⟩:=hb rfl
  obtain⟨k1,k2,k3⟩:=dt ok hr ⟨hu,ht⟩
  rw[← hy]at k1 k2 k3
  have k3:ah y.lg false=ah d.lg false++[⟨m,1⟩]:=by
   have e:ah y.lg false=af y false:=rfl
   rw[e,k3];unfold ch aV;simp;rfl
  have k2:ah y.lg true=ah d.lg true:=k2
  have kw:aN y=aN d:=by
   have e1:y.up=d.up:=by rw[k1]
   have e2:y.td=d.td:=by rw[k1]
   have e3:af y true=af d true:=k2
   unfold aN;rw[e1,e2,e3]
  have hdS:DkS ⟨d.up,⟨d.lg.rs,d.lg.f⟩,d.td⟩:=hs
  have hyS':DkS ⟨y.up,⟨y.lg.rs,y.lg.f⟩,y.td⟩:=hyS
  have hod:aU d=true:=deskOk_iff.2 ok
  have hoy:aU y=true:=deskOk_iff.2 oy
  have t1:=aW (b:=false) hdS
  have t2:=aW (b:=false) hyS'
  have t3:=aW (b:=true) hdS
  have t4:=aW (b:=true) hyS'
  have w1:=dQ hdS
  have w2:=dQ hyS'
  have o2:=bx hyS'
  simp only[eE,eG]at t1 t2 t3 t4 w1 w2 o2
  rw[if_pos hod]at t1 t3 w1
  rw[if_pos hoy]at t2 t4 w2
  rw[hoy]at o2
  rw[kw]at w2
  rw[k2]at t4
  have trF:TrOk (ah d.lg false):=ok.trOk false
  have trT:TrOk (ah d.lg true):=ok.trOk true
  have hdl:(aN d).length ≤ 18:=gH ok
  have nt1:=sJ (a:=ah d.lg false) (b:=ah d.lg false) (by have:=trF.len;omega) (fun t ht=>by have:=aT (tripOk_iff.1 (trF.ok t ht)).1;omega)
  have nt2:=sJ (a:=ah d.lg true) (b:=ah d.lg true) (by have:=trT.len;omega) (fun t ht=>by have:=aT (tripOk_iff.1 (trT.ok t ht)).1;omega)
  have ni:=tZ (a:=m) (b:=m) (by omega)
  have nw:=nS (td:=aN d) (td':=aN d) (by omega)
  simp only[decide_true]at nt1 nt2 ni nw
  have h5':(ah d.lg false).length ≤ 5:=h5
  have hL1:((((ah d.lg false).map Trip.e).length:Nat):Int)=((ah d.lg false).length:Nat):=by rw[List.length_map]
  have hL2:((((ah y.lg false).map Trip.e).length:Nat):Int)=(((ah d.lg false).length+1:Nat):Int):=by rw[List.length_map,k3];simp
  have hw:IntKind.wrap .i64 ((((ah d.lg false).length:Nat):Int)+1)=(((ah d.lg false).length+1:Nat):Int):=au (by omega)
  have heq:((((ah d.lg false).length+1:Nat):Int)==(((ah d.lg false).length+1:Nat):Int))=true:=by simp
  have hup:(decide ((0:Int) ≤ (((ah d.lg false).length:Nat):Int)) && decide ((((ah d.lg false).length:Nat):Int) ≤ (((ah y.lg false).map Trip.e).length:Nat)))=true:=by
   rw[List.length_map,k3];simp;omega
  have htk:((ah y.lg false).map Trip.e).take (((ah d.lg false).length:Nat):Int).toNat=(ah d.lg false).map Trip.e:=by rw[Int.toNat_natCast,← List.map_take,k3];simp
  have hr1:(ah y.lg false)[(ah d.lg false).length]?=some ⟨m,1⟩:=by rw[k3];simp
  refine sl (v:=.bool false) rfl (sf rfl (sc e4 t1 rfl rfl (sc e4 t2 rfl rfl ?_)))
  simp only[List.cons_append,List.nil_append]
  refine sl (congrArg (C.int .i64) hL1) (sl (congrArg (C.int .i64) hL2) (sl (congrArg (C.int .i64) hw) (sl (congrArg C.bool heq) (st rfl (sk hup (sl (congrArg C.list htk) ?_))))))
  simp only[List.cons_append,List.nil_append]
  refine sc e5 nt1 rfl rfl (st rfl (sr rfl rfl (fun f=>cX hr1) ?_))
  simp only[List.cons_append,List.nil_append,Trip.e]
  refine sc e6 ni rfl rfl (st rfl (sr rfl rfl (fun f=>cX hr1) ?_))
  simp only[List.cons_append,List.nil_append,Trip.e]
  refine sl (v:=.bool true) rfl (st rfl (sc e4 t4 rfl rfl (sc e4 t3 rfl rfl ?_)))
  simp only[List.cons_append,List.nil_append]
  refine sc e5 nt2 rfl rfl (st rfl (sc e7 w2 rfl rfl (sc e7 w1 rfl rfl ?_)))
  simp only[List.cons_append,List.nil_append]
  exact sc e8 nw rfl rfl (st rfl (sc e9 o2 rfl rfl (dR rfl)))
end
end Dx
namespace Dx
open Go Go.Proofs
def c_bd:Con:=⟨[.own false [.val] [.list] false],[⟨false,[.val],[.bool],false⟩]⟩
theorem has_bd:Has Tryz.prog 9 c_bd φ_bd:=fp (R:=[]) (tr:=false) (E:=[(28,0,ID),(29,1,IE),(30,2,Fx),(23,3,sM),(25,4,yq),(27,5,c_fi),(26,6,FB),(24,7,IC),(37,8,FC),(32,9,pX)]) (Φ:=Φ_bd) (t:=t_bd) ⟨zX,zY,ud,gp,i6,Ei,ug,zW,uh,eV,trivial⟩ Tryz.f9 hE (by kernel_rfl)
end Dx
namespace Go.Proofs.YtahfbeiobndhkaaGreat.fnDeskBegin
open Go.ChangeShapes Go.WideShapes Go.ChangeAt Go.RowKit Dx
set_option linter.unusedVariables false
set_option maxRecDepth 100000
theorem own:ownKnob Tryz.prog.godebug=none:=by kernel_rfl
theorem params:Tryz.f9.params=#[22]:=by kernel_rfl
theorem results:Tryz.f9.resultTypes=#[4]:=by kernel_rfl
theorem t22:Tryz.prog.underlying 22=some (.slice 5):=by kernel_rfl
theorem t5:Tryz.prog.underlying 5=some (.int .u8):=by kernel_rfl
theorem t4:Tryz.prog.underlying 4=some .bool:=by kernel_rfl
theorem c5:Tryz.prog.cellsOf 5=1:=by kernel_rfl
theorem func:Tryz.prog.funcs[9]?=some Tryz.f9:=by kernel_rfl
theorem contract(H:Type)(enc:TypeId×Value → H)(W:World)(base:Nat)(args:Array Value)(ds gs:List (DataW H))(before:List MemPlace)
  (hval:∀(j:Nat) t v,Tryz.f9.params[j]?=some t → args[j]?=some v → Value.okWide Tryz.prog W .any base t v)
  (hW:DataW.Whole enc Tryz.prog Tryz.f9.params.toList Rows.fnDeskBeginSpec.vars false W args.toList ds gs before) :
  Calls Tryz.prog 9 args W fun e W'=>∃ v,e=.returned v ∧ Rows.fnDeskBeginSpec.post enc Tryz.prog Tryz.f9 false true false false W args v W':=by
 have hW':=hW
 obtain⟨p,q,hA0,hV,rfl,hfz,hnd⟩:=hW
 have hA:DataW.TrodAll enc Tryz.prog W 0 (fun _=>true) true Tryz.f9.params.toList args.toList ds p:=hA0
 rw[params]at hA hval
 obtain⟨v0,vs0,d0,ds0,p0,q0,hargs,rfl,rfl,h0,r0⟩:=trodAll_cons hA
 obtain⟨rfl,rfl,rfl⟩:=trodAll_nil r0
 obtain rfl:args=#[v0]:=by cases args;simp_all
 obtain⟨rfl,rfl⟩:=trodVars_none hV
 obtain⟨code,hb,hrep,hd,hshut⟩:=bA t22 t5 c5 (hval 0 22 v0 rfl rfl) h0
 have hlaw:φ_bd [.list (code.map cB)]=some [.bool true]:=by
  by_cases h:code.length ≤ 1048576
  ·exact law_DeskBegin (by omega) hb
  ·unfold φ_bd t_bd
   exact mC (by rw[List.length_map];omega)
 refine(bU (vs:=[v0]) has_bd (by simp[dq]) ⟨[.list (code.map cB)],[],v0,[],[],[],rfl,rfl,rfl,cv hrep,rfl,rfl,rfl⟩ hlaw).mono ?_
 rintro e W' ⟨rfl,h1,h2,h3⟩
 refine⟨_,rfl,[d0],[],p0,[],p0,[],by simpa using hW',trodAll_cons_mk (shut_bool t4 _) trodAll_mk0,?_,rfl,de h1 h2 h3 _,fun h=>by cases h⟩
 rw[params]
 have:=trodAll_cons_mk (hshut W' h3) (trodAll_mk0 (enc:=enc) (P:=Tryz.prog) (w:=W') (base:=0) (spare:=fun b=>decide (b<W.heap.size)) (held:=true))
 rw[List.append_nil]at this
 exact this
set_option maxRecDepth 100000 in
theorem lifted(os:Os)(started:os.Started)(H:Type)(enc:TypeId×Value → H) :
  ReturnsInHanded {} Tryz.checked os 9 .any (Rows.fnDeskBeginSpec.pre6 enc Tryz.prog Tryz.f9 Rows.fnDeskBeginRow.domain false) (Rows.fnDeskBeginSpec.post enc Tryz.prog Tryz.f9 false true false false):=by
 refine returnsInHanded_of_change (C:=Tryz.checked) own started (by kernel_rfl) func
  (ChangeSpec.witness6 (enc:=enc) (C:=Tryz.checked) false ⟨#[],#[.slice none 0 0],[]⟩ 8 (by kernel_rfl) (by kernel_rfl) (by kernel_rfl) (by kernel_rfl)) ?_
 intro W base args ds gs before hval hW _ _
 exact contract H enc W base args ds gs before hval hW
theorem proved:Rows.FnDeskBeginSaid :=
 OpenClaim.holds_of_wide 9 Tryz.f9 rfl rfl rfl rfl rfl rfl rfl ⟨rfl,rfl,rfl,rfl,rfl⟩ rfl rfl rfl rfl rfl (by kernel_rfl) func (by kernel_rfl)
  (of_decide_eq_true (by kernel_rfl)) (by unfold Func.isWrapper;first|(rw[if_pos (by decide +kernel)];kernel_rfl)|(rw[if_neg (by decide +kernel)];exact⟨rfl,rfl⟩))
  (fun os started H enc _=>lifted os started H enc)
#print axioms proved
end Go.Proofs.YtahfbeiobndhkaaGreat.fnDeskBegin
