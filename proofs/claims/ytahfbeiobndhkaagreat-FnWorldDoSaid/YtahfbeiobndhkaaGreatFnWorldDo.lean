/- PROVED: Rows.FnWorldDoSaid: whatever the input, laws.FnWorldDo returns true, and its arguments read as they did. No condition beyond the statement's own. -/
import Derived.Test.YtahfbeiobndhkaaGreatZb
import Derived.Test.YtahfbeiobndhkaaGreatHa
import Derived.Test.YtahfbeiobndhkaaGreatJa
import Derived.Test.YtahfbeiobndhkaaGreatRows
set_option linter.all false
namespace Dx
open Go Go.Proofs
def t_cg:Tree :=
 .letp .len [⟨.list,(.v 0)⟩]<|
 .letp .gtI [⟨(.int .i64),(.v 1)⟩,⟨(.int .i64),(.n 1048576)⟩]<|
 .ite (.v 2) (
 .ret [⟨.bool,(.b true)⟩])<|
 .call 0 [⟨.list,(.v 0)⟩] [.bool,.list,(.int .i64),.list,.list,.list,(.int .i64),(.int .i64),(.int .i64),.list]<|
 .call 1 [⟨.bool,(.v 3)⟩,⟨.list,(.v 4)⟩,⟨(.int .i64),(.v 5)⟩,⟨.list,(.v 6)⟩,⟨.list,(.v 7)⟩,⟨.list,(.v 8)⟩,⟨(.int .i64),(.v 9)⟩,⟨(.int .i64),(.v 10)⟩,⟨(.int .i64),(.v 11)⟩,⟨.list,(.v 12)⟩] [.bool,.list,(.int .i64),.list,.list,.list]<|
 .call 2 [⟨.bool,(.v 3)⟩,⟨.list,(.v 4)⟩,⟨(.int .i64),(.v 5)⟩,⟨.list,(.v 6)⟩,⟨.list,(.v 7)⟩,⟨.list,(.v 8)⟩,⟨(.int .i64),(.v 9)⟩,⟨(.int .i64),(.v 10)⟩,⟨(.int .i64),(.v 11)⟩,⟨.list,(.v 12)⟩] [.bool,.list,(.int .i64),.list,.list,.list]<|
 .call 3 [⟨.bool,(.v 13)⟩,⟨.list,(.v 14)⟩,⟨(.int .i64),(.v 15)⟩,⟨.list,(.v 16)⟩,⟨.list,(.v 17)⟩,⟨.list,(.v 18)⟩,⟨.bool,(.v 19)⟩,⟨.list,(.v 20)⟩,⟨(.int .i64),(.v 21)⟩,⟨.list,(.v 22)⟩,⟨.list,(.v 23)⟩,⟨.list,(.v 24)⟩] [.bool]<|
 .letp .not [⟨.bool,(.v 25)⟩]<|
 .ite (.v 26) (
 .call 2 [⟨.bool,(.v 3)⟩,⟨.list,(.v 4)⟩,⟨(.int .i64),(.v 5)⟩,⟨.list,(.v 6)⟩,⟨.list,(.v 7)⟩,⟨.list,(.v 8)⟩,⟨(.int .i64),(.v 9)⟩,⟨(.int .i64),(.v 10)⟩,⟨(.int .i64),(.v 11)⟩,⟨.list,(.v 12)⟩] [.bool,.list,(.int .i64),.list,.list,.list]<|
 .call 3 [⟨.bool,(.v 13)⟩,⟨.list,(.v 14)⟩,⟨(.int .i64),(.v 15)⟩,⟨.list,(.v 16)⟩,⟨.list,(.v 17)⟩,⟨.list,(.v 18)⟩,⟨.bool,(.v 27)⟩,⟨.list,(.v 28)⟩,⟨(.int .i64),(.v 29)⟩,⟨.list,(.v 30)⟩,⟨.list,(.v 31)⟩,⟨.list,(.v 32)⟩] [.bool]<|
 .ret [⟨.bool,(.v 33)⟩])<|
 .call 4 [⟨.bool,(.v 3)⟩,⟨.list,(.v 4)⟩,⟨(.int .i64),(.v 5)⟩,⟨.list,(.v 6)⟩,⟨.list,(.v 7)⟩,⟨.list,(.v 8)⟩] [.bool]<|
 .letp .not [⟨.bool,(.v 27)⟩]<|
 .ite (.v 28) (
 .call 2 [⟨.bool,(.v 3)⟩,⟨.list,(.v 4)⟩,⟨(.int .i64),(.v 5)⟩,⟨.list,(.v 6)⟩,⟨.list,(.v 7)⟩,⟨.list,(.v 8)⟩,⟨(.int .i64),(.v 9)⟩,⟨(.int .i64),(.v 10)⟩,⟨(.int .i64),(.v 11)⟩,⟨.list,(.v 12)⟩] [.bool,.list,(.int .i64),.list,.list,.list]<|
 .call 3 [⟨.bool,(.v 13)⟩,⟨.list,(.v 14)⟩,⟨(.int .i64),(.v 15)⟩,⟨.list,(.v 16)⟩,⟨.list,(.v 17)⟩,⟨.list,(.v 18)⟩,⟨.bool,(.v 29)⟩,⟨.list,(.v 30)⟩,⟨(.int .i64),(.v 31)⟩,⟨.list,(.v 32)⟩,⟨.list,(.v 33)⟩,⟨.list,(.v 34)⟩] [.bool]<|
 .ret [⟨.bool,(.v 35)⟩])<|
 .letp .ltI [⟨(.int .i64),(.v 15)⟩,⟨(.int .i64),(.v 5)⟩]<|
 .ite (.v 29) (
 .ret [⟨.bool,(.b false)⟩])<|
 .chk .upto [⟨(.int .i64),(.v 5)⟩,⟨.list,(.v 14)⟩]<|
 .letp .take [⟨.list,(.v 14)⟩,⟨(.int .i64),(.v 5)⟩]<|
 .chk .upto [⟨(.int .i64),(.v 5)⟩,⟨.list,(.v 4)⟩]<|
 .letp .take [⟨.list,(.v 4)⟩,⟨(.int .i64),(.v 5)⟩]<|
 .call 5 [⟨.list,(.v 30)⟩,⟨.list,(.v 31)⟩] [.bool]<|
 .letp .not [⟨.bool,(.v 32)⟩]<|
 .ite (.v 33) (
 .ret [⟨.bool,(.b false)⟩])<|
 .iter [⟨(.int .i64),(.n 0)⟩]<|
 .letp .len [⟨.list,(.v 7)⟩]<|
 .letp .ltI [⟨(.int .i64),(.v 34)⟩,⟨(.int .i64),(.v 35)⟩]<|
 .ite (.v 36) (
 .row (.v 7) (.v 34) [(.int .i64),.bool,(.int .i64),.list,(.int .i64)]<|
 .row (.v 17) (.v 34) [(.int .i64),.bool,(.int .i64),.list,(.int .i64)]<|
 .letp .ltI [⟨(.int .i64),(.v 46)⟩,⟨(.int .i64),(.v 41)⟩]<|
 .ite (.v 47) (
 .up<|
 .ret [⟨.bool,(.b false)⟩])<|
 .row (.v 17) (.v 34) [(.int .i64),.bool,(.int .i64),.list,(.int .i64)]<|
 .chk .upto [⟨(.int .i64),(.v 41)⟩,⟨.list,(.v 51)⟩]<|
 .letp .take [⟨.list,(.v 51)⟩,⟨(.int .i64),(.v 41)⟩]<|
 .row (.v 7) (.v 34) [(.int .i64),.bool,(.int .i64),.list,(.int .i64)]<|
 .chk .upto [⟨(.int .i64),(.v 41)⟩,⟨.list,(.v 57)⟩]<|
 .letp .take [⟨.list,(.v 57)⟩,⟨(.int .i64),(.v 41)⟩]<|
 .call 5 [⟨.list,(.v 53)⟩,⟨.list,(.v 59)⟩] [.bool]<|
 .letp .not [⟨.bool,(.v 60)⟩]<|
 .ite (.v 61) (
 .up<|
 .ret [⟨.bool,(.b false)⟩])<|
 .letp (.add .i64) [⟨(.int .i64),(.v 34)⟩,⟨(.int .i64),(.n 1)⟩]<|
 .jump [⟨(.int .i64),(.v 62)⟩])<|
 .up<|
 .call 6 [⟨.bool,(.v 13)⟩,⟨.list,(.v 14)⟩,⟨(.int .i64),(.v 15)⟩,⟨.list,(.v 16)⟩,⟨.list,(.v 17)⟩,⟨.list,(.v 18)⟩] [.bool]<|
 .ret [⟨.bool,(.v 37)⟩]
noncomputable def Φ_cg:Phi:=fun n=>match n with
 | 0=>kv
 | 1=>ia
 | 2=>iM
 | 3=>fW
 | 4=>iL
 | 5=>jp
 | 6=>m7
 | _=>fun _=>none
noncomputable def φ_cg(cs:List C):Option (List C):=aj (den Φ_cg t_cg cs)
end Dx
namespace Dx
open Go
section
variable {code more:List Int}
theorem recs_kp{a b:Log}(h:Kp a b)(ha:LgOk a)(hb:LgOk b):jp [.list ((b.rs.map Rec.e).take a.f.toNat),.list ((a.rs.map Rec.e).take a.f.toNat)]=some [.bool true]:=by
 rw[← List.map_take,← List.map_take,h.t]
 have:=zD (rs:=a.rs.take a.f.toNat) (rs':=a.rs.take a.f.toNat) (by rw[List.length_take];have:=ha.len;omega) (fun r hr=>ha.S.2 r (List.mem_of_mem_take hr))
 simpa only[decide_true] using this
set_option maxHeartbeats 2000000 in
theorem law_WorldDo(hl:code.length ≤ 1099511627776)(hc:fk code):φ_cg [.list (code.map eB)]=some [.bool true]:=by
 unfold φ_cg t_cg
 refine nU rfl rfl rfl rfl rfl hl hc fun w e x ow he hx=>?_
 have e5:Φ_cg 5=jp:=rfl
 have e6:Φ_cg 6=m7:=rfl
 have ox:WOk x:=by rw[hx];exact ow.do_ e
 have kp:KpW w x:=by rw[hx];exact Ja ow e
 have h3:=ow.len
 have k0:=kp.dk
 have kr:=recs_kp k0 ow.dk.lg ox.dk.lg
 have wl:=ow.dk.lg
 have xl:=ox.dk.lg
 have f1:=wl.lo
 have f2:=wl.hi
 have f3:=xl.hi
 have f4:=k0.f
 have g1:¬ (x.dk.lg.f<w.dk.lg.f):=by omega
 have g2:(decide ((0:Int) ≤ w.dk.lg.f) && decide (w.dk.lg.f ≤ ((x.dk.lg.rs.map Rec.e).length:Nat)))=true:=by simp;omega
 have g3:(decide ((0:Int) ≤ w.dk.lg.f) && decide (w.dk.lg.f ≤ ((w.dk.lg.rs.map Rec.e).length:Nat)))=true:=by simp;omega
 unfold EJ
 refine sl (congrArg C.bool (decide_eq_false g1)) (sf rfl (sk g2 (sl rfl (sk g3 (sl rfl (sc e5 kr rfl rfl (sl rfl (sf rfl ?_))))))))
 simp only[List.cons_append,List.nil_append]
 rw[gk]
 simp only[aK,Cell.den,At.den,C.toInt_int]
 rw[sH (l:=w.hs) (o:=.ret [.bool true])]
 ·rfl
 ·intro i y hy
  have hi:=(List.getElem?_eq_some_iff.1 hy).1
  have hi':(i:Int)<(w.hs.length:Nat):=by omega
  obtain⟨z,hz,kz⟩:=kp.hs i y hy
  have yl:=(ow.hs i y hy).1.lg
  have zl:=(ox.hs i z hz).1.lg
  have y1:=yl.lo
  have y2:=yl.hi
  have y4:=zl.hi
  have y3:=kz.f
  have kr:=recs_kp kz yl zl
  have g1:¬ (z.lg.f<y.lg.f):=by omega
  have g2:y.lg.f ≤ ((z.lg.rs.length:Nat):Int):=by omega
  simp (disch:=first|assumption|omega|(simp only[zL];omega)) only[Dq,t0,fT,kg,fw,gR,fx,d9,ec,fS,d8,aK,Cell.den,At.den,Prim.den,List.cons_append,List.nil_append,gK,c8,CK.of,An,Dp,Bool.decide_eq_true,hi',if_true,fO hz,fO hy,House.e,g1,g2,y1,y2,decide_true,Bool.and_self,e5,kr,if_false,au,Int.reduceEq,reduceIte,zU,zT,aa]
  try rfl
 ·have h:¬ ((w.hs.length:Int)<(w.hs.length:Nat)):=by omega
  simp (disch:=first|assumption|omega|(simp only[zL];omega)) only[Dq,t0,fT,kg,fw,gR,fx,d9,ec,fS,d8,aK,Cell.den,At.den,Prim.den,List.cons_append,List.nil_append,gK,c8,CK.of,An,Dp,Bool.decide_eq_true,h,if_false,e6,rD ox,Int.reduceEq,reduceIte,zU,zT,aa]
  try rfl
end
end Dx
namespace Dx
open Go Go.Proofs
def c_cg:Con:=⟨[.own false [.val] [.list] false],[⟨false,[.val],[.bool],false⟩]⟩
def h_cg:How:=⟨aB [(0,⟨[kI],[(2,(.bool (.b false))),(7,(sI 0))],[],[],0⟩)],
 aB [],
 aB []⟩
theorem has_cg:Has Tryz.prog 3 c_cg φ_cg:=fp (R:=[]) (tr:=false) (E:=[(15,0,Fu),(16,1,Fy),(18,2,Fz),(17,3,FD),(19,4,Ee),(20,5,IB),(21,6,c_ec)]) (Φ:=Φ_cg) (t:=t_cg) ⟨t9,ue,uf,ui,pZ,zV,D0,trivial⟩ Tryz.f3 h_cg (by kernel_rfl)
end Dx
namespace Go.Proofs.YtahfbeiobndhkaaGreat.fnWorldDo
open Go.ChangeShapes Go.WideShapes Go.ChangeAt Go.RowKit Dx
set_option linter.unusedVariables false
set_option maxRecDepth 100000
theorem own:ownKnob Tryz.prog.godebug=none:=by kernel_rfl
theorem params:Tryz.f3.params=#[22]:=by kernel_rfl
theorem results:Tryz.f3.resultTypes=#[4]:=by kernel_rfl
theorem t22:Tryz.prog.underlying 22=some (.slice 5):=by kernel_rfl
theorem t5:Tryz.prog.underlying 5=some (.int .u8):=by kernel_rfl
theorem t4:Tryz.prog.underlying 4=some .bool:=by kernel_rfl
theorem c5:Tryz.prog.cellsOf 5=1:=by kernel_rfl
theorem func:Tryz.prog.funcs[3]?=some Tryz.f3:=by kernel_rfl
theorem contract(H:Type)(enc:TypeId×Value → H)(W:World)(base:Nat)(args:Array Value)(ds gs:List (DataW H))(before:List MemPlace)
  (hval:∀(j:Nat) t v,Tryz.f3.params[j]?=some t → args[j]?=some v → Value.okWide Tryz.prog W .any base t v)
  (hW:DataW.Whole enc Tryz.prog Tryz.f3.params.toList Rows.fnWorldDoSpec.vars false W args.toList ds gs before) :
  Calls Tryz.prog 3 args W fun e W'=>∃ v,e=.returned v ∧ Rows.fnWorldDoSpec.post enc Tryz.prog Tryz.f3 false true false false W args v W':=by
 have hW':=hW
 obtain⟨p,q,hA0,hV,rfl,hfz,hnd⟩:=hW
 have hA:DataW.TrodAll enc Tryz.prog W 0 (fun _=>true) true Tryz.f3.params.toList args.toList ds p:=hA0
 rw[params]at hA hval
 obtain⟨v0,vs0,d0,ds0,p0,q0,hargs,rfl,rfl,h0,r0⟩:=trodAll_cons hA
 obtain⟨rfl,rfl,rfl⟩:=trodAll_nil r0
 obtain rfl:args=#[v0]:=by cases args;simp_all
 obtain⟨rfl,rfl⟩:=trodVars_none hV
 obtain⟨code,hb,hrep,hd,hshut⟩:=bA t22 t5 c5 (hval 0 22 v0 rfl rfl) h0
 have hlaw:φ_cg [.list (code.map cB)]=some [.bool true]:=by
  by_cases h:code.length ≤ 1048576
  ·exact law_WorldDo (by omega) hb
  ·unfold φ_cg t_cg
   exact mC (by rw[List.length_map];omega)
 refine(bU (vs:=[v0]) has_cg (by simp[dq]) ⟨[.list (code.map cB)],[],v0,[],[],[],rfl,rfl,rfl,cv hrep,rfl,rfl,rfl⟩ hlaw).mono ?_
 rintro e W' ⟨rfl,h1,h2,h3⟩
 refine⟨_,rfl,[d0],[],p0,[],p0,[],by simpa using hW',trodAll_cons_mk (shut_bool t4 _) trodAll_mk0,?_,rfl,de h1 h2 h3 _,fun h=>by cases h⟩
 rw[params]
 have:=trodAll_cons_mk (hshut W' h3) (trodAll_mk0 (enc:=enc) (P:=Tryz.prog) (w:=W') (base:=0) (spare:=fun b=>decide (b<W.heap.size)) (held:=true))
 rw[List.append_nil]at this
 exact this
set_option maxRecDepth 100000 in
theorem lifted(os:Os)(started:os.Started)(H:Type)(enc:TypeId×Value → H) :
  ReturnsInHanded {} Tryz.checked os 3 .any (Rows.fnWorldDoSpec.pre6 enc Tryz.prog Tryz.f3 Rows.fnWorldDoRow.domain false) (Rows.fnWorldDoSpec.post enc Tryz.prog Tryz.f3 false true false false):=by
 refine returnsInHanded_of_change (C:=Tryz.checked) own started (by kernel_rfl) func
  (ChangeSpec.witness6 (enc:=enc) (C:=Tryz.checked) false ⟨#[],#[.slice none 0 0],[]⟩ 8 (by kernel_rfl) (by kernel_rfl) (by kernel_rfl) (by kernel_rfl)) ?_
 intro W base args ds gs before hval hW _ _
 exact contract H enc W base args ds gs before hval hW
theorem proved:Rows.FnWorldDoSaid :=
 OpenClaim.holds_of_wide 3 Tryz.f3 rfl rfl rfl rfl rfl rfl rfl ⟨rfl,rfl,rfl,rfl,rfl⟩ rfl rfl rfl rfl rfl (by kernel_rfl) func (by kernel_rfl)
  (of_decide_eq_true (by kernel_rfl)) (by unfold Func.isWrapper;first|(rw[if_pos (by decide +kernel)];kernel_rfl)|(rw[if_neg (by decide +kernel)];exact⟨rfl,rfl⟩))
  (fun os started H enc _=>lifted os started H enc)
#print axioms proved
end Go.Proofs.YtahfbeiobndhkaaGreat.fnWorldDo
