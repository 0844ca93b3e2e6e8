/- PROVED: Rows.FnWorldRoundsSaid: whatever the input, laws.FnWorldRounds returns true, and its arguments read as they did. No condition beyond the statement's own. -/
import Derived.Test.YtmjkolpalcpgfaaGreatZb
import Derived.Test.YtmjkolpalcpgfaaGreatHa
import Derived.Test.YtmjkolpalcpgfaaGreatJa
import Derived.Test.YtmjkolpalcpgfaaGreatRows
set_option linter.all false
namespace Dx
open Go Go.Proofs
def t_az:Tree :=
 .letp .len [⟨.list,(.v 0)⟩]<|
 .letp .gtI [⟨(.int .i64),(.v 2)⟩,⟨(.int .i64),(.n 1048576)⟩]<|
 .ite (.v 3) (
 .ret [⟨.bool,(.b true)⟩])<|
 .letp .len [⟨.list,(.v 1)⟩]<|
 .letp .gtI [⟨(.int .i64),(.v 4)⟩,⟨(.int .i64),(.n 1048576)⟩]<|
 .ite (.v 5) (
 .ret [⟨.bool,(.b true)⟩])<|
 .call 0 [⟨.list,(.v 0)⟩] [.bool,.list,(.int .i64),.list,.list,.list,(.int .i64)]<|
 .call 1 [⟨.bool,(.v 6)⟩,⟨.list,(.v 7)⟩,⟨(.int .i64),(.v 8)⟩,⟨.list,(.v 9)⟩,⟨.list,(.v 10)⟩,⟨.list,(.v 11)⟩,⟨(.int .i64),(.v 12)⟩] [.bool,.list,(.int .i64),.list,.list,.list]<|
 .call 2 [⟨.bool,(.v 6)⟩,⟨.list,(.v 7)⟩,⟨(.int .i64),(.v 8)⟩,⟨.list,(.v 9)⟩,⟨.list,(.v 10)⟩,⟨.list,(.v 11)⟩,⟨(.int .i64),(.v 12)⟩] [.bool,.list,(.int .i64),.list,.list,.list]<|
 .call 3 [⟨.bool,(.v 13)⟩,⟨.list,(.v 14)⟩,⟨(.int .i64),(.v 15)⟩,⟨.list,(.v 16)⟩,⟨.list,(.v 17)⟩,⟨.list,(.v 18)⟩,⟨.bool,(.v 19)⟩,⟨.list,(.v 20)⟩,⟨(.int .i64),(.v 21)⟩,⟨.list,(.v 22)⟩,⟨.list,(.v 23)⟩,⟨.list,(.v 24)⟩] [.bool]<|
 .letp .not [⟨.bool,(.v 25)⟩]<|
 .ite (.v 26) (
 .call 2 [⟨.bool,(.v 6)⟩,⟨.list,(.v 7)⟩,⟨(.int .i64),(.v 8)⟩,⟨.list,(.v 9)⟩,⟨.list,(.v 10)⟩,⟨.list,(.v 11)⟩,⟨(.int .i64),(.v 12)⟩] [.bool,.list,(.int .i64),.list,.list,.list]<|
 .call 3 [⟨.bool,(.v 13)⟩,⟨.list,(.v 14)⟩,⟨(.int .i64),(.v 15)⟩,⟨.list,(.v 16)⟩,⟨.list,(.v 17)⟩,⟨.list,(.v 18)⟩,⟨.bool,(.v 27)⟩,⟨.list,(.v 28)⟩,⟨(.int .i64),(.v 29)⟩,⟨.list,(.v 30)⟩,⟨.list,(.v 31)⟩,⟨.list,(.v 32)⟩] [.bool]<|
 .ret [⟨.bool,(.v 33)⟩])<|
 .call 4 [⟨.bool,(.v 6)⟩,⟨.list,(.v 7)⟩,⟨(.int .i64),(.v 8)⟩,⟨.list,(.v 9)⟩,⟨.list,(.v 10)⟩,⟨.list,(.v 11)⟩] [.bool]<|
 .letp .not [⟨.bool,(.v 27)⟩]<|
 .ite (.v 28) (
 .call 2 [⟨.bool,(.v 6)⟩,⟨.list,(.v 7)⟩,⟨(.int .i64),(.v 8)⟩,⟨.list,(.v 9)⟩,⟨.list,(.v 10)⟩,⟨.list,(.v 11)⟩,⟨(.int .i64),(.v 12)⟩] [.bool,.list,(.int .i64),.list,.list,.list]<|
 .call 3 [⟨.bool,(.v 13)⟩,⟨.list,(.v 14)⟩,⟨(.int .i64),(.v 15)⟩,⟨.list,(.v 16)⟩,⟨.list,(.v 17)⟩,⟨.list,(.v 18)⟩,⟨.bool,(.v 29)⟩,⟨.list,(.v 30)⟩,⟨(.int .i64),(.v 31)⟩,⟨.list,(.v 32)⟩,⟨.list,(.v 33)⟩,⟨.list,(.v 34)⟩] [.bool]<|
 .ret [⟨.bool,(.v 35)⟩])<|
 .letp .ltI [⟨(.int .i64),(.v 12)⟩,⟨(.int .i64),(.n 0)⟩]<|
 .ite (.v 29) (
 .call 2 [⟨.bool,(.v 6)⟩,⟨.list,(.v 7)⟩,⟨(.int .i64),(.v 8)⟩,⟨.list,(.v 9)⟩,⟨.list,(.v 10)⟩,⟨.list,(.v 11)⟩,⟨(.int .i64),(.v 12)⟩] [.bool,.list,(.int .i64),.list,.list,.list]<|
 .call 3 [⟨.bool,(.v 13)⟩,⟨.list,(.v 14)⟩,⟨(.int .i64),(.v 15)⟩,⟨.list,(.v 16)⟩,⟨.list,(.v 17)⟩,⟨.list,(.v 18)⟩,⟨.bool,(.v 30)⟩,⟨.list,(.v 31)⟩,⟨(.int .i64),(.v 32)⟩,⟨.list,(.v 33)⟩,⟨.list,(.v 34)⟩,⟨.list,(.v 35)⟩] [.bool]<|
 .ret [⟨.bool,(.v 36)⟩])<|
 .letp .gtI [⟨(.int .i64),(.v 12)⟩,⟨(.int .i64),(.n 9)⟩]<|
 .ite (.v 30) (
 .call 2 [⟨.bool,(.v 6)⟩,⟨.list,(.v 7)⟩,⟨(.int .i64),(.v 8)⟩,⟨.list,(.v 9)⟩,⟨.list,(.v 10)⟩,⟨.list,(.v 11)⟩,⟨(.int .i64),(.v 12)⟩] [.bool,.list,(.int .i64),.list,.list,.list]<|
 .call 3 [⟨.bool,(.v 13)⟩,⟨.list,(.v 14)⟩,⟨(.int .i64),(.v 15)⟩,⟨.list,(.v 16)⟩,⟨.list,(.v 17)⟩,⟨.list,(.v 18)⟩,⟨.bool,(.v 31)⟩,⟨.list,(.v 32)⟩,⟨(.int .i64),(.v 33)⟩,⟨.list,(.v 34)⟩,⟨.list,(.v 35)⟩,⟨.list,(.v 36)⟩] [.bool]<|
 .ret [⟨.bool,(.v 37)⟩])<|
 .letp .len [⟨.list,(.v 1)⟩]<|
 .letp (.add .i64) [⟨(.int .i64),(.v 12)⟩,⟨(.int .i64),(.n 1)⟩]<|
 .chk .nz [⟨(.int .i64),(.v 32)⟩]<|
 .letp (.rem .i64) [⟨(.int .i64),(.v 31)⟩,⟨(.int .i64),(.v 32)⟩]<|
 .letp (.sub .i64) [⟨(.int .i64),(.v 12)⟩,⟨(.int .i64),(.v 33)⟩]<|
 .call 1 [⟨.bool,(.v 6)⟩,⟨.list,(.v 7)⟩,⟨(.int .i64),(.v 8)⟩,⟨.list,(.v 9)⟩,⟨.list,(.v 10)⟩,⟨.list,(.v 11)⟩,⟨(.int .i64),(.v 33)⟩] [.bool,.list,(.int .i64),.list,.list,.list]<|
 .call 1 [⟨.bool,(.v 35)⟩,⟨.list,(.v 36)⟩,⟨(.int .i64),(.v 37)⟩,⟨.list,(.v 38)⟩,⟨.list,(.v 39)⟩,⟨.list,(.v 40)⟩,⟨(.int .i64),(.v 34)⟩] [.bool,.list,(.int .i64),.list,.list,.list]<|
 .call 3 [⟨.bool,(.v 13)⟩,⟨.list,(.v 14)⟩,⟨(.int .i64),(.v 15)⟩,⟨.list,(.v 16)⟩,⟨.list,(.v 17)⟩,⟨.list,(.v 18)⟩,⟨.bool,(.v 41)⟩,⟨.list,(.v 42)⟩,⟨(.int .i64),(.v 43)⟩,⟨.list,(.v 44)⟩,⟨.list,(.v 45)⟩,⟨.list,(.v 46)⟩] [.bool]<|
 .ite (.v 47) (
 .call 5 [⟨.bool,(.v 13)⟩,⟨.list,(.v 14)⟩,⟨(.int .i64),(.v 15)⟩,⟨.list,(.v 16)⟩,⟨.list,(.v 17)⟩,⟨.list,(.v 18)⟩] [.bool]<|
 .ret [⟨.bool,(.v 48)⟩])<|
 .ret [⟨.bool,(.b false)⟩]
noncomputable def Φ_az:Phi:=fun n=>match n with
 | 0=>xg
 | 1=>db
 | 2=>ru
 | 3=>cY
 | 4=>iG
 | 5=>jh
 | _=>fun _=>none
noncomputable def φ_az(cs:List C):Option (List C):=ah (den Φ_az t_az cs)
end Dx
namespace Dx
open Go
section
variable {code more:List Int}
set_option maxHeartbeats 2000000 in
theorem law_WorldRounds(hl:code.length ≤ 1099511627776)(hc:fQ code):φ_az [.list (code.map eB),.list (more.map eB)]=some [.bool true]:=by
 unfold φ_az t_az
 refine qo rfl rfl rfl rfl rfl hl hc fun w r x hm ow hxs hx p2=>?_
 have e1:Φ_az 1=db:=rfl
 have e2:Φ_az 2=ru:=rfl
 have e3:Φ_az 3=cY:=rfl
 have e5:Φ_az 5=jh:=rfl
 have hself:=uJ hxs
 simp only[Wd.e,List.cons_append,List.nil_append]at hself p2
 unfold wa
 by_cases h0:r<0
 ·exact sl (congrArg C.bool (decide_eq_true h0)) (st rfl (sc e2 p2 rfl rfl (sc e3 hself rfl rfl (tC rfl))))
 refine sl (congrArg C.bool (decide_eq_false h0)) (sf rfl ?_)
 by_cases h9:r>9
 ·exact sl (congrArg C.bool (decide_eq_true h9)) (st rfl (sc e2 p2 rfl rfl (sc e3 hself rfl rfl (tC rfl))))
 refine sl (congrArg C.bool (decide_eq_false h9)) (sf rfl ?_)
 have hin:in_ r 0 9=true:=in_iff.2 (by omega)
 rw[if_pos hin]at hx
 obtain⟨n,rfl⟩:∃ n:Nat,r=n:=⟨r.toNat,by omega⟩
 rw[Int.toNat_natCast]at hx
 have hw1:IntKind.wrap .i64 ((n:Int)+1)=((n+1:Nat):Int):=al (by omega)
 have hl1:(((more.map eB).length:Nat):Int)=more.length:=by rw[List.length_map]
 have hmod:Int.tmod ((more.length:Nat):Int) ((n+1:Nat):Int)=((more.length % (n+1):Nat):Int):=rfl
 have hlt:more.length % (n+1)<n+1:=Nat.mod_lt _ (by omega)
 generalize more.length % (n+1)=k at hmod hlt
 have hw2:IntKind.wrap .i64 ((n:Int)-(k:Int))=((n-k:Nat):Int):=by rw[wrap64 (by omega) (by omega)];omega
 have c1:=bA ow (r:=(k:Int)) (by omega)
 have o1:=ow.calm k
 rw[Int.toNat_natCast]at c1
 have c2:=bA o1 (r:=((n-k:Nat):Int)) (by omega)
 rw[Int.toNat_natCast,← jr,show k+(n-k)=n by omega,← hx]at c2
 have ox:WOk x:=by rw[hx];exact ow.calm n
 simp only[Wd.e]at c1 c2
 have hnz:(((n+1:Nat):Int) != 0)=true:=by simp;omega
 refine sl (congrArg (C.int .i64) hl1) (sl (congrArg (C.int .i64) hw1) (sk hnz (sl (congrArg (C.int .i64) hmod) (sl (congrArg (C.int .i64) hw2) (sc e1 c1 rfl rfl (sc e1 c2 rfl rfl (sc e3 hself rfl rfl (st rfl (sc e5 (jt ox) rfl rfl (tC rfl))))))))))
end
end Dx
namespace Dx
open Go Go.Proofs
def c_az:Con:=⟨[.own false [.val] [.list] false,.own false [.val] [.list] false],[⟨false,[.val],[.bool],false⟩]⟩
theorem has_az:Has Tryz.prog 3 c_az φ_az:=fp (R:=[]) (tr:=false) (E:=[(15,0,c_ay),(16,1,tD),(18,2,c_cu),(17,3,qy),(19,4,EH),(20,5,F4)]) (Φ:=Φ_az) (t:=t_az) ⟨Kh,gH,K0,fF,qx,uP,trivial⟩ Tryz.f3 hE (by kernel_rfl)
end Dx
namespace Go.Proofs.YtmjkolpalcpgfaaGreat.fnWorldRounds
open Go.ChangeShapes Go.WideShapes Go.ChangeAt Go.RowKit Dx
set_option linter.unusedVariables false
set_option maxRecDepth 100000
theorem own:ownKnob Tryz.prog.godebug=none:=by kernel_rfl
theorem params:Tryz.f3.params=#[22,22]:=by kernel_rfl
theorem results:Tryz.f3.resultTypes=#[4]:=by kernel_rfl
theorem t22:Tryz.prog.underlying 22=some (.slice 5):=by kernel_rfl
theorem t5:Tryz.prog.underlying 5=some (.int .u8):=by kernel_rfl
theorem t4:Tryz.prog.underlying 4=some .bool:=by kernel_rfl
theorem c5:Tryz.prog.cellsOf 5=1:=by kernel_rfl
theorem func:Tryz.prog.funcs[3]?=some Tryz.f3:=by kernel_rfl
theorem contract(H:Type)(enc:TypeId×Value → H)(W:World)(base:Nat)(args:Array Value)(ds gs:List (DataW H))(before:List MemPlace)
  (hval:∀(j:Nat) t v,Tryz.f3.params[j]?=some t → args[j]?=some v → Value.okWide Tryz.prog W .any base t v)
  (hW:DataW.Whole enc Tryz.prog Tryz.f3.params.toList Rows.fnWorldRoundsSpec.vars false W args.toList ds gs before) :
  Calls Tryz.prog 3 args W fun e W'=>∃ v,e=.returned v ∧ Rows.fnWorldRoundsSpec.post enc Tryz.prog Tryz.f3 false true false false W args v W':=by
 have hW':=hW
 obtain⟨p,q,hA0,hV,rfl,hfz,hnd⟩:=hW
 have hA:DataW.TrodAll enc Tryz.prog W 0 (fun _=>true) true Tryz.f3.params.toList args.toList ds p:=hA0
 rw[params]at hA hval
 obtain⟨v0,vs0,d0,ds0,p0,q0,hargs,rfl,rfl,h0,r0⟩:=trodAll_cons hA
 obtain⟨v1,vs1,d1,ds1,p1,q1,rfl,rfl,rfl,h1,r1⟩:=trodAll_cons r0
 obtain⟨rfl,rfl,rfl⟩:=trodAll_nil r1
 obtain rfl:args=#[v0,v1]:=by cases args;simp_all
 obtain⟨rfl,rfl⟩:=trodVars_none hV
 obtain⟨code,hb,hrep,hd,hshut⟩:=bx t22 t5 c5 (hval 0 22 v0 rfl rfl) h0
 obtain⟨more,hb1,hrep1,hd1,hshut1⟩:=bx t22 t5 c5 (hval 1 22 v1 rfl rfl) h1
 have hlaw:φ_az [.list (code.map cB),.list (more.map cB)]=some [.bool true]:=by
  by_cases h:code.length ≤ 1048576
  ·exact law_WorldRounds (by omega) hb
  ·unfold φ_az t_az
   exact vg (by rw[List.length_map];omega)
 refine(cz (vs:=[v0,v1]) has_az (by simp[dZ]) ⟨[.list (code.map cB)],[.list (more.map cB)],v0,[v1],[],[],rfl,rfl,rfl,ct hrep,[.list (more.map cB)],[],v1,[],[],[],rfl,rfl,rfl,ct hrep1,rfl,rfl,rfl⟩ hlaw).mono ?_
 rintro e W' ⟨rfl,g1,g2,g3⟩
 refine⟨_,rfl,[d0,d1],[],p0++p1,[],p0++p1,[],by simpa using hW',trodAll_cons_mk (shut_bool t4 _) trodAll_mk0,?_,rfl,dQ g1 g2 g3 _,fun h=>by cases h⟩
 rw[params]
 have:=trodAll_cons_mk (hshut W' g3) (trodAll_cons_mk (hshut1 W' g3) (trodAll_mk0 (enc:=enc) (P:=Tryz.prog) (w:=W') (base:=0) (spare:=fun b=>decide (b<W.heap.size)) (held:=true)))
 rw[List.append_nil]at this
 exact this
set_option maxRecDepth 100000 in
theorem lifted(os:Os)(started:os.Started)(H:Type)(enc:TypeId×Value → H) :
  ReturnsInHanded {} Tryz.checked os 3 .any (Rows.fnWorldRoundsSpec.pre6 enc Tryz.prog Tryz.f3 Rows.fnWorldRoundsRow.domain false) (Rows.fnWorldRoundsSpec.post enc Tryz.prog Tryz.f3 false true false false):=by
 refine returnsInHanded_of_change (C:=Tryz.checked) own started (by kernel_rfl) func
  (ChangeSpec.witness6 (enc:=enc) (C:=Tryz.checked) false ⟨#[],#[.slice none 0 0,.slice none 0 0],[]⟩ 8 (by kernel_rfl) (by kernel_rfl) (by kernel_rfl) (by kernel_rfl)) ?_
 intro W base args ds gs before hval hW _ _
 exact contract H enc W base args ds gs before hval hW
theorem proved:Rows.FnWorldRoundsSaid :=
 OpenClaim.holds_of_wide 3 Tryz.f3 rfl rfl rfl rfl rfl rfl rfl ⟨rfl,rfl,rfl,rfl,rfl⟩ rfl rfl rfl rfl rfl (by kernel_rfl) func (by kernel_rfl)
  (of_decide_eq_true (by kernel_rfl)) (by unfold Func.isWrapper;first|(rw[if_pos (by decide +kernel)];kernel_rfl)|(rw[if_neg (by decide +kernel)];exact⟨rfl,rfl⟩))
  (fun os started H enc _=>lifted os started H enc)
#print axioms proved
end Go.Proofs.YtmjkolpalcpgfaaGreat.fnWorldRounds
