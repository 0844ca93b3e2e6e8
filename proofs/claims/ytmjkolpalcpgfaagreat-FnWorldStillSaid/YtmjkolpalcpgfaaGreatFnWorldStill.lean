/- PROVED: Rows.FnWorldStillSaid: whatever the input, laws.FnWorldStill returns true, and its arguments read as they did. No condition beyond the statement's own. -/
import Derived.Test.YtmjkolpalcpgfaaGreatZb
import Derived.Test.YtmjkolpalcpgfaaGreatHa
import Derived.Test.YtmjkolpalcpgfaaGreatJa
import Derived.Test.YtmjkolpalcpgfaaGreatRows
set_option linter.all false
namespace Dx
open Go Go.Proofs
def t_bf:Tree :=
 dN<|
 .call 4 [⟨.bool,(.v 8)⟩,⟨.list,(.v 9)⟩,⟨(.int .i64),(.v 10)⟩,⟨.list,(.v 11)⟩,⟨.list,(.v 12)⟩,⟨.list,(.v 13)⟩,⟨(.int .i64),(.n 9)⟩] [.bool,.list,(.int .i64),.list,.list,.list]<|
 .letp .len [⟨.list,(.v 1)⟩]<|
 .letp (.rem .i64) [⟨(.int .i64),(.v 32)⟩,⟨(.int .i64),(.n 10)⟩]<|
 .call 4 [⟨.bool,(.v 26)⟩,⟨.list,(.v 27)⟩,⟨(.int .i64),(.v 28)⟩,⟨.list,(.v 29)⟩,⟨.list,(.v 30)⟩,⟨.list,(.v 31)⟩,⟨(.int .i64),(.v 33)⟩] [.bool,.list,(.int .i64),.list,.list,.list]<|
 .call 3 [⟨.bool,(.v 34)⟩,⟨.list,(.v 35)⟩,⟨(.int .i64),(.v 36)⟩,⟨.list,(.v 37)⟩,⟨.list,(.v 38)⟩,⟨.list,(.v 39)⟩,⟨.bool,(.v 26)⟩,⟨.list,(.v 27)⟩,⟨(.int .i64),(.v 28)⟩,⟨.list,(.v 29)⟩,⟨.list,(.v 30)⟩,⟨.list,(.v 31)⟩] [.bool]<|
 .ret [⟨.bool,(.v 40)⟩]
noncomputable def Φ_bf:Phi:=fun n=>match n with
 | 0=>gZ
 | 1=>g0
 | 2=>hD
 | 3=>cY
 | 4=>db
 | _=>fun _=>none
noncomputable def φ_bf(cs:List C):Option (List C):=ah (den Φ_bf t_bf cs)
end Dx
namespace Dx
open Go
section
variable {code more:List Int}
theorem law_WorldStill(hl:code.length ≤ 1099511627776)(hc:fQ code):φ_bf [.list (code.map eB),.list (more.map eB)]=some [.bool true]:=by
 unfold φ_bf t_bf
 refine da rfl rfl rfl rfl hl hc fun rooms es w hm hw hr hel hes=>?_
 obtain⟨ow,I⟩:=gG hw
 have e3:Φ_bf 3=cY:=rfl
 have e4:Φ_bf 4=db:=rfl
 have f:=fU ow I
 have hmod:Int.tmod ((more.length:Nat):Int) 10=((more.length % 10:Nat):Int):=rfl
 have hlt:more.length % 10<10:=Nat.mod_lt _ (by omega)
 have c1:_=some (bu w 9).e:=bA ow (r:=9) (by omega)
 generalize bu w 9=x at *
 have c2:=bA f.ok (r:=((more.length % 10:Nat):Int)) (by omega)
 rw[Int.toNat_natCast,f.calm]at c2
 have hn:=f.ok.n (w':=x)
 simp only[Wd.e]at c1 c2
 simp (disch:=first|assumption|omega|(simp only[List.length_append,List.length_map,List.length_cons,List.length_nil];omega)) only[cA,bp,aO,aS,aC,aN,aD,aq,aE,aK,ap,ax,Cell.den,At.den,Prim.den,List.cons_append,List.nil_append,bU,aR,CK.of,cp,cr,Bool.decide_eq_true,e4,c1,hmod,c2,e3,hn,decide_true,Int.reduceEq,reduceIte,zU,zT,aa,Bool.and_true,List.length_map,List.length_nil,List.length_cons,List.nil_append]
 try rfl
end
end Dx
namespace Dx
open Go Go.Proofs
def c_bf:Con:=⟨[.own false [.val] [.list] false,.own false [.val] [.list] false],[⟨false,[.val],[.bool],false⟩]⟩
theorem has_bf:Has Tryz.prog 4 c_bf φ_bf:=fp (R:=[]) (tr:=false) (E:=[(21,0,wc),(22,1,wd),(23,2,we),(17,3,qy),(16,4,tD)]) (Φ:=Φ_bf) (t:=t_bf) ⟨iI,iJ,iK,fF,gH,trivial⟩ Tryz.f4 hE (by kernel_rfl)
end Dx
namespace Go.Proofs.YtmjkolpalcpgfaaGreat.fnWorldStill
open Go.ChangeShapes Go.WideShapes Go.ChangeAt Go.RowKit Dx
set_option linter.unusedVariables false
set_option maxRecDepth 100000
theorem own:ownKnob Tryz.prog.godebug=none:=by kernel_rfl
theorem params:Tryz.f4.params=#[22,22]:=by kernel_rfl
theorem results:Tryz.f4.resultTypes=#[4]:=by kernel_rfl
theorem t22:Tryz.prog.underlying 22=some (.slice 5):=by kernel_rfl
theorem t5:Tryz.prog.underlying 5=some (.int .u8):=by kernel_rfl
theorem t4:Tryz.prog.underlying 4=some .bool:=by kernel_rfl
theorem c5:Tryz.prog.cellsOf 5=1:=by kernel_rfl
theorem func:Tryz.prog.funcs[4]?=some Tryz.f4:=by kernel_rfl
theorem contract(H:Type)(enc:TypeId×Value → H)(W:World)(base:Nat)(args:Array Value)(ds gs:List (DataW H))(before:List MemPlace)
  (hval:∀(j:Nat) t v,Tryz.f4.params[j]?=some t → args[j]?=some v → Value.okWide Tryz.prog W .any base t v)
  (hW:DataW.Whole enc Tryz.prog Tryz.f4.params.toList Rows.fnWorldStillSpec.vars false W args.toList ds gs before) :
  Calls Tryz.prog 4 args W fun e W'=>∃ v,e=.returned v ∧ Rows.fnWorldStillSpec.post enc Tryz.prog Tryz.f4 false true false false W args v W':=by
 have hW':=hW
 obtain⟨p,q,hA0,hV,rfl,hfz,hnd⟩:=hW
 have hA:DataW.TrodAll enc Tryz.prog W 0 (fun _=>true) true Tryz.f4.params.toList args.toList ds p:=hA0
 rw[params]at hA hval
 obtain⟨v0,vs0,d0,ds0,p0,q0,hargs,rfl,rfl,h0,r0⟩:=trodAll_cons hA
 obtain⟨v1,vs1,d1,ds1,p1,q1,rfl,rfl,rfl,h1,r1⟩:=trodAll_cons r0
 obtain⟨rfl,rfl,rfl⟩:=trodAll_nil r1
 obtain rfl:args=#[v0,v1]:=by cases args;simp_all
 obtain⟨rfl,rfl⟩:=trodVars_none hV
 obtain⟨code,hb,hrep,hd,hshut⟩:=bx t22 t5 c5 (hval 0 22 v0 rfl rfl) h0
 obtain⟨more,hb1,hrep1,hd1,hshut1⟩:=bx t22 t5 c5 (hval 1 22 v1 rfl rfl) h1
 have hlaw:φ_bf [.list (code.map cB),.list (more.map cB)]=some [.bool true]:=by
  by_cases h:code.length ≤ 1048576
  ·exact law_WorldStill (by omega) hb
  ·unfold φ_bf t_bf
   exact vg (by rw[List.length_map];omega)
 refine(cz (vs:=[v0,v1]) has_bf (by simp[dZ]) ⟨[.list (code.map cB)],[.list (more.map cB)],v0,[v1],[],[],rfl,rfl,rfl,ct hrep,[.list (more.map cB)],[],v1,[],[],[],rfl,rfl,rfl,ct hrep1,rfl,rfl,rfl⟩ hlaw).mono ?_
 rintro e W' ⟨rfl,g1,g2,g3⟩
 refine⟨_,rfl,[d0,d1],[],p0++p1,[],p0++p1,[],by simpa using hW',trodAll_cons_mk (shut_bool t4 _) trodAll_mk0,?_,rfl,dQ g1 g2 g3 _,fun h=>by cases h⟩
 rw[params]
 have:=trodAll_cons_mk (hshut W' g3) (trodAll_cons_mk (hshut1 W' g3) (trodAll_mk0 (enc:=enc) (P:=Tryz.prog) (w:=W') (base:=0) (spare:=fun b=>decide (b<W.heap.size)) (held:=true)))
 rw[List.append_nil]at this
 exact this
set_option maxRecDepth 100000 in
theorem lifted(os:Os)(started:os.Started)(H:Type)(enc:TypeId×Value → H) :
  ReturnsInHanded {} Tryz.checked os 4 .any (Rows.fnWorldStillSpec.pre6 enc Tryz.prog Tryz.f4 Rows.fnWorldStillRow.domain false) (Rows.fnWorldStillSpec.post enc Tryz.prog Tryz.f4 false true false false):=by
 refine returnsInHanded_of_change (C:=Tryz.checked) own started (by kernel_rfl) func
  (ChangeSpec.witness6 (enc:=enc) (C:=Tryz.checked) false ⟨#[],#[.slice none 0 0,.slice none 0 0],[]⟩ 8 (by kernel_rfl) (by kernel_rfl) (by kernel_rfl) (by kernel_rfl)) ?_
 intro W base args ds gs before hval hW _ _
 exact contract H enc W base args ds gs before hval hW
theorem proved:Rows.FnWorldStillSaid :=
 OpenClaim.holds_of_wide 4 Tryz.f4 rfl rfl rfl rfl rfl rfl rfl ⟨rfl,rfl,rfl,rfl,rfl⟩ rfl rfl rfl rfl rfl (by kernel_rfl) func (by kernel_rfl)
  (of_decide_eq_true (by kernel_rfl)) (by unfold Func.isWrapper;first|(rw[if_pos (by decide +kernel)];kernel_rfl)|(rw[if_neg (by decide +kernel)];exact⟨rfl,rfl⟩))
  (fun os started H enc _=>lifted os started H enc)
#print axioms proved
end Go.Proofs.YtmjkolpalcpgfaaGreat.fnWorldStill
