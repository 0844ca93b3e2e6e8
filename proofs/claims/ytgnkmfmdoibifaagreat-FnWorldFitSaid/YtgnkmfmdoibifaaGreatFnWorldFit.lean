/- PROVED: Rows.FnWorldFitSaid: whatever the input, laws.FnWorldFit returns true, and its arguments read as they did. No condition beyond the statement's own. -/
import Derived.Test.YtgnkmfmdoibifaaGreatZb
import Derived.Test.YtgnkmfmdoibifaaGreatHa
import Derived.Test.YtgnkmfmdoibifaaGreatJa
import Derived.Test.YtgnkmfmdoibifaaGreatRows
set_option linter.all false
namespace Dx
open Go Go.Proofs
def t_bo:Tree :=
 cH<|
 .call 4 [⟨.bool,(.v 5)⟩,⟨.list,(.v 6)⟩,⟨(.int .i64),(.v 7)⟩,⟨.list,(.v 8)⟩,⟨.list,(.v 9)⟩,⟨.list,(.v 10)⟩] [.bool]<|
 .ret [⟨.bool,(.v 23)⟩]
noncomputable def Φ_bo:Phi:=fun n=>match n with
 | 0=>eV
 | 1=>dq
 | 2=>eW
 | 3=>dV
 | 4=>pd
 | _=>fun _=>none
noncomputable def φ_bo(cs:List C):Option (List C):=ai (den Φ_bo t_bo cs)
end Dx
namespace Dx
open Go
section
variable {code more:List Int}
theorem law_WorldFit(hl:code.length ≤ 1099511627776)(hc:gp code):φ_bo [.list (code.map eB)]=some [.bool true]:=by
 unfold φ_bo t_bo
 refine bK rfl rfl rfl rfl hl hc fun rooms es w hw hr hel hes=>?_
 obtain⟨ow,I⟩:=cF hw
 have e4:Φ_bo 4=pd:=rfl
 simp (disch:=first|assumption|omega|(simp only[zL];omega)) only[cI,bp,aP,aX,aI,aQ,aJ,ar,aH,aK,ap,ax,Cell.den,At.den,Prim.den,List.cons_append,List.nil_append,bL,aS,CK.of,cy,cz,Bool.decide_eq_true,e4,E3 ow I,Int.reduceEq,reduceIte,zU,zT,aa]
 try rfl
end
end Dx
namespace Dx
open Go Go.Proofs
def c_bo:Con:=⟨[.own false [.val] [.list] false],[⟨false,[.val],[.bool],false⟩]⟩
theorem has_bo:Has Tryz.prog 13 c_bo φ_bo:=fp (R:=[]) (tr:=false) (E:=[(15,0,nZ),(16,1,og),(17,2,ol),(18,3,om),(29,4,c_fv)]) (Φ:=Φ_bo) (t:=t_bo) ⟨eM,eN,eO,eP,Bb,trivial⟩ Tryz.f13 hE (by kernel_rfl)
end Dx
namespace Go.Proofs.YtgnkmfmdoibifaaGreat.fnWorldFit
open Go.ChangeShapes Go.WideShapes Go.ChangeAt Go.RowKit Dx
set_option linter.unusedVariables false
set_option maxRecDepth 100000
theorem own:ownKnob Tryz.prog.godebug=none:=by kernel_rfl
theorem params:Tryz.f13.params=#[22]:=by kernel_rfl
theorem results:Tryz.f13.resultTypes=#[4]:=by kernel_rfl
theorem t22:Tryz.prog.underlying 22=some (.slice 5):=by kernel_rfl
theorem t5:Tryz.prog.underlying 5=some (.int .u8):=by kernel_rfl
theorem t4:Tryz.prog.underlying 4=some .bool:=by kernel_rfl
theorem c5:Tryz.prog.cellsOf 5=1:=by kernel_rfl
theorem func:Tryz.prog.funcs[13]?=some Tryz.f13:=by kernel_rfl
theorem contract(H:Type)(enc:TypeId×Value → H)(W:World)(base:Nat)(args:Array Value)(ds gs:List (DataW H))(before:List MemPlace)
  (hval:∀(j:Nat) t v,Tryz.f13.params[j]?=some t → args[j]?=some v → Value.okWide Tryz.prog W .any base t v)
  (hW:DataW.Whole enc Tryz.prog Tryz.f13.params.toList Rows.fnWorldFitSpec.vars false W args.toList ds gs before) :
  Calls Tryz.prog 13 args W fun e W'=>∃ v,e=.returned v ∧ Rows.fnWorldFitSpec.post enc Tryz.prog Tryz.f13 false true false false W args v W':=by
 have hW':=hW
 obtain⟨p,q,hA0,hV,rfl,hfz,hnd⟩:=hW
 have hA:DataW.TrodAll enc Tryz.prog W 0 (fun _=>true) true Tryz.f13.params.toList args.toList ds p:=hA0
 rw[params]at hA hval
 obtain⟨v0,vs0,d0,ds0,p0,q0,hargs,rfl,rfl,h0,r0⟩:=trodAll_cons hA
 obtain⟨rfl,rfl,rfl⟩:=trodAll_nil r0
 obtain rfl:args=#[v0]:=by cases args;simp_all
 obtain⟨rfl,rfl⟩:=trodVars_none hV
 obtain⟨code,hb,hrep,hd,hshut⟩:=bu t22 t5 c5 (hval 0 22 v0 rfl rfl) h0
 have hlaw:φ_bo [.list (code.map cB)]=some [.bool true]:=by
  by_cases h:code.length ≤ 1048576
  ·exact law_WorldFit (by omega) hb
  ·unfold φ_bo t_bo
   exact m7 (by rw[List.length_map];omega)
 refine(bZ (vs:=[v0]) has_bo (by simp[dy]) ⟨[.list (code.map cB)],[],v0,[],[],[],rfl,rfl,rfl,cr hrep,rfl,rfl,rfl⟩ hlaw).mono ?_
 rintro e W' ⟨rfl,h1,h2,h3⟩
 refine⟨_,rfl,[d0],[],p0,[],p0,[],by simpa using hW',trodAll_cons_mk (shut_bool t4 _) trodAll_mk0,?_,rfl,dn h1 h2 h3 _,fun h=>by cases h⟩
 rw[params]
 have:=trodAll_cons_mk (hshut W' h3) (trodAll_mk0 (enc:=enc) (P:=Tryz.prog) (w:=W') (base:=0) (spare:=fun b=>decide (b<W.heap.size)) (held:=true))
 rw[List.append_nil]at this
 exact this
set_option maxRecDepth 100000 in
theorem lifted(os:Os)(started:os.Started)(H:Type)(enc:TypeId×Value → H) :
  ReturnsInHanded {} Tryz.checked os 13 .any (Rows.fnWorldFitSpec.pre6 enc Tryz.prog Tryz.f13 Rows.fnWorldFitRow.domain false) (Rows.fnWorldFitSpec.post enc Tryz.prog Tryz.f13 false true false false):=by
 refine returnsInHanded_of_change (C:=Tryz.checked) own started (by kernel_rfl) func
  (ChangeSpec.witness6 (enc:=enc) (C:=Tryz.checked) false ⟨#[],#[.slice none 0 0],[]⟩ 8 (by kernel_rfl) (by kernel_rfl) (by kernel_rfl) (by kernel_rfl)) ?_
 intro W base args ds gs before hval hW _ _
 exact contract H enc W base args ds gs before hval hW
theorem proved:Rows.FnWorldFitSaid :=
 OpenClaim.holds_of_wide 13 Tryz.f13 rfl rfl rfl rfl rfl rfl rfl ⟨rfl,rfl,rfl,rfl,rfl⟩ rfl rfl rfl rfl rfl (by kernel_rfl) func (by kernel_rfl)
  (of_decide_eq_true (by kernel_rfl)) (by unfold Func.isWrapper;first|(rw[if_pos (by decide +kernel)];kernel_rfl)|(rw[if_neg (by decide +kernel)];exact⟨rfl,rfl⟩))
  (fun os started H enc _=>lifted os started H enc)
#print axioms proved
end Go.Proofs.YtgnkmfmdoibifaaGreat.fnWorldFit
