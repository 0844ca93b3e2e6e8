/- PROVED: Rows.FnWorldAlwaysSaid: whatever the input, laws.FnWorldAlways returns true, and its arguments read as they did. No condition beyond the statement's own. -/
import Derived.Test.YtgnkmfmdoibifaaGreatZb
import Derived.Test.YtgnkmfmdoibifaaGreatHa
import Derived.Test.YtgnkmfmdoibifaaGreatJa
import Derived.Test.YtgnkmfmdoibifaaGreatRows
set_option linter.all false
namespace Dx
open Go Go.Proofs
def t_ax:Tree :=
 dL<|
 .letp .len [⟨.list,(.v 1)⟩]<|
 .letp .len [⟨.list,(.v 7)⟩]<|
 .letp (.add .i64) [⟨(.int .i64),(.v 27)⟩,⟨(.int .i64),(.n 1)⟩]<|
 .chk .nz [⟨(.int .i64),(.v 28)⟩]<|
 .letp (.rem .i64) [⟨(.int .i64),(.v 26)⟩,⟨(.int .i64),(.v 28)⟩]<|
 .chk .upto [⟨(.int .i64),(.v 29)⟩,⟨.list,(.v 7)⟩]<|
 .letp .take [⟨.list,(.v 7)⟩,⟨(.int .i64),(.v 29)⟩]<|
 .call 1 [⟨.list,(.v 6)⟩,⟨.list,(.v 30)⟩] [.bool,.list,(.int .i64),.list,.list,.list,.bool]<|
 .ite (.v 37) (
 .call 4 [⟨.bool,(.v 31)⟩,⟨.list,(.v 32)⟩,⟨(.int .i64),(.v 33)⟩,⟨.list,(.v 34)⟩,⟨.list,(.v 35)⟩,⟨.list,(.v 36)⟩] [.bool]<|
 .ite (.v 38) (
 .call 5 [⟨.bool,(.v 31)⟩,⟨.list,(.v 32)⟩,⟨(.int .i64),(.v 33)⟩,⟨.list,(.v 34)⟩,⟨.list,(.v 35)⟩,⟨.list,(.v 36)⟩] [.bool]<|
 .ret [⟨.bool,(.v 39)⟩])<|
 .ret [⟨.bool,(.b false)⟩])<|
 .ret [⟨.bool,(.b false)⟩]
noncomputable def Φ_ax:Phi:=fun n=>match n with
 | 0=>eV
 | 1=>dq
 | 2=>eW
 | 3=>dV
 | 4=>pd
 | 5=>iT
 | _=>fun _=>none
noncomputable def φ_ax(cs:List C):Option (List C):=ai (den Φ_ax t_ax cs)
end Dx
namespace Dx
open Go
section
variable {code more:List Int}
theorem law_WorldAlways(hl:code.length ≤ 1099511627776)(hc:gp code):φ_ax [.list (code.map eB),.list (more.map eB)]=some [.bool true]:=by
 unfold φ_ax t_ax
 refine dr rfl rfl rfl rfl hl hc fun rooms es w hm hw hr hel hes=>?_
 have e1:Φ_ax 1=dq:=rfl
 have e4:Φ_ax 4=pd:=rfl
 have e5:Φ_ax 5=iT:=rfl
 have hn:more.length % (es.length+1) ≤ es.length:=by have:=Nat.mod_lt more.length (show 0<es.length+1 by omega);omega
 obtain⟨w1,p1,pw,o1,I1⟩:=ko hw (more.length % (es.length+1))
 have hp1:=cL (rooms:=rooms) (es:=es.take (more.length % (es.length+1))) (by omega) (by rw[List.length_take];omega) (fun e he=>hes e (List.mem_of_mem_take he))
 rw[p1]at hp1
 simp only[Option.getD_some,Option.isSome_some,Wd.e,List.cons_append,List.nil_append]at hp1
 have hz:¬ (((es.length+1:Nat):Int)=0):=by omega
 have hup:((more.length % (es.length+1):Nat):Int) ≤ (es.length:Nat):=by omega
 have hup0:(0:Int) ≤ ((more.length % (es.length+1):Nat):Int):=by omega
 have htk:(es.map Ev.e).take (more.length % (es.length+1))=(es.take (more.length % (es.length+1))).map Ev.e:=by rw[List.map_take]
 simp (disch:=first|assumption|omega|(simp only[zL];omega)) only[cI,bp,aP,aX,aI,aQ,aJ,ar,aH,aK,ap,ax,Cell.den,At.den,Prim.den,List.cons_append,List.nil_append,bL,aS,CK.of,cy,cz,Bool.decide_eq_true,al,hz,nk,hup,hup0,Int.toNat_natCast,htk,e1,hp1,e4,E3 o1 I1,e5,ir o1,decide_true,decide_false,Bool.not_false,Int.reduceEq,reduceIte,zU,zT,aa]
 try rfl
end
end Dx
namespace Dx
open Go Go.Proofs
def c_ax:Con:=⟨[.own false [.val] [.list] false,.own false [.val] [.list] false],[⟨false,[.val],[.bool],false⟩]⟩
theorem has_ax:Has Tryz.prog 14 c_ax φ_ax:=fp (R:=[]) (tr:=false) (E:=[(15,0,nZ),(16,1,og),(17,2,ol),(18,3,om),(29,4,c_fv),(24,5,Cw)]) (Φ:=Φ_ax) (t:=t_ax) ⟨eM,eN,eO,eP,Bb,rz,trivial⟩ Tryz.f14 hE (by kernel_rfl)
end Dx
namespace Go.Proofs.YtgnkmfmdoibifaaGreat.fnWorldAlways
open Go.ChangeShapes Go.WideShapes Go.ChangeAt Go.RowKit Dx
set_option linter.unusedVariables false
set_option maxRecDepth 100000
theorem own:ownKnob Tryz.prog.godebug=none:=by kernel_rfl
theorem params:Tryz.f14.params=#[22,22]:=by kernel_rfl
theorem results:Tryz.f14.resultTypes=#[4]:=by kernel_rfl
theorem t22:Tryz.prog.underlying 22=some (.slice 5):=by kernel_rfl
theorem t5:Tryz.prog.underlying 5=some (.int .u8):=by kernel_rfl
theorem t4:Tryz.prog.underlying 4=some .bool:=by kernel_rfl
theorem c5:Tryz.prog.cellsOf 5=1:=by kernel_rfl
theorem func:Tryz.prog.funcs[14]?=some Tryz.f14:=by kernel_rfl
theorem contract(H:Type)(enc:TypeId×Value → H)(W:World)(base:Nat)(args:Array Value)(ds gs:List (DataW H))(before:List MemPlace)
  (hval:∀(j:Nat) t v,Tryz.f14.params[j]?=some t → args[j]?=some v → Value.okWide Tryz.prog W .any base t v)
  (hW:DataW.Whole enc Tryz.prog Tryz.f14.params.toList Rows.fnWorldAlwaysSpec.vars false W args.toList ds gs before) :
  Calls Tryz.prog 14 args W fun e W'=>∃ v,e=.returned v ∧ Rows.fnWorldAlwaysSpec.post enc Tryz.prog Tryz.f14 false true false false W args v W':=by
 have hW':=hW
 obtain⟨p,q,hA0,hV,rfl,hfz,hnd⟩:=hW
 have hA:DataW.TrodAll enc Tryz.prog W 0 (fun _=>true) true Tryz.f14.params.toList args.toList ds p:=hA0
 rw[params]at hA hval
 obtain⟨v0,vs0,d0,ds0,p0,q0,hargs,rfl,rfl,h0,r0⟩:=trodAll_cons hA
 obtain⟨v1,vs1,d1,ds1,p1,q1,rfl,rfl,rfl,h1,r1⟩:=trodAll_cons r0
 obtain⟨rfl,rfl,rfl⟩:=trodAll_nil r1
 obtain rfl:args=#[v0,v1]:=by cases args;simp_all
 obtain⟨rfl,rfl⟩:=trodVars_none hV
 obtain⟨code,hb,hrep,hd,hshut⟩:=bu t22 t5 c5 (hval 0 22 v0 rfl rfl) h0
 obtain⟨more,hb1,hrep1,hd1,hshut1⟩:=bu t22 t5 c5 (hval 1 22 v1 rfl rfl) h1
 have hlaw:φ_ax [.list (code.map cB),.list (more.map cB)]=some [.bool true]:=by
  by_cases h:code.length ≤ 1048576
  ·exact law_WorldAlways (by omega) hb
  ·unfold φ_ax t_ax
   exact y4 (by rw[List.length_map];omega)
 refine(bZ (vs:=[v0,v1]) has_ax (by simp[dy]) ⟨[.list (code.map cB)],[.list (more.map cB)],v0,[v1],[],[],rfl,rfl,rfl,cr hrep,[.list (more.map cB)],[],v1,[],[],[],rfl,rfl,rfl,cr hrep1,rfl,rfl,rfl⟩ hlaw).mono ?_
 rintro e W' ⟨rfl,g1,g2,g3⟩
 refine⟨_,rfl,[d0,d1],[],p0++p1,[],p0++p1,[],by simpa using hW',trodAll_cons_mk (shut_bool t4 _) trodAll_mk0,?_,rfl,dn g1 g2 g3 _,fun h=>by cases h⟩
 rw[params]
 have:=trodAll_cons_mk (hshut W' g3) (trodAll_cons_mk (hshut1 W' g3) (trodAll_mk0 (enc:=enc) (P:=Tryz.prog) (w:=W') (base:=0) (spare:=fun b=>decide (b<W.heap.size)) (held:=true)))
 rw[List.append_nil]at this
 exact this
set_option maxRecDepth 100000 in
theorem lifted(os:Os)(started:os.Started)(H:Type)(enc:TypeId×Value → H) :
  ReturnsInHanded {} Tryz.checked os 14 .any (Rows.fnWorldAlwaysSpec.pre6 enc Tryz.prog Tryz.f14 Rows.fnWorldAlwaysRow.domain false) (Rows.fnWorldAlwaysSpec.post enc Tryz.prog Tryz.f14 false true false false):=by
 refine returnsInHanded_of_change (C:=Tryz.checked) own started (by kernel_rfl) func
  (ChangeSpec.witness6 (enc:=enc) (C:=Tryz.checked) false ⟨#[],#[.slice none 0 0,.slice none 0 0],[]⟩ 8 (by kernel_rfl) (by kernel_rfl) (by kernel_rfl) (by kernel_rfl)) ?_
 intro W base args ds gs before hval hW _ _
 exact contract H enc W base args ds gs before hval hW
theorem proved:Rows.FnWorldAlwaysSaid :=
 OpenClaim.holds_of_wide 14 Tryz.f14 rfl rfl rfl rfl rfl rfl rfl ⟨rfl,rfl,rfl,rfl,rfl⟩ rfl rfl rfl rfl rfl (by kernel_rfl) func (by kernel_rfl)
  (of_decide_eq_true (by kernel_rfl)) (by unfold Func.isWrapper;first|(rw[if_pos (by decide +kernel)];kernel_rfl)|(rw[if_neg (by decide +kernel)];exact⟨rfl,rfl⟩))
  (fun os started H enc _=>lifted os started H enc)
#print axioms proved
end Go.Proofs.YtgnkmfmdoibifaaGreat.fnWorldAlways
