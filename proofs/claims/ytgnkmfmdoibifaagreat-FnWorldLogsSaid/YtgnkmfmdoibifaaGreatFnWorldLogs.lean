/- PROVED: Rows.FnWorldLogsSaid: whatever the input, laws.FnWorldLogs returns true, and its arguments read as they did. No condition beyond the statement's own. -/
import Derived.Test.YtgnkmfmdoibifaaGreatZb
import Derived.Test.YtgnkmfmdoibifaaGreatHa
import Derived.Test.YtgnkmfmdoibifaaGreatJa
import Derived.Test.YtgnkmfmdoibifaaGreatRows
set_option linter.all false
namespace Dx
open Go Go.Proofs
def t_bn:Tree :=
 cH<|
 .iter [⟨(.int .i64),(.n 0)⟩]<|
 .letp .len [⟨.list,(.v 9)⟩]<|
 .letp .ltI [⟨(.int .i64),(.v 23)⟩,⟨(.int .i64),(.v 24)⟩]<|
 .ite (.v 25) (
 .row (.v 9) (.v 23) [(.int .i64),.bool,(.int .i64),.list,(.int .i64)]<|
 .letp .len [⟨.list,(.v 29)⟩]<|
 .letp .gtI [⟨(.int .i64),(.v 31)⟩,⟨(.int .i64),(.n 12)⟩]<|
 .ite (.v 32) (
 .up<|
 .ret [⟨.bool,(.b false)⟩])<|
 .letp (.add .i64) [⟨(.int .i64),(.v 23)⟩,⟨(.int .i64),(.n 1)⟩]<|
 .jump [⟨(.int .i64),(.v 33)⟩])<|
 .up<|
 .letp .len [⟨.list,(.v 6)⟩]<|
 .call 4 [⟨.bool,(.v 5)⟩,⟨.list,(.v 6)⟩,⟨(.int .i64),(.v 7)⟩,⟨.list,(.v 8)⟩,⟨.bool,(.b false)⟩] [.list]<|
 .letp .len [⟨.list,(.v 27)⟩]<|
 .letp (.mul .i64) [⟨(.int .i64),(.n 3)⟩,⟨(.int .i64),(.v 28)⟩]<|
 .letp .leI [⟨(.int .i64),(.v 26)⟩,⟨(.int .i64),(.v 29)⟩]<|
 .ret [⟨.bool,(.v 30)⟩]
noncomputable def Φ_bn:Phi:=fun n=>match n with
 | 0=>eV
 | 1=>dq
 | 2=>eW
 | 3=>dV
 | 4=>ev
 | _=>fun _=>none
noncomputable def φ_bn(cs:List C):Option (List C):=ai (den Φ_bn t_bn cs)
end Dx
namespace Dx
open Go
section
variable {code:List Int}
theorem law_WorldLogs(hl:code.length ≤ 1099511627776)(hc:gp code):φ_bn [.list (code.map eB)]=some [.bool true]:=by
 unfold φ_bn t_bn
 refine bK rfl rfl rfl rfl hl hc fun rooms es w hw hr hel hes=>?_
 obtain⟨ow,I⟩:=cF hw
 rw[be]
 simp only[ax,Cell.den,At.den,C.toInt_int]
 rw[dc (l:=w.hs) (o:=.ret [.bool true])]
 ·rfl
 ·intro i x hx
  have hi:=(List.getElem?_eq_some_iff.1 hx).1
  have hi':(i:Int)<(w.hs.length:Nat):=by omega
  have h3:=ow.len
  have hlen:=(ow.hs i x hx).1.len
  have hlen':¬ (((x.lg.rs.length:Nat):Int)>12):=by omega
  simp (disch:=first|assumption|omega|(simp only[zL];omega)) only[cI,bp,be,aP,aX,aI,aQ,aJ,ar,aH,aK,ap,ax,Cell.den,At.den,Prim.den,List.cons_append,List.nil_append,bL,aS,CK.of,cy,cz,Bool.decide_eq_true,fG hx,House.e,hi',hlen',if_true,if_false,al,Int.reduceEq,reduceIte,zU,zT,aa]
 ·have h:¬ ((w.hs.length:Int)<(w.hs.length:Nat)):=by omega
  have hdS:DkS ⟨w.dk.up,⟨w.dk.lg.rs,w.dk.lg.f⟩,w.dk.td⟩:=ow.dk.S
  have hdo:cm ⟨w.dk.up,⟨w.dk.lg.rs,w.dk.lg.f⟩,w.dk.td⟩=true:=deskOk_iff.2 ow.dk
  have hl3:w.dk.lg.rs.length ≤ 3*(aj w.dk.lg false).length:=ow.dk.len
  have hl6:(aj w.dk.lg false).length ≤ 6:=(ow.dk.trOk false).len
  have e4:Φ_bn 4=ev:=rfl
  simp (disch:=first|assumption|omega|(simp only[zL];omega)) only[cI,bp,be,aP,aX,aI,aQ,aJ,ar,aH,aK,ap,ax,Cell.den,At.den,Prim.den,List.cons_append,List.nil_append,bL,aS,CK.of,cy,cz,Bool.decide_eq_true,e4,h,if_false,cq hdS,hdo,if_true,Int.reduceEq,reduceIte,zU,zT,aa]
  rw[aE (by omega) (by omega)]
  have:((w.dk.lg.rs.length:Nat):Int) ≤ 3*((aj w.dk.lg false).length:Nat):=by omega
  simp[this,upD]
end
end Dx
namespace Dx
open Go Go.Proofs
def c_bn:Con:=⟨[.own false [.val] [.list] false],[⟨false,[.val],[.bool],false⟩]⟩
def h_bn:How:=⟨aC [(0,⟨[kI],[(2,(.bool (.b false))),(9,(sI 0))],[],[],0⟩)],
 aC [],
 aC []⟩
theorem has_bn:Has Tryz.prog 3 c_bn φ_bn:=fp (R:=[]) (tr:=false) (E:=[(15,0,nZ),(16,1,og),(17,2,ol),(18,3,om),(19,4,xz)]) (Φ:=Φ_bn) (t:=t_bn) ⟨eM,eN,eO,eP,jD,trivial⟩ Tryz.f3 h_bn (by kernel_rfl)
end Dx
namespace Go.Proofs.YtgnkmfmdoibifaaGreat.fnWorldLogs
open Go.ChangeShapes Go.WideShapes Go.ChangeAt Go.RowKit Dx
set_option linter.unusedVariables false
set_option maxRecDepth 100000
theorem own:ownKnob Tryz.prog.godebug=none:=by kernel_rfl
theorem params:Tryz.f3.params=#[22]:=by kernel_rfl
theorem results:Tryz.f3.resultTypes=#[4]:=by kernel_rfl
theorem t22:Tryz.prog.underlying 22=some (.slice 5):=by kernel_rfl
theorem t5:Tryz.prog.underlying 5=some (.int .u8):=by kernel_rfl
theorem t4:Tryz.prog.underlying 4=some .bool:=by kernel_rfl
theorem c5:Tryz.prog.cellsOf 5=1:=by kernel_rfl
theorem func:Tryz.prog.funcs[3]?=some Tryz.f3:=by kernel_rfl
theorem contract(H:Type)(enc:TypeId×Value → H)(W:World)(base:Nat)(args:Array Value)(ds gs:List (DataW H))(before:List MemPlace)
  (hval:∀(j:Nat) t v,Tryz.f3.params[j]?=some t → args[j]?=some v → Value.okWide Tryz.prog W .any base t v)
  (hW:DataW.Whole enc Tryz.prog Tryz.f3.params.toList Rows.fnWorldLogsSpec.vars false W args.toList ds gs before) :
  Calls Tryz.prog 3 args W fun e W'=>∃ v,e=.returned v ∧ Rows.fnWorldLogsSpec.post enc Tryz.prog Tryz.f3 false true false false W args v W':=by
 have hW':=hW
 obtain⟨p,q,hA0,hV,rfl,hfz,hnd⟩:=hW
 have hA:DataW.TrodAll enc Tryz.prog W 0 (fun _=>true) true Tryz.f3.params.toList args.toList ds p:=hA0
 rw[params]at hA hval
 obtain⟨v0,vs0,d0,ds0,p0,q0,hargs,rfl,rfl,h0,r0⟩:=trodAll_cons hA
 obtain⟨rfl,rfl,rfl⟩:=trodAll_nil r0
 obtain rfl:args=#[v0]:=by cases args;simp_all
 obtain⟨rfl,rfl⟩:=trodVars_none hV
 obtain⟨code,hb,hrep,hd,hshut⟩:=bu t22 t5 c5 (hval 0 22 v0 rfl rfl) h0
 have hlaw:φ_bn [.list (code.map cB)]=some [.bool true]:=by
  by_cases h:code.length ≤ 1048576
  ·exact law_WorldLogs (by omega) hb
  ·unfold φ_bn t_bn
   exact m7 (by rw[List.length_map];omega)
 refine(bZ (vs:=[v0]) has_bn (by simp[dy]) ⟨[.list (code.map cB)],[],v0,[],[],[],rfl,rfl,rfl,cr hrep,rfl,rfl,rfl⟩ hlaw).mono ?_
 rintro e W' ⟨rfl,h1,h2,h3⟩
 refine⟨_,rfl,[d0],[],p0,[],p0,[],by simpa using hW',trodAll_cons_mk (shut_bool t4 _) trodAll_mk0,?_,rfl,dn h1 h2 h3 _,fun h=>by cases h⟩
 rw[params]
 have:=trodAll_cons_mk (hshut W' h3) (trodAll_mk0 (enc:=enc) (P:=Tryz.prog) (w:=W') (base:=0) (spare:=fun b=>decide (b<W.heap.size)) (held:=true))
 rw[List.append_nil]at this
 exact this
set_option maxRecDepth 100000 in
theorem lifted(os:Os)(started:os.Started)(H:Type)(enc:TypeId×Value → H) :
  ReturnsInHanded {} Tryz.checked os 3 .any (Rows.fnWorldLogsSpec.pre6 enc Tryz.prog Tryz.f3 Rows.fnWorldLogsRow.domain false) (Rows.fnWorldLogsSpec.post enc Tryz.prog Tryz.f3 false true false false):=by
 refine returnsInHanded_of_change (C:=Tryz.checked) own started (by kernel_rfl) func
  (ChangeSpec.witness6 (enc:=enc) (C:=Tryz.checked) false ⟨#[],#[.slice none 0 0],[]⟩ 8 (by kernel_rfl) (by kernel_rfl) (by kernel_rfl) (by kernel_rfl)) ?_
 intro W base args ds gs before hval hW _ _
 exact contract H enc W base args ds gs before hval hW
theorem proved:Rows.FnWorldLogsSaid :=
 OpenClaim.holds_of_wide 3 Tryz.f3 rfl rfl rfl rfl rfl rfl rfl ⟨rfl,rfl,rfl,rfl,rfl⟩ rfl rfl rfl rfl rfl (by kernel_rfl) func (by kernel_rfl)
  (of_decide_eq_true (by kernel_rfl)) (by unfold Func.isWrapper;first|(rw[if_pos (by decide +kernel)];kernel_rfl)|(rw[if_neg (by decide +kernel)];exact⟨rfl,rfl⟩))
  (fun os started H enc _=>lifted os started H enc)
#print axioms proved
end Go.Proofs.YtgnkmfmdoibifaaGreat.fnWorldLogs
