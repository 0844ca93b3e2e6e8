/- PROVED: Rows.FnWorldNeverSaid: whatever the input, laws.FnWorldNever returns true, and its arguments read as they did. No condition beyond the statement's own. -/
import Derived.Test.YtgnkmfmdoibifaaGreatZb
import Derived.Test.YtgnkmfmdoibifaaGreatHa
import Derived.Test.YtgnkmfmdoibifaaGreatJa
import Derived.Test.YtgnkmfmdoibifaaGreatRows
set_option linter.all false
namespace Dx
open Go Go.Proofs
def t_az:Tree :=
 cH<|
 .iter [⟨(.int .i64),(.n 0)⟩]<|
 .letp .len [⟨.list,(.v 9)⟩]<|
 .letp .ltI [⟨(.int .i64),(.v 23)⟩,⟨(.int .i64),(.v 24)⟩]<|
 .ite (.v 25) (
 .row (.v 9) (.v 23) [(.int .i64),.bool,(.int .i64),.list,(.int .i64)]<|
 .call 4 [⟨(.int .i64),(.v 26)⟩,⟨.bool,(.v 27)⟩,⟨(.int .i64),(.v 28)⟩,⟨.list,(.v 29)⟩,⟨(.int .i64),(.v 30)⟩,⟨.bool,(.b false)⟩] [(.int .i64),.list]<|
 .row (.v 3) (.v 23) [(.int .i64)]<|
 .letp .neI [⟨(.int .i64),(.v 31)⟩,⟨(.int .i64),(.v 33)⟩]<|
 .ite (.v 34) (
 .up<|
 .ret [⟨.bool,(.b false)⟩])<|
 .call 5 [⟨(.int .i64),(.v 31)⟩,⟨.list,(.v 32)⟩] [(.int .i64)]<|
 .letp .ltI [⟨(.int .i64),(.v 35)⟩,⟨(.int .i64),(.n 0)⟩]<|
 .ite (.v 36) (
 .up<|
 .ret [⟨.bool,(.b false)⟩])<|
 .letp (.add .i64) [⟨(.int .i64),(.v 23)⟩,⟨(.int .i64),(.n 1)⟩]<|
 .jump [⟨(.int .i64),(.v 37)⟩])<|
 .up<|
 .call 6 [⟨.bool,(.v 5)⟩,⟨.list,(.v 6)⟩,⟨(.int .i64),(.v 7)⟩,⟨.list,(.v 8)⟩,⟨.list,(.v 9)⟩,⟨.list,(.v 10)⟩] [.bool]<|
 .ret [⟨.bool,(.v 26)⟩]
noncomputable def Φ_az:Phi:=fun n=>match n with
 | 0=>eV
 | 1=>dq
 | 2=>eW
 | 3=>dV
 | 4=>lp
 | 5=>uW
 | 6=>iT
 | _=>fun _=>none
noncomputable def φ_az(cs:List C):Option (List C):=ai (den Φ_az t_az cs)
end Dx
namespace Dx
open Go
section
variable {code:List Int}
theorem law_WorldNever(hl:code.length ≤ 1099511627776)(hc:gp code):φ_az [.list (code.map eB)]=some [.bool true]:=by
 unfold φ_az t_az
 refine bK rfl rfl rfl rfl hl hc fun rooms es w hw hr hel hes=>?_
 obtain⟨ow,I⟩:=cF hw
 have hrooms:w.hs.map (·.room)=rooms:=ve hw
 have e4:Φ_az 4=lp:=rfl
 have e5:Φ_az 5=uW:=rfl
 have e6:Φ_az 6=iT:=rfl
 have h3:=ow.len
 rw[be]
 simp only[ax,Cell.den,At.den,C.toInt_int]
 rw[dc (l:=w.hs) (o:=.ret [.bool true])]
 ·rfl
 ·intro i x hx
  have hi:=(List.getElem?_eq_some_iff.1 hx).1
  have hi':(i:Int)<(w.hs.length:Nat):=by omega
  obtain⟨c1,c2,c3⟩:=ow.cells hx
  have oh:=houseOk_iff.1 c2
  have hs:=oh.stOk false
  have hrm:(am ⟨x.id,x.up,x.room,⟨x.lg.rs,x.lg.f⟩⟩ false).room=x.room:=oh.room false
  have hri:rooms[i]?=some x.room:=by rw[← hrooms,List.getElem?_map,hx];rfl
  have hs':StOk ⟨(am ⟨x.id,x.up,x.room,⟨x.lg.rs,x.lg.f⟩⟩ false).room,(am ⟨x.id,x.up,x.room,⟨x.lg.rs,x.lg.f⟩⟩ false).hs⟩:=hs
  have hsf:=sf hs'
  have hfree:¬ (free ⟨(am ⟨x.id,x.up,x.room,⟨x.lg.rs,x.lg.f⟩⟩ false).room,(am ⟨x.id,x.up,x.room,⟨x.lg.rs,x.lg.f⟩⟩ false).hs⟩<0):=by have:=hs'.free;omega
  rw[hrm]at hsf hfree
  have hself:(x.room=x.room):=rfl
  simp (disch:=first|assumption|omega|(simp only[zL];omega)) only[cI,bp,aP,aX,aI,aQ,aJ,ar,aH,aK,ap,ax,Cell.den,At.den,Prim.den,List.cons_append,List.nil_append,bL,aS,CK.of,cy,cz,Bool.decide_eq_true,e4,e5,fG hx,House.e,hi',eE c1.S,c2,Stock.e,hrm,gl hri,eI,hsf,hfree,if_true,if_false,al,decide_true,Int.reduceEq,reduceIte,zU,zT,aa]
  try rfl
 ·have h:¬ ((w.hs.length:Int)<(w.hs.length:Nat)):=by omega
  simp (disch:=first|assumption|omega|(simp only[zL];omega)) only[cI,bp,aP,aX,aI,aQ,aJ,ar,aH,aK,ap,ax,Cell.den,At.den,Prim.den,List.cons_append,List.nil_append,bL,aS,CK.of,cy,cz,Bool.decide_eq_true,h,if_false,e6,ir ow,Int.reduceEq,reduceIte,zU,zT,aa]
  try rfl
end
end Dx
namespace Dx
open Go Go.Proofs
def c_az:Con:=⟨[.own false [.val] [.list] false],[⟨false,[.val],[.bool],false⟩]⟩
def h_az:How:=⟨aC [(0,⟨[kI],[(2,(.bool (.b false))),(9,(sI 0))],[],[],0⟩)],
 aC [],
 aC []⟩
theorem has_az:Has Tryz.prog 8 c_az φ_az:=fp (R:=[]) (tr:=false) (E:=[(15,0,nZ),(16,1,og),(17,2,ol),(18,3,om),(21,4,Fa),(23,5,c_co),(24,6,Cw)]) (Φ:=Φ_az) (t:=t_az) ⟨eM,eN,eO,eP,w9,G4,rz,trivial⟩ Tryz.f8 h_az (by kernel_rfl)
end Dx
namespace Go.Proofs.YtgnkmfmdoibifaaGreat.fnWorldNever
open Go.ChangeShapes Go.WideShapes Go.ChangeAt Go.RowKit Dx
set_option linter.unusedVariables false
set_option maxRecDepth 100000
theorem own:ownKnob Tryz.prog.godebug=none:=by kernel_rfl
theorem params:Tryz.f8.params=#[22]:=by kernel_rfl
theorem results:Tryz.f8.resultTypes=#[4]:=by kernel_rfl
theorem t22:Tryz.prog.underlying 22=some (.slice 5):=by kernel_rfl
theorem t5:Tryz.prog.underlying 5=some (.int .u8):=by kernel_rfl
theorem t4:Tryz.prog.underlying 4=some .bool:=by kernel_rfl
theorem c5:Tryz.prog.cellsOf 5=1:=by kernel_rfl
theorem func:Tryz.prog.funcs[8]?=some Tryz.f8:=by kernel_rfl
theorem contract(H:Type)(enc:TypeId×Value → H)(W:World)(base:Nat)(args:Array Value)(ds gs:List (DataW H))(before:List MemPlace)
  (hval:∀(j:Nat) t v,Tryz.f8.params[j]?=some t → args[j]?=some v → Value.okWide Tryz.prog W .any base t v)
  (hW:DataW.Whole enc Tryz.prog Tryz.f8.params.toList Rows.fnWorldNeverSpec.vars false W args.toList ds gs before) :
  Calls Tryz.prog 8 args W fun e W'=>∃ v,e=.returned v ∧ Rows.fnWorldNeverSpec.post enc Tryz.prog Tryz.f8 false true false false W args v W':=by
 have hW':=hW
 obtain⟨p,q,hA0,hV,rfl,hfz,hnd⟩:=hW
 have hA:DataW.TrodAll enc Tryz.prog W 0 (fun _=>true) true Tryz.f8.params.toList args.toList ds p:=hA0
 rw[params]at hA hval
 obtain⟨v0,vs0,d0,ds0,p0,q0,hargs,rfl,rfl,h0,r0⟩:=trodAll_cons hA
 obtain⟨rfl,rfl,rfl⟩:=trodAll_nil r0
 obtain rfl:args=#[v0]:=by cases args;simp_all
 obtain⟨rfl,rfl⟩:=trodVars_none hV
 obtain⟨code,hb,hrep,hd,hshut⟩:=bu t22 t5 c5 (hval 0 22 v0 rfl rfl) h0
 have hlaw:φ_az [.list (code.map cB)]=some [.bool true]:=by
  by_cases h:code.length ≤ 1048576
  ·exact law_WorldNever (by omega) hb
  ·unfold φ_az t_az
   exact m7 (by rw[List.length_map];omega)
 refine(bZ (vs:=[v0]) has_az (by simp[dy]) ⟨[.list (code.map cB)],[],v0,[],[],[],rfl,rfl,rfl,cr hrep,rfl,rfl,rfl⟩ hlaw).mono ?_
 rintro e W' ⟨rfl,h1,h2,h3⟩
 refine⟨_,rfl,[d0],[],p0,[],p0,[],by simpa using hW',trodAll_cons_mk (shut_bool t4 _) trodAll_mk0,?_,rfl,dn h1 h2 h3 _,fun h=>by cases h⟩
 rw[params]
 have:=trodAll_cons_mk (hshut W' h3) (trodAll_mk0 (enc:=enc) (P:=Tryz.prog) (w:=W') (base:=0) (spare:=fun b=>decide (b<W.heap.size)) (held:=true))
 rw[List.append_nil]at this
 exact this
set_option maxRecDepth 100000 in
theorem lifted(os:Os)(started:os.Started)(H:Type)(enc:TypeId×Value → H) :
  ReturnsInHanded {} Tryz.checked os 8 .any (Rows.fnWorldNeverSpec.pre6 enc Tryz.prog Tryz.f8 Rows.fnWorldNeverRow.domain false) (Rows.fnWorldNeverSpec.post enc Tryz.prog Tryz.f8 false true false false):=by
 refine returnsInHanded_of_change (C:=Tryz.checked) own started (by kernel_rfl) func
  (ChangeSpec.witness6 (enc:=enc) (C:=Tryz.checked) false ⟨#[],#[.slice none 0 0],[]⟩ 8 (by kernel_rfl) (by kernel_rfl) (by kernel_rfl) (by kernel_rfl)) ?_
 intro W base args ds gs before hval hW _ _
 exact contract H enc W base args ds gs before hval hW
theorem proved:Rows.FnWorldNeverSaid :=
 OpenClaim.holds_of_wide 8 Tryz.f8 rfl rfl rfl rfl rfl rfl rfl ⟨rfl,rfl,rfl,rfl,rfl⟩ rfl rfl rfl rfl rfl (by kernel_rfl) func (by kernel_rfl)
  (of_decide_eq_true (by kernel_rfl)) (by unfold Func.isWrapper;first|(rw[if_pos (by decide +kernel)];kernel_rfl)|(rw[if_neg (by decide +kernel)];exact⟨rfl,rfl⟩))
  (fun os started H enc _=>lifted os started H enc)
#print axioms proved
end Go.Proofs.YtgnkmfmdoibifaaGreat.fnWorldNever
