/- PROVED: Rows.FnWorldNetsSaid: whatever the input, laws.FnWorldNets returns true, and its arguments read as they did. No condition beyond the statement's own. -/
import Derived.Test.YtgnkmfmdoibifaaGreatZb
import Derived.Test.YtgnkmfmdoibifaaGreatHa
import Derived.Test.YtgnkmfmdoibifaaGreatJa
import Derived.Test.YtgnkmfmdoibifaaGreatRows
set_option linter.all false
namespace Dx
open Go Go.Proofs
def t_bl:Tree :=
 cH<|
 .call 4 [⟨.bool,(.v 5)⟩,⟨.list,(.v 6)⟩,⟨(.int .i64),(.v 7)⟩,⟨.list,(.v 8)⟩,⟨.bool,(.b true)⟩] [.list]<|
 .iter [⟨(.int .i64),(.n 0)⟩]<|
 .letp .len [⟨.list,(.v 10)⟩]<|
 .letp .ltI [⟨(.int .i64),(.v 24)⟩,⟨(.int .i64),(.v 25)⟩]<|
 .ite (.v 26) (
 .row (.v 10) (.v 24) [(.int .i64),(.int .i64),(.int .i64),(.int .i64)]<|
 .call 5 [⟨(.int .i64),(.v 27)⟩,⟨(.int .i64),(.v 28)⟩,⟨(.int .i64),(.v 29)⟩,⟨(.int .i64),(.v 30)⟩] [.bool]<|
 .letp .not [⟨.bool,(.v 31)⟩]<|
 .ite (.v 32) (
 .up<|
 .ret [⟨.bool,(.b false)⟩])<|
 .letp .len [⟨.list,(.v 23)⟩]<|
 .letp .gtI [⟨(.int .i64),(.v 29)⟩,⟨(.int .i64),(.v 33)⟩]<|
 .ite (.v 34) (
 .up<|
 .ret [⟨.bool,(.b false)⟩])<|
 .letp (.sub .i64) [⟨(.int .i64),(.v 29)⟩,⟨(.int .i64),(.n 1)⟩]<|
 .row (.v 23) (.v 35) [.list,(.int .i64)]<|
 .letp (.sub .i64) [⟨(.int .i64),(.v 28)⟩,⟨(.int .i64),(.n 1)⟩]<|
 .row (.v 36) (.v 38) [(.int .i64)]<|
 .letp .eqI [⟨(.int .i64),(.v 39)⟩,⟨(.int .i64),(.n 0)⟩]<|
 .ite (.v 40) (
 .up<|
 .ret [⟨.bool,(.b false)⟩])<|
 .letp (.add .i64) [⟨(.int .i64),(.v 24)⟩,⟨(.int .i64),(.n 1)⟩]<|
 .jump [⟨(.int .i64),(.v 41)⟩])<|
 .up<|
 .letp .len [⟨.list,(.v 10)⟩]<|
 .letp .leI [⟨(.int .i64),(.v 27)⟩,⟨(.int .i64),(.n 14)⟩]<|
 .ret [⟨.bool,(.v 28)⟩]
noncomputable def Φ_bl:Phi:=fun n=>match n with
 | 0=>eV
 | 1=>dq
 | 2=>eW
 | 3=>dV
 | 4=>ev
 | 5=>gD
 | _=>fun _=>none
noncomputable def φ_bl(cs:List C):Option (List C):=ai (den Φ_bl t_bl cs)
end Dx
namespace Dx
open Go
section
variable {code:List Int}
theorem law_WorldNets(hl:code.length ≤ 1099511627776)(hc:gp code):φ_bl [.list (code.map eB)]=some [.bool true]:=by
 unfold φ_bl t_bl
 refine bK rfl rfl rfl rfl hl hc fun rooms es w hw hr hel hes=>?_
 obtain⟨ow,I⟩:=cF hw
 have hdS:DkS ⟨w.dk.up,⟨w.dk.lg.rs,w.dk.lg.f⟩,w.dk.td⟩:=ow.dk.S
 have hdo:cm ⟨w.dk.up,⟨w.dk.lg.rs,w.dk.lg.f⟩,w.dk.td⟩=true:=deskOk_iff.2 ow.dk
 have e4:Φ_bl 4=ev:=rfl
 have e5:Φ_bl 5=gD:=rfl
 have hnl:=ow.nlen
 have hnl':((w.ns.length:Nat):Int) ≤ 14:=by omega
 have tr:TrOk (aj w.dk.lg true):=ow.dk.trOk true
 have tr6:=tr.len
 rw[ap,e4]
 simp only[cI,ax,Cell.den,At.den,aa,C.toInt_int,C.toBool_bool,C.toList_list]
 rw[cq hdS,hdo]
 simp only[if_true,Ac]
 rw[be]
 simp only[ax,Cell.den,At.den,C.toInt_int]
 rw[dc (l:=w.ns) (o:=.ret [.bool true])]
 ·rfl
 ·intro i x hx
  have hi:=(List.getElem?_eq_some_iff.1 hx).1
  have hi':(i:Int)<(w.ns.length:Nat):=by omega
  have hxm:=List.mem_of_getElem? hx
  have ox:=ow.ns x hxm
  have hwo:=wordOk_iff.2 ox
  have nx:=I.net x hxm
  have ht:=ox.t
  have hh:=ox.h
  have hxt:x.t ≤ ((aj w.dk.lg true).length:Nat):=by
   have:=cp (l:=aj w.dk.lg true) (t:=x.t) nx.s
   omega
  have hxt':¬ (x.t>((aj w.dk.lg true).length:Nat)):=by omega
  have hm3:=bc (tripOk_iff.1 (tr.ok _ (fa (t:=x.t) (by omega)))).1
  have hwant:0<mAt (tAt (aj w.dk.lg true) x.t).m x.h:=nx.w
  have hwant':¬ (mAt (tAt (aj w.dk.lg true) x.t).m x.h=0):=by omega
  have hxo:b8 ⟨x.k,x.h,x.t,x.m⟩=true:=hwo
  have hm3':x.h ≤ ((tAt (aj w.dk.lg true) x.t).m.length:Nat):=by omega
  simp (disch:=first|assumption|omega|(simp only[zL];omega)) only[cI,bp,be,aP,aX,aI,aQ,aJ,ar,aH,aK,ap,ax,Cell.den,At.den,Prim.den,List.cons_append,List.nil_append,bL,aS,CK.of,cy,cz,Bool.decide_eq_true,e5,io hx,Word.e,hi',if_true,if_false,g0,hxo,hxt',aE,qg ht.1 hxt,Trip.e,rowM hh.1 hm3',eI,hwant',al,Int.reduceEq,reduceIte,zU,zT,aa]
  rfl
 ·have h:¬ ((w.ns.length:Int)<(w.ns.length:Nat)):=by omega
  simp (disch:=first|assumption|omega|(simp only[zL];omega)) only[cI,bp,be,aP,aX,aI,aQ,aJ,ar,aH,aK,ap,ax,Cell.den,At.den,Prim.den,List.cons_append,List.nil_append,bL,aS,CK.of,cy,cz,Bool.decide_eq_true,h,if_false,hnl',Int.reduceEq,reduceIte,zU,zT,aa]
  simp[upD]
end
end Dx
namespace Dx
open Go Go.Proofs
def c_bl:Con:=⟨[.own false [.val] [.list] false],[⟨false,[.val],[.bool],false⟩]⟩
def h_bl:How:=⟨aC [(0,⟨[kI],[(2,(.bool (.b false))),(10,(sI 0))],[],[],0⟩)],
 aC [],
 aC []⟩
theorem has_bl:Has Tryz.prog 4 c_bl φ_bl:=fp (R:=[]) (tr:=false) (E:=[(15,0,nZ),(16,1,og),(17,2,ol),(18,3,om),(19,4,xz),(20,5,AG)]) (Φ:=Φ_bl) (t:=t_bl) ⟨eM,eN,eO,eP,jD,od,trivial⟩ Tryz.f4 h_bl (by kernel_rfl)
end Dx
namespace Go.Proofs.YtgnkmfmdoibifaaGreat.fnWorldNets
open Go.ChangeShapes Go.WideShapes Go.ChangeAt Go.RowKit Dx
set_option linter.unusedVariables false
set_option maxRecDepth 100000
theorem own:ownKnob Tryz.prog.godebug=none:=by kernel_rfl
theorem params:Tryz.f4.params=#[22]:=by kernel_rfl
theorem results:Tryz.f4.resultTypes=#[4]:=by kernel_rfl
theorem t22:Tryz.prog.underlying 22=some (.slice 5):=by kernel_rfl
theorem t5:Tryz.prog.underlying 5=some (.int .u8):=by kernel_rfl
theorem t4:Tryz.prog.underlying 4=some .bool:=by kernel_rfl
theorem c5:Tryz.prog.cellsOf 5=1:=by kernel_rfl
theorem func:Tryz.prog.funcs[4]?=some Tryz.f4:=by kernel_rfl
theorem contract(H:Type)(enc:TypeId×Value → H)(W:World)(base:Nat)(args:Array Value)(ds gs:List (DataW H))(before:List MemPlace)
  (hval:∀(j:Nat) t v,Tryz.f4.params[j]?=some t → args[j]?=some v → Value.okWide Tryz.prog W .any base t v)
  (hW:DataW.Whole enc Tryz.prog Tryz.f4.params.toList Rows.fnWorldNetsSpec.vars false W args.toList ds gs before) :
  Calls Tryz.prog 4 args W fun e W'=>∃ v,e=.returned v ∧ Rows.fnWorldNetsSpec.post enc Tryz.prog Tryz.f4 false true false false W args v W':=by
 have hW':=hW
 obtain⟨p,q,hA0,hV,rfl,hfz,hnd⟩:=hW
 have hA:DataW.TrodAll enc Tryz.prog W 0 (fun _=>true) true Tryz.f4.params.toList args.toList ds p:=hA0
 rw[params]at hA hval
 obtain⟨v0,vs0,d0,ds0,p0,q0,hargs,rfl,rfl,h0,r0⟩:=trodAll_cons hA
 obtain⟨rfl,rfl,rfl⟩:=trodAll_nil r0
 obtain rfl:args=#[v0]:=by cases args;simp_all
 obtain⟨rfl,rfl⟩:=trodVars_none hV
 obtain⟨code,hb,hrep,hd,hshut⟩:=bu t22 t5 c5 (hval 0 22 v0 rfl rfl) h0
 have hlaw:φ_bl [.list (code.map cB)]=some [.bool true]:=by
  by_cases h:code.length ≤ 1048576
  ·exact law_WorldNets (by omega) hb
  ·unfold φ_bl t_bl
   exact m7 (by rw[List.length_map];omega)
 refine(bZ (vs:=[v0]) has_bl (by simp[dy]) ⟨[.list (code.map cB)],[],v0,[],[],[],rfl,rfl,rfl,cr hrep,rfl,rfl,rfl⟩ hlaw).mono ?_
 rintro e W' ⟨rfl,h1,h2,h3⟩
 refine⟨_,rfl,[d0],[],p0,[],p0,[],by simpa using hW',trodAll_cons_mk (shut_bool t4 _) trodAll_mk0,?_,rfl,dn h1 h2 h3 _,fun h=>by cases h⟩
 rw[params]
 have:=trodAll_cons_mk (hshut W' h3) (trodAll_mk0 (enc:=enc) (P:=Tryz.prog) (w:=W') (base:=0) (spare:=fun b=>decide (b<W.heap.size)) (held:=true))
 rw[List.append_nil]at this
 exact this
set_option maxRecDepth 100000 in
theorem lifted(os:Os)(started:os.Started)(H:Type)(enc:TypeId×Value → H) :
  ReturnsInHanded {} Tryz.checked os 4 .any (Rows.fnWorldNetsSpec.pre6 enc Tryz.prog Tryz.f4 Rows.fnWorldNetsRow.domain false) (Rows.fnWorldNetsSpec.post enc Tryz.prog Tryz.f4 false true false false):=by
 refine returnsInHanded_of_change (C:=Tryz.checked) own started (by kernel_rfl) func
  (ChangeSpec.witness6 (enc:=enc) (C:=Tryz.checked) false ⟨#[],#[.slice none 0 0],[]⟩ 8 (by kernel_rfl) (by kernel_rfl) (by kernel_rfl) (by kernel_rfl)) ?_
 intro W base args ds gs before hval hW _ _
 exact contract H enc W base args ds gs before hval hW
theorem proved:Rows.FnWorldNetsSaid :=
 OpenClaim.holds_of_wide 4 Tryz.f4 rfl rfl rfl rfl rfl rfl rfl ⟨rfl,rfl,rfl,rfl,rfl⟩ rfl rfl rfl rfl rfl (by kernel_rfl) func (by kernel_rfl)
  (of_decide_eq_true (by kernel_rfl)) (by unfold Func.isWrapper;first|(rw[if_pos (by decide +kernel)];kernel_rfl)|(rw[if_neg (by decide +kernel)];exact⟨rfl,rfl⟩))
  (fun os started H enc _=>lifted os started H enc)
#print axioms proved
end Go.Proofs.YtgnkmfmdoibifaaGreat.fnWorldNets
