/- PROVED: Rows.FnWorldToldSaid: whatever the input, laws.FnWorldTold returns true, and its arguments read as they did. No condition beyond the statement's own. -/
import Derived.Test.YtgnkmfmdoibifaaGreatZb
import Derived.Test.YtgnkmfmdoibifaaGreatHa
import Derived.Test.YtgnkmfmdoibifaaGreatJa
import Derived.Test.YtgnkmfmdoibifaaGreatRows
set_option linter.all false
namespace Dx
open Go Go.Proofs
def t_bm:Tree :=
 cH<|
 .iter [⟨(.int .i64),(.n 0)⟩]<|
 .letp .len [⟨.list,(.v 8)⟩]<|
 .letp .ltI [⟨(.int .i64),(.v 23)⟩,⟨(.int .i64),(.v 24)⟩]<|
 .ite (.v 25) (
 .row (.v 8) (.v 23) [(.int .i64),(.int .i64),(.int .i64),(.int .i64)]<|
 .letp (.sub .i64) [⟨(.int .i64),(.v 27)⟩,⟨(.int .i64),(.n 1)⟩]<|
 .row (.v 9) (.v 30) [(.int .i64),.bool,(.int .i64),.list,(.int .i64)]<|
 .letp (.sub .i64) [⟨(.int .i64),(.v 28)⟩,⟨(.int .i64),(.n 1)⟩]<|
 .call 4 [⟨(.int .i64),(.v 31)⟩,⟨.bool,(.v 32)⟩,⟨(.int .i64),(.v 33)⟩,⟨.list,(.v 34)⟩,⟨(.int .i64),(.v 35)⟩,⟨.bool,(.b true)⟩] [(.int .i64),.list]<|
 .row (.v 38) (.v 36) [(.int .i64),(.int .i64)]<|
 .letp .eqI [⟨(.int .i64),(.v 26)⟩,⟨(.int .i64),(.n 4)⟩]<|
 .ite (.v 41) (
 .letp .eqI [⟨(.int .i64),(.v 40)⟩,⟨(.int .i64),(.n 0)⟩]<|
 .ite (.v 42) (
 .up<|
 .ret [⟨.bool,(.b false)⟩])<|
 .letp (.add .i64) [⟨(.int .i64),(.v 23)⟩,⟨(.int .i64),(.n 1)⟩]<|
 .jump [⟨(.int .i64),(.v 43)⟩])<|
 .letp .eqI [⟨(.int .i64),(.v 26)⟩,⟨(.int .i64),(.n 6)⟩]<|
 .ite (.v 42) (
 .letp .neI [⟨(.int .i64),(.v 40)⟩,⟨(.int .i64),(.n 2)⟩]<|
 .ite (.v 43) (
 .up<|
 .ret [⟨.bool,(.b false)⟩])<|
 .letp (.add .i64) [⟨(.int .i64),(.v 23)⟩,⟨(.int .i64),(.n 1)⟩]<|
 .jump [⟨(.int .i64),(.v 44)⟩])<|
 .letp .eqI [⟨(.int .i64),(.v 26)⟩,⟨(.int .i64),(.n 7)⟩]<|
 .ite (.v 43) (
 .letp .neI [⟨(.int .i64),(.v 40)⟩,⟨(.int .i64),(.n 3)⟩]<|
 .ite (.v 44) (
 .up<|
 .ret [⟨.bool,(.b false)⟩])<|
 .letp (.add .i64) [⟨(.int .i64),(.v 23)⟩,⟨(.int .i64),(.n 1)⟩]<|
 .jump [⟨(.int .i64),(.v 45)⟩])<|
 .letp (.add .i64) [⟨(.int .i64),(.v 23)⟩,⟨(.int .i64),(.n 1)⟩]<|
 .jump [⟨(.int .i64),(.v 44)⟩])<|
 .up<|
 .ret [⟨.bool,(.b true)⟩]
noncomputable def Φ_bm:Phi:=fun n=>match n with
 | 0=>eV
 | 1=>dq
 | 2=>eW
 | 3=>dV
 | 4=>lp
 | _=>fun _=>none
noncomputable def φ_bm(cs:List C):Option (List C):=ai (den Φ_bm t_bm cs)
end Dx
namespace Dx
open Go
section
variable {code:List Int}
theorem law_WorldTold(hl:code.length ≤ 1099511627776)(hc:gp code):φ_bm [.list (code.map eB)]=some [.bool true]:=by
 unfold φ_bm t_bm
 refine bK rfl rfl rfl rfl hl hc fun rooms es w hw hr hel hes=>?_
 obtain⟨ow,I⟩:=cF hw
 have e4:Φ_bm 4=lp:=rfl
 have htl:=ow.dk.tdlen
 rw[be]
 simp only[ax,Cell.den,At.den,C.toInt_int]
 rw[dc (l:=w.dk.td) (o:=.ret [.bool true])]
 ·rfl
 ·intro i x hx
  have hi:=(List.getElem?_eq_some_iff.1 hx).1
  have hi':(i:Int)<(w.dk.td.length:Nat):=by omega
  have hxm:=List.mem_of_getElem? hx
  have ox:=(ow.dk.td x hxm).1
  have hk4:=(ow.dk.td x hxm).2.1
  have nx:=I.told x hxm
  have ht:=ox.t
  have hh:=ox.h
  have h3:=ow.len
  obtain⟨ehs,oh,_⟩:=ow.houseAt hh
  have oh:HsOk (bB w.hs x.h):=oh
  have oh':dX ⟨(bB w.hs x.h).id,(bB w.hs x.h).up,(bB w.hs x.h).room,⟨(bB w.hs x.h).lg.rs,(bB w.hs x.h).lg.f⟩⟩=true:=houseOk_iff.2 oh
  have hS:LgS ⟨(bB w.hs x.h).lg.rs,(bB w.hs x.h).lg.f⟩:=oh.lg.S
  have hx3:x.h ≤ (w.hs.length:Nat):=by omega
  have s6:=(oh.stOk true).len
  have hx6:x.t ≤ ((am ⟨(bB w.hs x.h).id,(bB w.hs x.h).up,(bB w.hs x.h).room,⟨(bB w.hs x.h).lg.rs,(bB w.hs x.h).lg.f⟩⟩ true).hs.length:Nat):=by
   have:(am ⟨(bB w.hs x.h).id,(bB w.hs x.h).up,(bB w.hs x.h).room,⟨(bB w.hs x.h).lg.rs,(bB w.hs x.h).lg.f⟩⟩ true).hs.length=6:=s6
   omega
  have hst:(vw w).hF x.h x.t=hAt (am ⟨(bB w.hs x.h).id,(bB w.hs x.h).up,(bB w.hs x.h).room,⟨(bB w.hs x.h).lg.rs,(bB w.hs x.h).lg.f⟩⟩ true).hs x.t:=rfl
  have n4:=nx.k4
  have n6:=nx.k6
  have n7:=nx.k7
  rw[hst]at n4 n6 n7
  simp (disch:=first|assumption|omega|(simp only[zL];omega)) only[cI,bp,be,aP,aX,aI,aQ,aJ,ar,aH,aK,ap,ax,Cell.den,At.den,Prim.den,List.cons_append,List.nil_append,bL,aS,CK.of,cy,cz,Bool.decide_eq_true,e4,io hx,Word.e,hi',if_true,if_false,aE,i5 hh.1 hx3,House.e,eE hS,oh',Stock.e,y6 ht.1 hx6,Hold.e,al,Int.reduceEq,reduceIte,zU,zT,aa]
  generalize hAt (am ⟨(bB w.hs x.h).id,(bB w.hs x.h).up,(bB w.hs x.h).room,⟨(bB w.hs x.h).lg.rs,(bB w.hs x.h).lg.f⟩⟩ true).hs x.t=q at n4 n6 n7 ⊢
  by_cases k4:x.k=4
  ·simp[k4,n4 k4]
  ·by_cases k6:x.k=6
   ·simp[k6,n6 k6]
   ·by_cases k7:x.k=7
    ·simp[k7,n7 k7]
    ·simp[k4,k6,k7]
 ·have h:¬ ((w.dk.td.length:Int)<(w.dk.td.length:Nat)):=by omega
  simp (disch:=first|assumption|omega|(simp only[zL];omega)) only[cI,bp,be,aP,aX,aI,aQ,aJ,ar,aH,aK,ap,ax,Cell.den,At.den,Prim.den,List.cons_append,List.nil_append,bL,aS,CK.of,cy,cz,Bool.decide_eq_true,h,if_false,Int.reduceEq,reduceIte,zU,zT,aa]
end
end Dx
namespace Dx
open Go Go.Proofs
def c_bm:Con:=⟨[.own false [.val] [.list] false],[⟨false,[.val],[.bool],false⟩]⟩
def h_bm:How:=⟨aC [(0,⟨[kI],[(2,(.bool (.b false))),(9,(sI 0))],[],[],0⟩)],
 aC [],
 aC []⟩
theorem has_bm:Has Tryz.prog 5 c_bm φ_bm:=fp (R:=[]) (tr:=false) (E:=[(15,0,nZ),(16,1,og),(17,2,ol),(18,3,om),(21,4,Fa)]) (Φ:=Φ_bm) (t:=t_bm) ⟨eM,eN,eO,eP,w9,trivial⟩ Tryz.f5 h_bm (by kernel_rfl)
end Dx
namespace Go.Proofs.YtgnkmfmdoibifaaGreat.fnWorldTold
open Go.ChangeShapes Go.WideShapes Go.ChangeAt Go.RowKit Dx
set_option linter.unusedVariables false
set_option maxRecDepth 100000
theorem own:ownKnob Tryz.prog.godebug=none:=by kernel_rfl
theorem params:Tryz.f5.params=#[22]:=by kernel_rfl
theorem results:Tryz.f5.resultTypes=#[4]:=by kernel_rfl
theorem t22:Tryz.prog.underlying 22=some (.slice 5):=by kernel_rfl
theorem t5:Tryz.prog.underlying 5=some (.int .u8):=by kernel_rfl
theorem t4:Tryz.prog.underlying 4=some .bool:=by kernel_rfl
theorem c5:Tryz.prog.cellsOf 5=1:=by kernel_rfl
theorem func:Tryz.prog.funcs[5]?=some Tryz.f5:=by kernel_rfl
theorem contract(H:Type)(enc:TypeId×Value → H)(W:World)(base:Nat)(args:Array Value)(ds gs:List (DataW H))(before:List MemPlace)
  (hval:∀(j:Nat) t v,Tryz.f5.params[j]?=some t → args[j]?=some v → Value.okWide Tryz.prog W .any base t v)
  (hW:DataW.Whole enc Tryz.prog Tryz.f5.params.toList Rows.fnWorldToldSpec.vars false W args.toList ds gs before) :
  Calls Tryz.prog 5 args W fun e W'=>∃ v,e=.returned v ∧ Rows.fnWorldToldSpec.post enc Tryz.prog Tryz.f5 false true false false W args v W':=by
 have hW':=hW
 obtain⟨p,q,hA0,hV,rfl,hfz,hnd⟩:=hW
 have hA:DataW.TrodAll enc Tryz.prog W 0 (fun _=>true) true Tryz.f5.params.toList args.toList ds p:=hA0
 rw[params]at hA hval
 obtain⟨v0,vs0,d0,ds0,p0,q0,hargs,rfl,rfl,h0,r0⟩:=trodAll_cons hA
 obtain⟨rfl,rfl,rfl⟩:=trodAll_nil r0
 obtain rfl:args=#[v0]:=by cases args;simp_all
 obtain⟨rfl,rfl⟩:=trodVars_none hV
 obtain⟨code,hb,hrep,hd,hshut⟩:=bu t22 t5 c5 (hval 0 22 v0 rfl rfl) h0
 have hlaw:φ_bm [.list (code.map cB)]=some [.bool true]:=by
  by_cases h:code.length ≤ 1048576
  ·exact law_WorldTold (by omega) hb
  ·unfold φ_bm t_bm
   exact m7 (by rw[List.length_map];omega)
 refine(bZ (vs:=[v0]) has_bm (by simp[dy]) ⟨[.list (code.map cB)],[],v0,[],[],[],rfl,rfl,rfl,cr hrep,rfl,rfl,rfl⟩ hlaw).mono ?_
 rintro e W' ⟨rfl,h1,h2,h3⟩
 refine⟨_,rfl,[d0],[],p0,[],p0,[],by simpa using hW',trodAll_cons_mk (shut_bool t4 _) trodAll_mk0,?_,rfl,dn h1 h2 h3 _,fun h=>by cases h⟩
 rw[params]
 have:=trodAll_cons_mk (hshut W' h3) (trodAll_mk0 (enc:=enc) (P:=Tryz.prog) (w:=W') (base:=0) (spare:=fun b=>decide (b<W.heap.size)) (held:=true))
 rw[List.append_nil]at this
 exact this
set_option maxRecDepth 100000 in
theorem lifted(os:Os)(started:os.Started)(H:Type)(enc:TypeId×Value → H) :
  ReturnsInHanded {} Tryz.checked os 5 .any (Rows.fnWorldToldSpec.pre6 enc Tryz.prog Tryz.f5 Rows.fnWorldToldRow.domain false) (Rows.fnWorldToldSpec.post enc Tryz.prog Tryz.f5 false true false false):=by
 refine returnsInHanded_of_change (C:=Tryz.checked) own started (by kernel_rfl) func
  (ChangeSpec.witness6 (enc:=enc) (C:=Tryz.checked) false ⟨#[],#[.slice none 0 0],[]⟩ 8 (by kernel_rfl) (by kernel_rfl) (by kernel_rfl) (by kernel_rfl)) ?_
 intro W base args ds gs before hval hW _ _
 exact contract H enc W base args ds gs before hval hW
theorem proved:Rows.FnWorldToldSaid :=
 OpenClaim.holds_of_wide 5 Tryz.f5 rfl rfl rfl rfl rfl rfl rfl ⟨rfl,rfl,rfl,rfl,rfl⟩ rfl rfl rfl rfl rfl (by kernel_rfl) func (by kernel_rfl)
  (of_decide_eq_true (by kernel_rfl)) (by unfold Func.isWrapper;first|(rw[if_pos (by decide +kernel)];kernel_rfl)|(rw[if_neg (by decide +kernel)];exact⟨rfl,rfl⟩))
  (fun os started H enc _=>lifted os started H enc)
#print axioms proved
end Go.Proofs.YtgnkmfmdoibifaaGreat.fnWorldTold
