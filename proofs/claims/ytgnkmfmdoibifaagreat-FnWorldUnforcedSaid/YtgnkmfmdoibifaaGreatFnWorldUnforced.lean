/- PROVED: Rows.FnWorldUnforcedSaid: whatever the input, laws.FnWorldUnforced returns true, and its arguments read as they did. No condition beyond the statement's own. -/
import Derived.Test.YtgnkmfmdoibifaaGreatZb
import Derived.Test.YtgnkmfmdoibifaaGreatHa
import Derived.Test.YtgnkmfmdoibifaaGreatJa
import Derived.Test.YtgnkmfmdoibifaaGreatRows
set_option linter.all false
namespace Dx
open Go Go.Proofs
def t_au:Tree :=
 cH<|
 .iter [⟨(.int .i64),(.n 0)⟩,⟨.list,.e⟩]<|
 .letp .len [⟨.list,(.v 4)⟩]<|
 .letp .ltI [⟨(.int .i64),(.v 23)⟩,⟨(.int .i64),(.v 25)⟩]<|
 .ite (.v 26) (
 .row (.v 4) (.v 23) [(.int .i64),(.int .i64),(.int .i64),.list]<|
 .letp .neI [⟨(.int .i64),(.v 27)⟩,⟨(.int .i64),(.n 7)⟩]<|
 .ite (.v 31) (
 .row (.v 4) (.v 23) [(.int .i64),(.int .i64),(.int .i64),.list]<|
 .letp .neI [⟨(.int .i64),(.v 32)⟩,⟨(.int .i64),(.n 8)⟩]<|
 .ite (.v 36) (
 .row (.v 4) (.v 23) [(.int .i64),(.int .i64),(.int .i64),.list]<|
 .letp (.mkl 4) [⟨(.int .i64),(.v 37)⟩,⟨(.int .i64),(.v 38)⟩,⟨(.int .i64),(.v 39)⟩,⟨.list,(.v 40)⟩]<|
 .chk .fits [⟨.list,(.v 24)⟩,⟨.list,(.v 41)⟩]<|
 .letp .app [⟨.list,(.v 24)⟩,⟨.list,(.v 41)⟩]<|
 .letp (.add .i64) [⟨(.int .i64),(.v 23)⟩,⟨(.int .i64),(.n 1)⟩]<|
 .jump [⟨(.int .i64),(.v 43)⟩,⟨.list,(.v 42)⟩])<|
 .letp (.add .i64) [⟨(.int .i64),(.v 23)⟩,⟨(.int .i64),(.n 1)⟩]<|
 .jump [⟨(.int .i64),(.v 37)⟩,⟨.list,(.v 24)⟩])<|
 .letp (.add .i64) [⟨(.int .i64),(.v 23)⟩,⟨(.int .i64),(.n 1)⟩]<|
 .jump [⟨(.int .i64),(.v 32)⟩,⟨.list,(.v 24)⟩])<|
 .up<|
 .call 1 [⟨.list,(.v 3)⟩,⟨.list,(.v 24)⟩] [.bool,.list,(.int .i64),.list,.list,.list,.bool]<|
 .iter [⟨(.int .i64),(.n 0)⟩]<|
 .letp .len [⟨.list,(.v 31)⟩]<|
 .letp .ltI [⟨(.int .i64),(.v 34)⟩,⟨(.int .i64),(.v 35)⟩]<|
 .ite (.v 36) (
 .row (.v 31) (.v 34) [(.int .i64),.bool,(.int .i64),.list,(.int .i64)]<|
 .letp .len [⟨.list,(.v 40)⟩]<|
 .letp .gtI [⟨(.int .i64),(.v 42)⟩,⟨(.int .i64),(.n 0)⟩]<|
 .ite (.v 43) (
 .up<|
 .ret [⟨.bool,(.b false)⟩])<|
 .letp (.add .i64) [⟨(.int .i64),(.v 34)⟩,⟨(.int .i64),(.n 1)⟩]<|
 .jump [⟨(.int .i64),(.v 44)⟩])<|
 .up<|
 .ite (.v 33) (
 .letp .len [⟨.list,(.v 32)⟩]<|
 .letp .eqI [⟨(.int .i64),(.v 37)⟩,⟨(.int .i64),(.n 0)⟩]<|
 .ite (.v 38) (
 .call 4 [⟨.bool,(.v 27)⟩,⟨.list,(.v 28)⟩,⟨(.int .i64),(.v 29)⟩,⟨.list,(.v 30)⟩] [.list]<|
 .letp .len [⟨.list,(.v 39)⟩]<|
 .letp .eqI [⟨(.int .i64),(.v 40)⟩,⟨(.int .i64),(.n 0)⟩]<|
 .ite (.v 41) (
 .call 5 [⟨.bool,(.v 27)⟩,⟨.list,(.v 28)⟩,⟨(.int .i64),(.v 29)⟩,⟨.list,(.v 30)⟩,⟨.bool,(.b true)⟩] [.list]<|
 .letp .len [⟨.list,(.v 42)⟩]<|
 .letp .eqI [⟨(.int .i64),(.v 43)⟩,⟨(.int .i64),(.n 0)⟩]<|
 .ret [⟨.bool,(.v 44)⟩])<|
 .ret [⟨.bool,(.b false)⟩])<|
 .ret [⟨.bool,(.b false)⟩])<|
 .ret [⟨.bool,(.b false)⟩]
noncomputable def Φ_au:Phi:=fun n=>match n with
 | 0=>eV
 | 1=>dq
 | 2=>eW
 | 3=>dV
 | 4=>uV
 | 5=>ev
 | _=>fun _=>none
noncomputable def φ_au(cs:List C):Option (List C):=ai (den Φ_au t_au cs)
end Dx
namespace Dx
open Go
section
variable {code:List Int}
theorem law_WorldUnforced(hl:code.length ≤ 1099511627776)(hc:gp code):φ_au [.list (code.map eB)]=some [.bool true]:=by
 unfold φ_au t_au
 refine bK rfl rfl rfl rfl hl hc fun rooms es w hw hr hel hes=>?_
 obtain⟨w0,w',h0,hw',hp'⟩:=kG hw (fun e=>decide (e.k≠7) && decide (e.k≠8))
 have q0:=(Loose.new h0).plays (es:=es.filter (fun e=>decide (e.k≠7) && decide (e.k≠8))) (fun e he=>by simpa using(List.mem_filter.1 he).2)
 rw[← hw']at q0
 obtain⟨ow,I⟩:=cF hp'
 have e1:Φ_au 1=dq:=rfl
 have e4:Φ_au 4=uV:=rfl
 have e5:Φ_au 5=ev:=rfl
 have hfl:(es.filter (fun e=>decide (e.k≠7) && decide (e.k≠8))).length ≤ 81:=by have:=List.length_filter_le (fun e:Ev=>decide (e.k≠7) && decide (e.k≠8)) es;omega
 have hp1:=cL (rooms:=rooms) (es:=es.filter (fun e=>decide (e.k≠7) && decide (e.k≠8))) (by omega) (by omega) (fun e he=>hes e (List.mem_filter.1 he).1)
 rw[hp']at hp1
 simp only[Option.getD_some,Option.isSome_some,Wd.e,List.cons_append,List.nil_append]at hp1
 have hdS:DkS ⟨w'.dk.up,⟨w'.dk.lg.rs,w'.dk.lg.f⟩,w'.dk.td⟩:=ow.dk.S
 have hdo:cm ⟨w'.dk.up,⟨w'.dk.lg.rs,w'.dk.lg.f⟩,w'.dk.td⟩=true:=deskOk_iff.2 ow.dk
 have hwd:bI ⟨w'.dk.up,⟨w'.dk.lg.rs,w'.dk.lg.f⟩,w'.dk.td⟩=[]:=q0.words
 have htr:aj ⟨w'.dk.lg.rs,w'.dk.lg.f⟩ true=[]:=q0.trips
 have hh3:=ow.len
 rw[be]
 simp only[ax,Cell.den,At.den,C.toInt_int,C.toList_list]
 refine Eq.trans (congrArg ai (Al (l:=es) (enc:=fun i (s:List Ev)=>[.int .i64 i,.list (s.map Ev.e)]) (P:=fun i s=>s=(es.take i).filter (fun e=>decide (e.k≠7) && decide (e.k≠8))) (s0:=[]) (o:=.ret [.bool true]) rfl ?_ ?_)) rfl
 ·intro i x s hx hs
  have hi:=(List.getElem?_eq_some_iff.1 hx).1
  have hi':(i:Int)<(es.length:Nat):=by omega
  have hsl:s.length ≤ 81:=by
   rw[hs]
   have:=List.length_filter_le (fun e:Ev=>decide (e.k≠7) && decide (e.k≠8)) (es.take i)
   have:(es.take i).length ≤ es.length:=by rw[List.length_take];omega
   omega
  have ht:es.take (i+1)=es.take i++[x]:=by
   rw[List.take_succ_eq_append_getElem hi]
   have:=(List.getElem?_eq_some_iff.1 hx).2
   rw[this]
  by_cases h7:x.k=7
  ·refine⟨s,?_,?_⟩
   ·simp (disch:=first|assumption|omega|(simp only[zL];omega)) only[cI,bp,aP,aX,aI,aQ,aJ,ar,aH,aK,ap,ax,Cell.den,At.den,Prim.den,List.cons_append,List.nil_append,bL,aS,CK.of,cy,cz,Bool.decide_eq_true,lv hx,Ev.e,hi',if_true,h7,al,Int.reduceEq,reduceIte,zU,zT,aa]
    try rfl
   ·rw[ht,List.filter_append,← hs];simp[h7]
  by_cases h8:x.k=8
  ·refine⟨s,?_,?_⟩
   ·have h87:¬ ((8:Int)=7):=by omega
    simp (disch:=first|assumption|omega|(simp only[zL];omega)) only[cI,bp,aP,aX,aI,aQ,aJ,ar,aH,aK,ap,ax,Cell.den,At.den,Prim.den,List.cons_append,List.nil_append,bL,aS,CK.of,cy,cz,Bool.decide_eq_true,lv hx,Ev.e,hi',if_true,if_false,h8,h87,al,Int.reduceEq,reduceIte,zU,zT,aa]
    try rfl
   ·rw[ht,List.filter_append,← hs];simp[h8]
  ·refine⟨s++[x],?_,?_⟩
   ·have hc2:s.length+1 ≤ 1099511627776:=by omega
    simp (disch:=first|assumption|omega|(simp only[zL];omega)) only[cI,bp,aP,aX,aI,aQ,aJ,ar,aH,aK,ap,ax,Cell.den,At.den,Prim.den,List.cons_append,List.nil_append,bL,aS,CK.of,cy,cz,Bool.decide_eq_true,lv hx,Ev.e,hi',if_true,if_false,h7,h8,al,hc2,Int.reduceEq,reduceIte,zU,zT,aa]
    simp only[lw,List.take,List.drop,List.length_append,List.length_map,List.length_cons,List.length_nil]
    rw[bo (by simp[bJ];omega)]
    simp[Ev.e]
   ·rw[ht,List.filter_append,← hs];simp[h7,h8]
 ·intro s hs
  rw[List.take_length]at hs
  subst hs
  have h:¬ ((es.length:Int)<(es.length:Nat)):=by omega
  simp (disch:=first|assumption|omega|(simp only[zL];omega)) only[cI,bp,aP,aX,aI,aQ,aJ,ar,aH,aK,ap,ax,Cell.den,At.den,Prim.den,List.cons_append,List.nil_append,bL,aS,CK.of,cy,cz,Bool.decide_eq_true,h,if_false,e1,hp1,Int.reduceEq,reduceIte,zU,zT,aa]
  rw[be]
  simp only[ax,Cell.den,At.den,C.toInt_int]
  rw[dc (l:=w'.hs) (o:=.ret [.bool true])]
  ·rfl
  ·intro i x hx
   have hi:=(List.getElem?_eq_some_iff.1 hx).1
   have hi':(i:Int)<(w'.hs.length:Nat):=by omega
   have hx0:=q0.hs x (List.mem_of_getElem? hx)
   simp (disch:=first|assumption|omega|(simp only[zL];omega)) only[cI,bp,aP,aX,aI,aQ,aJ,ar,aH,aK,ap,ax,Cell.den,At.den,Prim.den,List.cons_append,List.nil_append,bL,aS,CK.of,cy,cz,Bool.decide_eq_true,fG hx,House.e,hi',hx0,if_true,al,List.map_nil,Int.reduceEq,reduceIte,zU,zT,aa]
   try rfl
  ·have h:¬ ((w'.hs.length:Int)<(w'.hs.length:Nat)):=by omega
   simp (disch:=first|assumption|omega|(simp only[zL];omega)) only[cI,bp,aP,aX,aI,aQ,aJ,ar,aH,aK,ap,ax,Cell.den,At.den,Prim.den,List.cons_append,List.nil_append,bL,aS,CK.of,cy,cz,Bool.decide_eq_true,h,if_false,q0.ns,e4,e5,se hdS,cq hdS,hdo,hwd,htr,if_true,List.map_nil,ite_self,Int.reduceEq,reduceIte,zU,zT,aa]
   try rfl
end
end Dx
namespace Dx
open Go Go.Proofs
def c_au:Con:=⟨[.own false [.val] [.list] false],[⟨false,[.val],[.bool],false⟩]⟩
def h_au:How:=⟨aC [(2,⟨[kI],[(2,(.bool (.b false))),(13,(sI 0))],[],[],0⟩),(0,⟨[kI,.list],[(9,(.sl 1000)),(10,(sI 0))],[(1000,.arr 56 v4 (.v 1))],[2],1⟩)],
 aC [],
 aC []⟩
theorem has_au:Has Tryz.prog 7 c_au φ_au:=fp (R:=[]) (tr:=false) (E:=[(15,0,nZ),(16,1,og),(17,2,ol),(18,3,om),(22,4,c_cy),(19,5,xz)]) (Φ:=Φ_au) (t:=t_au) ⟨eM,eN,eO,eP,G3,jD,trivial⟩ Tryz.f7 h_au (by kernel_rfl)
end Dx
namespace Go.Proofs.YtgnkmfmdoibifaaGreat.fnWorldUnforced
open Go.ChangeShapes Go.WideShapes Go.ChangeAt Go.RowKit Dx
set_option linter.unusedVariables false
set_option maxRecDepth 100000
theorem own:ownKnob Tryz.prog.godebug=none:=by kernel_rfl
theorem params:Tryz.f7.params=#[22]:=by kernel_rfl
theorem results:Tryz.f7.resultTypes=#[4]:=by kernel_rfl
theorem t22:Tryz.prog.underlying 22=some (.slice 5):=by kernel_rfl
theorem t5:Tryz.prog.underlying 5=some (.int .u8):=by kernel_rfl
theorem t4:Tryz.prog.underlying 4=some .bool:=by kernel_rfl
theorem c5:Tryz.prog.cellsOf 5=1:=by kernel_rfl
theorem func:Tryz.prog.funcs[7]?=some Tryz.f7:=by kernel_rfl
theorem contract(H:Type)(enc:TypeId×Value → H)(W:World)(base:Nat)(args:Array Value)(ds gs:List (DataW H))(before:List MemPlace)
  (hval:∀(j:Nat) t v,Tryz.f7.params[j]?=some t → args[j]?=some v → Value.okWide Tryz.prog W .any base t v)
  (hW:DataW.Whole enc Tryz.prog Tryz.f7.params.toList Rows.fnWorldUnforcedSpec.vars false W args.toList ds gs before) :
  Calls Tryz.prog 7 args W fun e W'=>∃ v,e=.returned v ∧ Rows.fnWorldUnforcedSpec.post enc Tryz.prog Tryz.f7 false true false false W args v W':=by
 have hW':=hW
 obtain⟨p,q,hA0,hV,rfl,hfz,hnd⟩:=hW
 have hA:DataW.TrodAll enc Tryz.prog W 0 (fun _=>true) true Tryz.f7.params.toList args.toList ds p:=hA0
 rw[params]at hA hval
 obtain⟨v0,vs0,d0,ds0,p0,q0,hargs,rfl,rfl,h0,r0⟩:=trodAll_cons hA
 obtain⟨rfl,rfl,rfl⟩:=trodAll_nil r0
 obtain rfl:args=#[v0]:=by cases args;simp_all
 obtain⟨rfl,rfl⟩:=trodVars_none hV
 obtain⟨code,hb,hrep,hd,hshut⟩:=bu t22 t5 c5 (hval 0 22 v0 rfl rfl) h0
 have hlaw:φ_au [.list (code.map cB)]=some [.bool true]:=by
  by_cases h:code.length ≤ 1048576
  ·exact law_WorldUnforced (by omega) hb
  ·unfold φ_au t_au
   exact m7 (by rw[List.length_map];omega)
 refine(bZ (vs:=[v0]) has_au (by simp[dy]) ⟨[.list (code.map cB)],[],v0,[],[],[],rfl,rfl,rfl,cr hrep,rfl,rfl,rfl⟩ hlaw).mono ?_
 rintro e W' ⟨rfl,h1,h2,h3⟩
 refine⟨_,rfl,[d0],[],p0,[],p0,[],by simpa using hW',trodAll_cons_mk (shut_bool t4 _) trodAll_mk0,?_,rfl,dn h1 h2 h3 _,fun h=>by cases h⟩
 rw[params]
 have:=trodAll_cons_mk (hshut W' h3) (trodAll_mk0 (enc:=enc) (P:=Tryz.prog) (w:=W') (base:=0) (spare:=fun b=>decide (b<W.heap.size)) (held:=true))
 rw[List.append_nil]at this
 exact this
set_option maxRecDepth 100000 in
theorem lifted(os:Os)(started:os.Started)(H:Type)(enc:TypeId×Value → H) :
  ReturnsInHanded {} Tryz.checked os 7 .any (Rows.fnWorldUnforcedSpec.pre6 enc Tryz.prog Tryz.f7 Rows.fnWorldUnforcedRow.domain false) (Rows.fnWorldUnforcedSpec.post enc Tryz.prog Tryz.f7 false true false false):=by
 refine returnsInHanded_of_change (C:=Tryz.checked) own started (by kernel_rfl) func
  (ChangeSpec.witness6 (enc:=enc) (C:=Tryz.checked) false ⟨#[],#[.slice none 0 0],[]⟩ 8 (by kernel_rfl) (by kernel_rfl) (by kernel_rfl) (by kernel_rfl)) ?_
 intro W base args ds gs before hval hW _ _
 exact contract H enc W base args ds gs before hval hW
theorem proved:Rows.FnWorldUnforcedSaid :=
 OpenClaim.holds_of_wide 7 Tryz.f7 rfl rfl rfl rfl rfl rfl rfl ⟨rfl,rfl,rfl,rfl,rfl⟩ rfl rfl rfl rfl rfl (by kernel_rfl) func (by kernel_rfl)
  (of_decide_eq_true (by kernel_rfl)) (by unfold Func.isWrapper;first|(rw[if_pos (by decide +kernel)];kernel_rfl)|(rw[if_neg (by decide +kernel)];exact⟨rfl,rfl⟩))
  (fun os started H enc _=>lifted os started H enc)
#print axioms proved
end Go.Proofs.YtgnkmfmdoibifaaGreat.fnWorldUnforced
