/- PROVED: Rows.FnWorldKeepSaid: whatever the input, laws.FnWorldKeep returns true, and its arguments read as they did. No condition beyond the statement's own. -/
import Derived.Test.YtgnkmfmdoibifaaGreatZb
import Derived.Test.YtgnkmfmdoibifaaGreatHa
import Derived.Test.YtgnkmfmdoibifaaGreatJa
import Derived.Test.YtgnkmfmdoibifaaGreatRows
set_option linter.all false
namespace Dx
open Go Go.Proofs
def t_be:Tree :=
 dL<|
 .letp .len [⟨.list,(.v 1)⟩]<|
 .letp (.rem .i64) [⟨(.int .i64),(.v 26)⟩,⟨(.int .i64),(.n 4)⟩]<|
 .call 4 [⟨.bool,(.v 8)⟩,⟨.list,(.v 9)⟩,⟨(.int .i64),(.v 10)⟩,⟨.list,(.v 11)⟩,⟨.list,(.v 12)⟩,⟨.list,(.v 13)⟩,⟨(.int .i64),(.n 8)⟩,⟨(.int .i64),(.v 27)⟩,⟨(.int .i64),(.n 40)⟩,⟨.list,.e⟩] [.bool,.list,(.int .i64),.list,.list,.list]<|
 .call 4 [⟨.bool,(.v 28)⟩,⟨.list,(.v 29)⟩,⟨(.int .i64),(.v 30)⟩,⟨.list,(.v 31)⟩,⟨.list,(.v 32)⟩,⟨.list,(.v 33)⟩,⟨(.int .i64),(.n 9)⟩,⟨(.int .i64),(.v 27)⟩,⟨(.int .i64),(.n 0)⟩,⟨.list,.e⟩] [.bool,.list,(.int .i64),.list,.list,.list]<|
 .letp .eqI [⟨(.int .i64),(.v 27)⟩,⟨(.int .i64),(.n 0)⟩]<|
 .ite (.v 40) (
 .call 5 [⟨.list,(.v 35)⟩,⟨.list,(.v 9)⟩] [.bool]<|
 .ite (.v 41) (
 .letp .len [⟨.list,(.v 9)⟩]<|
 .letp .eqI [⟨(.int .i64),(.v 36)⟩,⟨(.int .i64),(.v 42)⟩]<|
 .ite (.v 43) (
 .letp .len [⟨.list,(.v 37)⟩]<|
 .letp .eqI [⟨(.int .i64),(.v 44)⟩,⟨(.int .i64),(.n 0)⟩]<|
 .ret [⟨.bool,(.v 45)⟩])<|
 .ret [⟨.bool,(.b false)⟩])<|
 .ret [⟨.bool,(.b false)⟩])<|
 .letp (.sub .i64) [⟨(.int .i64),(.v 27)⟩,⟨(.int .i64),(.n 1)⟩]<|
 .row (.v 38) (.v 41) [(.int .i64),.bool,(.int .i64),.list,(.int .i64)]<|
 .letp (.sub .i64) [⟨(.int .i64),(.v 27)⟩,⟨(.int .i64),(.n 1)⟩]<|
 .row (.v 12) (.v 47) [(.int .i64),.bool,(.int .i64),.list,(.int .i64)]<|
 .call 5 [⟨.list,(.v 45)⟩,⟨.list,(.v 51)⟩] [.bool]<|
 .ite (.v 53) (
 .letp .len [⟨.list,(.v 45)⟩]<|
 .letp .eqI [⟨(.int .i64),(.v 46)⟩,⟨(.int .i64),(.v 54)⟩]<|
 .ite (.v 55) (
 .ret [⟨.bool,(.v 43)⟩])<|
 .ret [⟨.bool,(.b false)⟩])<|
 .ret [⟨.bool,(.b false)⟩]
noncomputable def Φ_be:Phi:=fun n=>match n with
 | 0=>eV
 | 1=>dq
 | 2=>eW
 | 3=>dV
 | 4=>pb
 | 5=>ln
 | _=>fun _=>none
noncomputable def φ_be(cs:List C):Option (List C):=ai (den Φ_be t_be cs)
end Dx
namespace Dx
open Go
section
variable {code more:List Int}
theorem law_WorldKeep(hl:code.length ≤ 1099511627776)(hc:gp code):φ_be [.list (code.map eB),.list (more.map eB)]=some [.bool true]:=by
 unfold φ_be t_be
 refine dr rfl rfl rfl rfl hl hc fun rooms es w hm hw hr hel hes=>?_
 obtain⟨ow,I⟩:=cF hw
 have e4:Φ_be 4=pb:=rfl
 have e5:Φ_be 5=ln:=rfl
 have hn:more.length % 4<4:=Nat.mod_lt _ (by omega)
 have hmod:Int.tmod ((more.length:Nat):Int) 4=((more.length % 4:Nat):Int):=rfl
 generalize hq:more.length % 4=q at hn hmod
 have d1:=kr ow (e:=⟨8,(q:Int),40,[]⟩) (by simp)
 have o2:=ow.do_ ⟨8,(q:Int),40,[]⟩
 have d2:=kr o2 (e:=⟨9,(q:Int),0,[]⟩) (by simp)
 have o3:=o2.do_ ⟨9,(q:Int),0,[]⟩
 simp only[List.map_nil]at d1 d2
 generalize hx:wdo (wdo w ⟨8,(q:Int),40,[]⟩) ⟨9,(q:Int),0,[]⟩=x at d2 o3
 generalize hy:wdo w ⟨8,(q:Int),40,[]⟩=y at d1 d2 o2 hx
 simp only[Wd.e]at d1 d2
 have hlg:LgOk w.dk.lg:=ow.dk.lg
 have hrs:∀ rs':List Rec,ln [.list (w.dk.lg.rs.map Rec.e),.list (rs'.map Rec.e)]=some [.bool (decide (w.dk.lg.rs=rs'))]:=fun rs'=>wV (by have:=hlg.S.1;omega) hlg.S.2
 by_cases h0:q=0
 ·subst h0
  have ex:x.dk=⟨true,⟨w.dk.lg.rs,w.dk.lg.rs.length⟩,[]⟩:=by
   rw[← hx,← hy]
   show jG (dfall w.dk 40)=_
   unfold jG dfall
   rw[py hlg]
  simp only[Int.natCast_zero]at d1 d2 hmod
  simp (disch:=first|assumption|omega|(simp only[zL];omega)) only[cI,bp,aP,aX,aI,aQ,aJ,ar,aH,aK,ap,ax,Cell.den,At.den,Prim.den,List.cons_append,List.nil_append,bL,aS,CK.of,cy,cz,Bool.decide_eq_true,hmod,e4,d1,d2,e5,ex,hrs,if_true,decide_true,List.map_nil,Int.reduceEq,reduceIte,zU,zT,aa]
  try rfl
 ·have hi:isH (q:Int):=⟨by omega,by omega⟩
  have hq0:¬ ((q:Int)=0):=by omega
  obtain⟨eh,oh,_⟩:=ow.houseAt hi
  have ehs:bB x.hs (q:Int)=⟨(houseAt w q).id,true,(houseAt w q).room,⟨(houseAt w q).lg.rs,(houseAt w q).lg.rs.length⟩⟩:=by
   have hin:in_ (q:Int) 0 3=true:=in_iff.2 (by omega)
   have e8:wdo w ⟨8,(q:Int),40,[]⟩=setHouse w q (hfall (houseAt w q) 40):=by
    show cd w _=_
    simp[cd,hin,h0]
   have e9:∀ v:Wd,wdo v ⟨9,(q:Int),0,[]⟩=setHouse v q (lq (houseAt v q)):=fun v=>by
    show cd v _=_
    simp[cd,hin,h0]
   rw[← hx,← hy,e9,e8]
   have o4:WOk (setHouse w q (hfall (houseAt w q) 40)):=ow.setHouse hi (oh.fall 40) (ow.houseAt hi).2.2
   show houseAt _ _=_
   rw[gS o4 hi hi,if_pos rfl,gS ow hi hi,if_pos rfl]
   unfold lq hfall
   rw[py oh.lg]
  have hxl:(q:Int) ≤ (x.hs.length:Nat):=by rw[o3.len];omega
  have hwl:(q:Int) ≤ (w.hs.length:Nat):=by rw[ow.len];omega
  have hq1:(1:Int) ≤ q:=by omega
  have hrs2:∀ rs':List Rec,ln [.list ((bB w.hs q).lg.rs.map Rec.e),.list (rs'.map Rec.e)]=some [.bool (decide ((bB w.hs q).lg.rs=rs'))]:=fun rs'=>wV (by have:=oh.lg.S.1;have e:(bB w.hs q).lg.rs.length=(houseAt w q).lg.rs.length:=rfl;omega) (fun r hr=>oh.lg.S.2 r hr)
  have ehw:houseAt w q=bB w.hs q:=rfl
  rw[ehw]at ehs
  simp (disch:=first|assumption|omega|(simp only[zL];omega)) only[cI,bp,aP,aX,aI,aQ,aJ,ar,aH,aK,ap,ax,Cell.den,At.den,Prim.den,List.cons_append,List.nil_append,bL,aS,CK.of,cy,cz,Bool.decide_eq_true,hmod,e4,d1,d2,e5,hq0,if_false,aE,i5 hq1 hxl,i5 hq1 hwl,House.e,ehs,hrs2,decide_true,if_true,Int.reduceEq,reduceIte,zU,zT,aa]
  try rfl
end
end Dx
namespace Dx
open Go Go.Proofs
def c_be:Con:=⟨[.own false [.val] [.list] false,.own false [.val] [.list] false],[⟨false,[.val],[.bool],false⟩]⟩
theorem has_be:Has Tryz.prog 10 c_be φ_be:=fp (R:=[]) (tr:=false) (E:=[(15,0,nZ),(16,1,og),(17,2,ol),(18,3,om),(25,4,c_et),(26,5,c_fo)]) (Φ:=Φ_be) (t:=t_be) ⟨eM,eN,eO,eP,AZ,AW,trivial⟩ Tryz.f10 hE (by kernel_rfl)
end Dx
namespace Go.Proofs.YtgnkmfmdoibifaaGreat.fnWorldKeep
open Go.ChangeShapes Go.WideShapes Go.ChangeAt Go.RowKit Dx
set_option linter.unusedVariables false
set_option maxRecDepth 100000
theorem own:ownKnob Tryz.prog.godebug=none:=by kernel_rfl
theorem params:Tryz.f10.params=#[22,22]:=by kernel_rfl
theorem results:Tryz.f10.resultTypes=#[4]:=by kernel_rfl
theorem t22:Tryz.prog.underlying 22=some (.slice 5):=by kernel_rfl
theorem t5:Tryz.prog.underlying 5=some (.int .u8):=by kernel_rfl
theorem t4:Tryz.prog.underlying 4=some .bool:=by kernel_rfl
theorem c5:Tryz.prog.cellsOf 5=1:=by kernel_rfl
theorem func:Tryz.prog.funcs[10]?=some Tryz.f10:=by kernel_rfl
theorem contract(H:Type)(enc:TypeId×Value → H)(W:World)(base:Nat)(args:Array Value)(ds gs:List (DataW H))(before:List MemPlace)
  (hval:∀(j:Nat) t v,Tryz.f10.params[j]?=some t → args[j]?=some v → Value.okWide Tryz.prog W .any base t v)
  (hW:DataW.Whole enc Tryz.prog Tryz.f10.params.toList Rows.fnWorldKeepSpec.vars false W args.toList ds gs before) :
  Calls Tryz.prog 10 args W fun e W'=>∃ v,e=.returned v ∧ Rows.fnWorldKeepSpec.post enc Tryz.prog Tryz.f10 false true false false W args v W':=by
 have hW':=hW
 obtain⟨p,q,hA0,hV,rfl,hfz,hnd⟩:=hW
 have hA:DataW.TrodAll enc Tryz.prog W 0 (fun _=>true) true Tryz.f10.params.toList args.toList ds p:=hA0
 rw[params]at hA hval
 obtain⟨v0,vs0,d0,ds0,p0,q0,hargs,rfl,rfl,h0,r0⟩:=trodAll_cons hA
 obtain⟨v1,vs1,d1,ds1,p1,q1,rfl,rfl,rfl,h1,r1⟩:=trodAll_cons r0
 obtain⟨rfl,rfl,rfl⟩:=trodAll_nil r1
 obtain rfl:args=#[v0,v1]:=by cases args;simp_all
 obtain⟨rfl,rfl⟩:=trodVars_none hV
 obtain⟨code,hb,hrep,hd,hshut⟩:=bu t22 t5 c5 (hval 0 22 v0 rfl rfl) h0
 obtain⟨more,hb1,hrep1,hd1,hshut1⟩:=bu t22 t5 c5 (hval 1 22 v1 rfl rfl) h1
 have hlaw:φ_be [.list (code.map cB),.list (more.map cB)]=some [.bool true]:=by
  by_cases h:code.length ≤ 1048576
  ·exact law_WorldKeep (by omega) hb
  ·unfold φ_be t_be
   exact y4 (by rw[List.length_map];omega)
 refine(bZ (vs:=[v0,v1]) has_be (by simp[dy]) ⟨[.list (code.map cB)],[.list (more.map cB)],v0,[v1],[],[],rfl,rfl,rfl,cr hrep,[.list (more.map cB)],[],v1,[],[],[],rfl,rfl,rfl,cr hrep1,rfl,rfl,rfl⟩ hlaw).mono ?_
 rintro e W' ⟨rfl,g1,g2,g3⟩
 refine⟨_,rfl,[d0,d1],[],p0++p1,[],p0++p1,[],by simpa using hW',trodAll_cons_mk (shut_bool t4 _) trodAll_mk0,?_,rfl,dn g1 g2 g3 _,fun h=>by cases h⟩
 rw[params]
 have:=trodAll_cons_mk (hshut W' g3) (trodAll_cons_mk (hshut1 W' g3) (trodAll_mk0 (enc:=enc) (P:=Tryz.prog) (w:=W') (base:=0) (spare:=fun b=>decide (b<W.heap.size)) (held:=true)))
 rw[List.append_nil]at this
 exact this
set_option maxRecDepth 100000 in
theorem lifted(os:Os)(started:os.Started)(H:Type)(enc:TypeId×Value → H) :
  ReturnsInHanded {} Tryz.checked os 10 .any (Rows.fnWorldKeepSpec.pre6 enc Tryz.prog Tryz.f10 Rows.fnWorldKeepRow.domain false) (Rows.fnWorldKeepSpec.post enc Tryz.prog Tryz.f10 false true false false):=by
 refine returnsInHanded_of_change (C:=Tryz.checked) own started (by kernel_rfl) func
  (ChangeSpec.witness6 (enc:=enc) (C:=Tryz.checked) false ⟨#[],#[.slice none 0 0,.slice none 0 0],[]⟩ 8 (by kernel_rfl) (by kernel_rfl) (by kernel_rfl) (by kernel_rfl)) ?_
 intro W base args ds gs before hval hW _ _
 exact contract H enc W base args ds gs before hval hW
theorem proved:Rows.FnWorldKeepSaid :=
 OpenClaim.holds_of_wide 10 Tryz.f10 rfl rfl rfl rfl rfl rfl rfl ⟨rfl,rfl,rfl,rfl,rfl⟩ rfl rfl rfl rfl rfl (by kernel_rfl) func (by kernel_rfl)
  (of_decide_eq_true (by kernel_rfl)) (by unfold Func.isWrapper;first|(rw[if_pos (by decide +kernel)];kernel_rfl)|(rw[if_neg (by decide +kernel)];exact⟨rfl,rfl⟩))
  (fun os started H enc _=>lifted os started H enc)
#print axioms proved
end Go.Proofs.YtgnkmfmdoibifaaGreat.fnWorldKeep
