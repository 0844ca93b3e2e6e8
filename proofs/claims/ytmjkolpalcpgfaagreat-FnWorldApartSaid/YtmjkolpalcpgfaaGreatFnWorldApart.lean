/- PROVED: Rows.FnWorldApartSaid: whatever the input, laws.FnWorldApart returns true, and its arguments read as they did. No condition beyond the statement's own. -/
import Derived.Test.YtmjkolpalcpgfaaGreatZb
import Derived.Test.YtmjkolpalcpgfaaGreatHa
import Derived.Test.YtmjkolpalcpgfaaGreatJa
import Derived.Test.YtmjkolpalcpgfaaGreatRows
set_option linter.all false
namespace Dx
open Go Go.Proofs
def t_bg:Tree :=
 .letp .len [⟨.list,(.v 0)⟩]<|
 .letp .gtI [⟨(.int .i64),(.v 1)⟩,⟨(.int .i64),(.n 1048576)⟩]<|
 .ite (.v 2) (
 .ret [⟨.bool,(.b true)⟩])<|
 .call 0 [⟨.list,(.v 0)⟩] [.bool,.list,(.int .i64),.list,.list,.list,(.int .i64),(.int .i64),(.int .i64),.list]<|
 .call 1 [⟨.bool,(.v 3)⟩,⟨.list,(.v 4)⟩,⟨(.int .i64),(.v 5)⟩,⟨.list,(.v 6)⟩,⟨.list,(.v 7)⟩,⟨.list,(.v 8)⟩,⟨(.int .i64),(.v 9)⟩,⟨(.int .i64),(.v 10)⟩,⟨(.int .i64),(.v 11)⟩,⟨.list,(.v 12)⟩] [.bool,.list,(.int .i64),.list,.list,.list]<|
 .call 2 [⟨.bool,(.v 3)⟩,⟨.list,(.v 4)⟩,⟨(.int .i64),(.v 5)⟩,⟨.list,(.v 6)⟩,⟨.list,(.v 7)⟩,⟨.list,(.v 8)⟩,⟨(.int .i64),(.v 9)⟩,⟨(.int .i64),(.v 10)⟩,⟨(.int .i64),(.v 11)⟩,⟨.list,(.v 12)⟩] [.bool,.list,(.int .i64),.list,.list,.list]<|
 .call 3 [⟨.bool,(.v 13)⟩,⟨.list,(.v 14)⟩,⟨(.int .i64),(.v 15)⟩,⟨.list,(.v 16)⟩,⟨.list,(.v 17)⟩,⟨.list,(.v 18)⟩,⟨.bool,(.v 19)⟩,⟨.list,(.v 20)⟩,⟨(.int .i64),(.v 21)⟩,⟨.list,(.v 22)⟩,⟨.list,(.v 23)⟩,⟨.list,(.v 24)⟩] [.bool]<|
 .letp .not [⟨.bool,(.v 25)⟩]<|
 .ite (.v 26) (
 .call 2 [⟨.bool,(.v 3)⟩,⟨.list,(.v 4)⟩,⟨(.int .i64),(.v 5)⟩,⟨.list,(.v 6)⟩,⟨.list,(.v 7)⟩,⟨.list,(.v 8)⟩,⟨(.int .i64),(.v 9)⟩,⟨(.int .i64),(.v 10)⟩,⟨(.int .i64),(.v 11)⟩,⟨.list,(.v 12)⟩] [.bool,.list,(.int .i64),.list,.list,.list]<|
 .call 3 [⟨.bool,(.v 13)⟩,⟨.list,(.v 14)⟩,⟨(.int .i64),(.v 15)⟩,⟨.list,(.v 16)⟩,⟨.list,(.v 17)⟩,⟨.list,(.v 18)⟩,⟨.bool,(.v 27)⟩,⟨.list,(.v 28)⟩,⟨(.int .i64),(.v 29)⟩,⟨.list,(.v 30)⟩,⟨.list,(.v 31)⟩,⟨.list,(.v 32)⟩] [.bool]<|
 .ret [⟨.bool,(.v 33)⟩])<|
 .call 4 [⟨.bool,(.v 3)⟩,⟨.list,(.v 4)⟩,⟨(.int .i64),(.v 5)⟩,⟨.list,(.v 6)⟩,⟨.list,(.v 7)⟩,⟨.list,(.v 8)⟩] [.bool]<|
 .letp .not [⟨.bool,(.v 27)⟩]<|
 .ite (.v 28) (
 .call 2 [⟨.bool,(.v 3)⟩,⟨.list,(.v 4)⟩,⟨(.int .i64),(.v 5)⟩,⟨.list,(.v 6)⟩,⟨.list,(.v 7)⟩,⟨.list,(.v 8)⟩,⟨(.int .i64),(.v 9)⟩,⟨(.int .i64),(.v 10)⟩,⟨(.int .i64),(.v 11)⟩,⟨.list,(.v 12)⟩] [.bool,.list,(.int .i64),.list,.list,.list]<|
 .call 3 [⟨.bool,(.v 13)⟩,⟨.list,(.v 14)⟩,⟨(.int .i64),(.v 15)⟩,⟨.list,(.v 16)⟩,⟨.list,(.v 17)⟩,⟨.list,(.v 18)⟩,⟨.bool,(.v 29)⟩,⟨.list,(.v 30)⟩,⟨(.int .i64),(.v 31)⟩,⟨.list,(.v 32)⟩,⟨.list,(.v 33)⟩,⟨.list,(.v 34)⟩] [.bool]<|
 .ret [⟨.bool,(.v 35)⟩])<|
 .letp .ltI [⟨(.int .i64),(.v 9)⟩,⟨(.int .i64),(.n 7)⟩]<|
 .ite (.v 29) (
 .call 2 [⟨.bool,(.v 3)⟩,⟨.list,(.v 4)⟩,⟨(.int .i64),(.v 5)⟩,⟨.list,(.v 6)⟩,⟨.list,(.v 7)⟩,⟨.list,(.v 8)⟩,⟨(.int .i64),(.v 9)⟩,⟨(.int .i64),(.v 10)⟩,⟨(.int .i64),(.v 11)⟩,⟨.list,(.v 12)⟩] [.bool,.list,(.int .i64),.list,.list,.list]<|
 .call 3 [⟨.bool,(.v 13)⟩,⟨.list,(.v 14)⟩,⟨(.int .i64),(.v 15)⟩,⟨.list,(.v 16)⟩,⟨.list,(.v 17)⟩,⟨.list,(.v 18)⟩,⟨.bool,(.v 30)⟩,⟨.list,(.v 31)⟩,⟨(.int .i64),(.v 32)⟩,⟨.list,(.v 33)⟩,⟨.list,(.v 34)⟩,⟨.list,(.v 35)⟩] [.bool]<|
 .ret [⟨.bool,(.v 36)⟩])<|
 .letp .gtI [⟨(.int .i64),(.v 9)⟩,⟨(.int .i64),(.n 9)⟩]<|
 .ite (.v 30) (
 .call 2 [⟨.bool,(.v 3)⟩,⟨.list,(.v 4)⟩,⟨(.int .i64),(.v 5)⟩,⟨.list,(.v 6)⟩,⟨.list,(.v 7)⟩,⟨.list,(.v 8)⟩,⟨(.int .i64),(.v 9)⟩,⟨(.int .i64),(.v 10)⟩,⟨(.int .i64),(.v 11)⟩,⟨.list,(.v 12)⟩] [.bool,.list,(.int .i64),.list,.list,.list]<|
 .call 3 [⟨.bool,(.v 13)⟩,⟨.list,(.v 14)⟩,⟨(.int .i64),(.v 15)⟩,⟨.list,(.v 16)⟩,⟨.list,(.v 17)⟩,⟨.list,(.v 18)⟩,⟨.bool,(.v 31)⟩,⟨.list,(.v 32)⟩,⟨(.int .i64),(.v 33)⟩,⟨.list,(.v 34)⟩,⟨.list,(.v 35)⟩,⟨.list,(.v 36)⟩] [.bool]<|
 .ret [⟨.bool,(.v 37)⟩])<|
 .iter [⟨(.int .i64),(.n 0)⟩]<|
 .letp .len [⟨.list,(.v 7)⟩]<|
 .letp .ltI [⟨(.int .i64),(.v 31)⟩,⟨(.int .i64),(.v 32)⟩]<|
 .ite (.v 33) (
 .letp (.add .i64) [⟨(.int .i64),(.v 31)⟩,⟨(.int .i64),(.n 1)⟩]<|
 .letp .neI [⟨(.int .i64),(.v 34)⟩,⟨(.int .i64),(.v 10)⟩]<|
 .ite (.v 35) (
 .row (.v 17) (.v 31) [(.int .i64),.bool,(.int .i64),.list,(.int .i64)]<|
 .row (.v 7) (.v 31) [(.int .i64),.bool,(.int .i64),.list,(.int .i64)]<|
 .call 5 [⟨(.int .i64),(.v 36)⟩,⟨.bool,(.v 37)⟩,⟨(.int .i64),(.v 38)⟩,⟨.list,(.v 39)⟩,⟨(.int .i64),(.v 40)⟩,⟨(.int .i64),(.v 41)⟩,⟨.bool,(.v 42)⟩,⟨(.int .i64),(.v 43)⟩,⟨.list,(.v 44)⟩,⟨(.int .i64),(.v 45)⟩] [.bool]<|
 .letp .not [⟨.bool,(.v 46)⟩]<|
 .ite (.v 47) (
 .up<|
 .ret [⟨.bool,(.b false)⟩])<|
 .letp (.add .i64) [⟨(.int .i64),(.v 31)⟩,⟨(.int .i64),(.n 1)⟩]<|
 .jump [⟨(.int .i64),(.v 48)⟩])<|
 .letp (.add .i64) [⟨(.int .i64),(.v 31)⟩,⟨(.int .i64),(.n 1)⟩]<|
 .jump [⟨(.int .i64),(.v 36)⟩])<|
 .up<|
 .letp .eqI [⟨(.int .i64),(.v 10)⟩,⟨(.int .i64),(.n 0)⟩]<|
 .ite (.v 34) (
 .call 7 [⟨.list,(.v 18)⟩,⟨.list,(.v 8)⟩] [.bool]<|
 .ret [⟨.bool,(.v 35)⟩])<|
 .call 6 [⟨.bool,(.v 13)⟩,⟨.list,(.v 14)⟩,⟨(.int .i64),(.v 15)⟩,⟨.list,(.v 16)⟩,⟨.bool,(.v 3)⟩,⟨.list,(.v 4)⟩,⟨(.int .i64),(.v 5)⟩,⟨.list,(.v 6)⟩] [.bool]<|
 .ite (.v 35) (
 .call 7 [⟨.list,(.v 18)⟩,⟨.list,(.v 8)⟩] [.bool]<|
 .ret [⟨.bool,(.v 36)⟩])<|
 .ret [⟨.bool,(.b false)⟩]
noncomputable def Φ_bg:Phi:=fun n=>match n with
 | 0=>rB
 | 1=>dI
 | 2=>nN
 | 3=>cY
 | 4=>iG
 | 5=>ry
 | 6=>nL
 | 7=>kT
 | _=>fun _=>none
noncomputable def φ_bg(cs:List C):Option (List C):=ah (den Φ_bg t_bg cs)
end Dx
namespace Dx
open Go
section
variable {code more:List Int}
set_option maxHeartbeats 2000000 in
theorem law_WorldApart(hl:code.length ≤ 1099511627776)(hc:fQ code):φ_bg [.list (code.map eB)]=some [.bool true]:=by
 unfold φ_bg t_bg
 refine oK rfl rfl rfl rfl rfl hl hc fun w e x ow he hx=>?_
 have e2:Φ_bg 2=nN:=rfl
 have e3:Φ_bg 3=cY:=rfl
 have e5:Φ_bg 5=ry:=rfl
 have e6:Φ_bg 6=nL:=rfl
 have e7:Φ_bg 7=kT:=rfl
 have ox:WOk x:=by rw[hx];exact ow.do_ e
 have p2:=oH ow.ws he
 rw[if_pos (worldOk_iff.2 ow),← hx]at p2
 have hself:=uJ ox.ws
 simp only[Wd.e,List.cons_append,List.nil_append]at hself p2
 unfold Fe
 by_cases h7:e.k<7
 ·exact sl (congrArg C.bool (decide_eq_true h7)) (st rfl (sc e2 p2 rfl rfl (sc e3 hself rfl rfl (tC rfl))))
 refine sl (congrArg C.bool (decide_eq_false h7)) (sf rfl ?_)
 by_cases h9:e.k>9
 ·exact sl (congrArg C.bool (decide_eq_true h9)) (st rfl (sc e2 p2 rfl rfl (sc e3 hself rfl rfl (tC rfl))))
 refine sl (congrArg C.bool (decide_eq_false h9)) (sf rfl ?_)
 obtain⟨n1,n2,n3⟩:=C0 (w:=w) (e:=e) (by omega)
 rw[← hx]at n1 n2 n3
 have hnl:=ow.nlen
 have h3:=ow.len
 have hnw:kT [.list (x.ns.map Word.e),.list (w.ns.map Word.e)]=some [.bool true]:=by
  have:=tz (td:=x.ns) (td':=w.ns) (by rw[n1];omega)
  rw[this];simp[n1]
 have hnd:e.a≠0 → nL [.bool x.dk.up,.list (x.dk.lg.rs.map Rec.e),.int .i64 x.dk.lg.f,.list (x.dk.td.map Word.e),.bool w.dk.up,.list (w.dk.lg.rs.map Rec.e),.int .i64 w.dk.lg.f,.list (w.dk.td.map Word.e)]=some [.bool true]:=fun h=>by
  have hS:DkS ⟨x.dk.up,⟨x.dk.lg.rs,x.dk.lg.f⟩,x.dk.td⟩:=ox.dk.S
  rw[DY hS,n2 h];simp
 rw[cD]
 simp only[ax,Cell.den,At.den,C.toInt_int]
 rw[fR (l:=w.hs) (o:=.ret [.bool true])]
 ·rfl
 ·intro i y hy
  have hi:=(List.getElem?_eq_some_iff.1 hy).1
  have hi':(i:Int)<(w.hs.length:Nat):=by omega
  have hw1:IntKind.wrap .i64 ((i:Int)+1)=((i+1:Nat):Int):=al (by omega)
  by_cases hne:((i+1:Nat):Int)=e.a
  ·simp (disch:=first|assumption|omega|(simp only[zL];omega)) only[cA,bp,aO,aS,aC,aN,aD,aq,aE,aK,ap,ax,Cell.den,At.den,Prim.den,List.cons_append,List.nil_append,bU,aR,CK.of,cp,cr,Bool.decide_eq_true,hi',if_true,hw1,hne,if_false,Int.reduceEq,reduceIte,zU,zT,aa]
   try rfl
  ·have hxy:x.hs[i]?=some y:=by rw[n3 i (by omega)];exact hy
   have hyl:LgS y.lg:=ow.ws.hs y (List.mem_of_getElem? hy)
   have hh:=AI (x:=y) (x':=y) hyl
   simp only[decide_true]at hh
   simp (disch:=first|assumption|omega|(simp only[zL];omega)) only[cA,bp,aO,aS,aC,aN,aD,aq,aE,aK,ap,ax,Cell.den,At.den,Prim.den,List.cons_append,List.nil_append,bU,aR,CK.of,cp,cr,Bool.decide_eq_true,hi',if_true,hw1,hne,fB hxy,fB hy,House.e,e5,hh,if_false,Int.reduceEq,reduceIte,zU,zT,aa]
   try rfl
 ·have h:¬ ((w.hs.length:Int)<(w.hs.length:Nat)):=by omega
  by_cases ha:e.a=0
  ·simp (disch:=first|assumption|omega|(simp only[zL];omega)) only[cA,bp,aO,aS,aC,aN,aD,aq,aE,aK,ap,ax,Cell.den,At.den,Prim.den,List.cons_append,List.nil_append,bU,aR,CK.of,cp,cr,Bool.decide_eq_true,h,if_false,ha,e7,hnw,if_true,Int.reduceEq,reduceIte,zU,zT,aa]
   try rfl
  ·simp (disch:=first|assumption|omega|(simp only[zL];omega)) only[cA,bp,aO,aS,aC,aN,aD,aq,aE,aK,ap,ax,Cell.den,At.den,Prim.den,List.cons_append,List.nil_append,bU,aR,CK.of,cp,cr,Bool.decide_eq_true,h,if_false,ha,e6,hnd ha,e7,hnw,if_true,Int.reduceEq,reduceIte,zU,zT,aa]
   try rfl
end
end Dx
namespace Dx
open Go Go.Proofs
def c_bg:Con:=⟨[.own false [.val] [.list] false],[⟨false,[.val],[.bool],false⟩]⟩
def h_bg:How:=⟨aw [(0,⟨[kI],[(2,(.bool (.b false))),(6,(sI 0))],[],[],0⟩)],
 aw [],
 aw []⟩
theorem has_bg:Has Tryz.prog 14 c_bg φ_bg:=fp (R:=[]) (tr:=false) (E:=[(32,0,c_bm),(28,1,yP),(33,2,c_eg),(17,3,qy),(19,4,EH),(34,5,c_ey),(35,6,c_fz),(36,7,Jk)]) (Φ:=Φ_bg) (t:=t_bg) ⟨ER,jF,ES,fF,qx,EM,EL,Ah,trivial⟩ Tryz.f14 h_bg (by kernel_rfl)
end Dx
namespace Go.Proofs.YtmjkolpalcpgfaaGreat.fnWorldApart
open Go.ChangeShapes Go.WideShapes Go.ChangeAt Go.RowKit Dx
set_option linter.unusedVariables false
set_option maxRecDepth 100000
theorem own:ownKnob Tryz.prog.godebug=none:=by kernel_rfl
theorem params:Tryz.f14.params=#[22]:=by kernel_rfl
theorem results:Tryz.f14.resultTypes=#[4]:=by kernel_rfl
theorem t22:Tryz.prog.underlying 22=some (.slice 5):=by kernel_rfl
theorem t5:Tryz.prog.underlying 5=some (.int .u8):=by kernel_rfl
theorem t4:Tryz.prog.underlying 4=some .bool:=by kernel_rfl
theorem c5:Tryz.prog.cellsOf 5=1:=by kernel_rfl
theorem func:Tryz.prog.funcs[14]?=some Tryz.f14:=by kernel_rfl
theorem contract(H:Type)(enc:TypeId×Value → H)(W:World)(base:Nat)(args:Array Value)(ds gs:List (DataW H))(before:List MemPlace)
  (hval:∀(j:Nat) t v,Tryz.f14.params[j]?=some t → args[j]?=some v → Value.okWide Tryz.prog W .any base t v)
  (hW:DataW.Whole enc Tryz.prog Tryz.f14.params.toList Rows.fnWorldApartSpec.vars false W args.toList ds gs before) :
  Calls Tryz.prog 14 args W fun e W'=>∃ v,e=.returned v ∧ Rows.fnWorldApartSpec.post enc Tryz.prog Tryz.f14 false true false false W args v W':=by
 have hW':=hW
 obtain⟨p,q,hA0,hV,rfl,hfz,hnd⟩:=hW
 have hA:DataW.TrodAll enc Tryz.prog W 0 (fun _=>true) true Tryz.f14.params.toList args.toList ds p:=hA0
 rw[params]at hA hval
 obtain⟨v0,vs0,d0,ds0,p0,q0,hargs,rfl,rfl,h0,r0⟩:=trodAll_cons hA
 obtain⟨rfl,rfl,rfl⟩:=trodAll_nil r0
 obtain rfl:args=#[v0]:=by cases args;simp_all
 obtain⟨rfl,rfl⟩:=trodVars_none hV
 obtain⟨code,hb,hrep,hd,hshut⟩:=bx t22 t5 c5 (hval 0 22 v0 rfl rfl) h0
 have hlaw:φ_bg [.list (code.map cB)]=some [.bool true]:=by
  by_cases h:code.length ≤ 1048576
  ·exact law_WorldApart (by omega) hb
  ·unfold φ_bg t_bg
   exact vf (by rw[List.length_map];omega)
 refine(cz (vs:=[v0]) has_bg (by simp[dZ]) ⟨[.list (code.map cB)],[],v0,[],[],[],rfl,rfl,rfl,ct hrep,rfl,rfl,rfl⟩ hlaw).mono ?_
 rintro e W' ⟨rfl,h1,h2,h3⟩
 refine⟨_,rfl,[d0],[],p0,[],p0,[],by simpa using hW',trodAll_cons_mk (shut_bool t4 _) trodAll_mk0,?_,rfl,dQ h1 h2 h3 _,fun h=>by cases h⟩
 rw[params]
 have:=trodAll_cons_mk (hshut W' h3) (trodAll_mk0 (enc:=enc) (P:=Tryz.prog) (w:=W') (base:=0) (spare:=fun b=>decide (b<W.heap.size)) (held:=true))
 rw[List.append_nil]at this
 exact this
set_option maxRecDepth 100000 in
theorem lifted(os:Os)(started:os.Started)(H:Type)(enc:TypeId×Value → H) :
  ReturnsInHanded {} Tryz.checked os 14 .any (Rows.fnWorldApartSpec.pre6 enc Tryz.prog Tryz.f14 Rows.fnWorldApartRow.domain false) (Rows.fnWorldApartSpec.post enc Tryz.prog Tryz.f14 false true false false):=by
 refine returnsInHanded_of_change (C:=Tryz.checked) own started (by kernel_rfl) func
  (ChangeSpec.witness6 (enc:=enc) (C:=Tryz.checked) false ⟨#[],#[.slice none 0 0],[]⟩ 8 (by kernel_rfl) (by kernel_rfl) (by kernel_rfl) (by kernel_rfl)) ?_
 intro W base args ds gs before hval hW _ _
 exact contract H enc W base args ds gs before hval hW
theorem proved:Rows.FnWorldApartSaid :=
 OpenClaim.holds_of_wide 14 Tryz.f14 rfl rfl rfl rfl rfl rfl rfl ⟨rfl,rfl,rfl,rfl,rfl⟩ rfl rfl rfl rfl rfl (by kernel_rfl) func (by kernel_rfl)
  (of_decide_eq_true (by kernel_rfl)) (by unfold Func.isWrapper;first|(rw[if_pos (by decide +kernel)];kernel_rfl)|(rw[if_neg (by decide +kernel)];exact⟨rfl,rfl⟩))
  (fun os started H enc _=>lifted os started H enc)
#print axioms proved
end Go.Proofs.YtmjkolpalcpgfaaGreat.fnWorldApart
