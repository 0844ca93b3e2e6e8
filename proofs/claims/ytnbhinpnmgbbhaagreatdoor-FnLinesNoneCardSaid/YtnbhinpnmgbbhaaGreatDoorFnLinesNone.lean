/- PROVED: Rows.FnLinesNoneSaid, and the card (CardSaid): whatever the input, laws.FnLinesNone returns true, and its arguments read as they did. No condition beyond the statement's own. -/
import Derived.Test.YtnbhinpnmgbbhaaGreatDoorZb
import Derived.Test.YtnbhinpnmgbbhaaGreatDoorHa
import Derived.Test.YtnbhinpnmgbbhaaGreatDoorJa
import Derived.Test.YtnbhinpnmgbbhaaGreatDoorRows
import Derived.Test.YtnbhinpnmgbbhaaGreatDoorCards
import Derived.Test.YtnbhinpnmgbbhaaGreatDoorTie
import Derived.LaidMore
import Derived.Lay
import Derived.SevenTiedAt
import Derived.Stop.Joined
import Derived.Deep.DeepHandedRow
set_option linter.all false
namespace Dx
open Go Go.Proofs
def t_bh:Tree :=
 .letp .len [⟨.list,(.v 0)⟩]<|
 .letp .gtI [⟨(.int .i64),(.v 1)⟩,⟨(.int .i64),(.n 1048576)⟩]<|
 .ite (.v 2) (
 .ret [⟨.bool,(.b true)⟩])<|
 .call 0 [⟨.list,(.v 0)⟩] [.list,.str]<|
 .call 1 [⟨.list,(.v 3)⟩,⟨.str,(.v 4)⟩] [.str]<|
 .call 2 [⟨.list,(.v 3)⟩,⟨.str,(.v 4)⟩] [.str]<|
 .letp .neS [⟨.str,(.v 5)⟩,⟨.str,(.v 6)⟩]<|
 .ite (.v 7) (
 .call 2 [⟨.list,(.v 3)⟩,⟨.str,(.v 4)⟩] [.str]<|
 .letp .eqS [⟨.str,(.v 5)⟩,⟨.str,(.v 8)⟩]<|
 .ret [⟨.bool,(.v 9)⟩])<|
 .letp .len [⟨.list,(.v 3)⟩]<|
 .letp .neI [⟨(.int .i64),(.v 8)⟩,⟨(.int .i64),(.n 3)⟩]<|
 .ite (.v 9) (
 .call 2 [⟨.list,(.v 3)⟩,⟨.str,(.v 4)⟩] [.str]<|
 .letp .eqS [⟨.str,(.v 5)⟩,⟨.str,(.v 10)⟩]<|
 .ret [⟨.bool,(.v 11)⟩])<|
 .iter [⟨.str,(.v 4)⟩]<|
 .letp .slen [⟨.str,(.v 10)⟩]<|
 .letp .leI [⟨(.int .i64),(.v 11)⟩,⟨(.int .i64),(.n 600)⟩]<|
 .ite (.v 12) (
 .chk .catOk [⟨.str,(.v 10)⟩,⟨.str,(.s ⟨#[110,111,116,104,105,110,103,32,97,116,32,97,108,108,10]⟩)⟩]<|
 .letp .cat [⟨.str,(.v 10)⟩,⟨.str,(.s ⟨#[110,111,116,104,105,110,103,32,97,116,32,97,108,108,10]⟩)⟩]<|
 .jump [⟨.str,(.v 13)⟩])<|
 .up<|
 .call 1 [⟨.list,(.v 3)⟩,⟨.str,(.s ⟨#[]⟩)⟩] [.str]<|
 .call 1 [⟨.list,(.v 3)⟩,⟨.str,(.s ⟨#[119,104,97,116,10,119,111,114,100,115,10]⟩)⟩] [.str]<|
 .chk .catOk [⟨.str,(.s ⟨#[119,104,97,116,10,48,10]⟩)⟩,⟨.str,(.v 13)⟩]<|
 .letp .cat [⟨.str,(.s ⟨#[119,104,97,116,10,48,10]⟩)⟩,⟨.str,(.v 13)⟩]<|
 .letp .eqS [⟨.str,(.v 14)⟩,⟨.str,(.v 15)⟩]<|
 .ite (.v 16) (
 .call 1 [⟨.list,(.v 3)⟩,⟨.str,(.s ⟨#[98,101,103,105,110,32,48,32,48,32,48,10,98,101,103,105,110,32,57,32,49,32,49,10]⟩)⟩] [.str]<|
 .letp .eqS [⟨.str,(.v 17)⟩,⟨.str,(.v 13)⟩]<|
 .ite (.v 18) (
 .call 1 [⟨.list,(.v 3)⟩,⟨.str,(.v 10)⟩] [.str]<|
 .letp .eqS [⟨.str,(.v 19)⟩,⟨.str,(.s ⟨#[116,111,111,32,108,111,110,103,10]⟩)⟩]<|
 .ite (.v 20) (
 .letp (.mkl 1) [⟨(.int .i64),(.n 1)⟩,⟨(.int .i64),(.n 2)⟩]<|
 .call 1 [⟨.list,(.v 21)⟩,⟨.str,(.v 4)⟩] [.str]<|
 .letp .eqS [⟨.str,(.v 22)⟩,⟨.str,(.s ⟨#[110,111,32,119,111,114,108,100,10]⟩)⟩]<|
 .ret [⟨.bool,(.v 23)⟩])<|
 .ret [⟨.bool,(.b false)⟩])<|
 .ret [⟨.bool,(.b false)⟩])<|
 .ret [⟨.bool,(.b false)⟩]
noncomputable def Φ_bh:Phi:=fun n=>match n with
 | 0=>ij
 | 1=>bD
 | 2=>eY
 | _=>fun _=>none
noncomputable def φ_bh(cs:List C):Option (List C):=ai (den Φ_bh t_bh cs)
end Dx
namespace Dx
open Go
theorem law_LinesNone{code:List Int}(hl:code.length ≤ 1099511627776)(hc:kl code):φ_bh [.list (code.map eB)]=some [.bool true]:=by
 unfold φ_bh t_bh
 refine bB rfl rfl rfl hl hc fun rooms text hr=>?_
 have e1:Φ_bh 1=bD:=rfl
 have e2:Φ_bh 2=eY:=rfl
 have r3:=hr.len
 have tl:=hr.tl
 have p2:=fR (rooms:=rooms) (text:=text) (by omega) (by omega)
 by_cases h3:((rooms.length:Nat):Int)=3
 case neg =>
  simp (disch:=first|assumption|omega|(simp only[zL];omega)) only[kT,iC,dK,bH,cy,bn,bv,bo,aR,bd,bu,aQ,aN,Cell.den,At.den,Prim.den,List.cons_append,List.nil_append,c9,bQ,CK.of,iB,gN,Bool.decide_eq_true,e2,p2,h3,if_false,if_true,List.length_map,not_false_eq_true,Bool.not_false,cm,Int.reduceEq,reduceIte,zU,zT,aa]
  simp
 obtain⟨w,hw⟩:=hr.new (by omega)
 have hw0:w=⟨deskNew,cT rooms,[]⟩:=by
  unfold bb at hw
  split at hw
  ·exact(Option.some.inj hw).symm
  ·cases hw
 have k0:jh rooms []=ce w:=by unfold jh;simp only[hw];rfl
 have k1:jh rooms [119,104,97,116,10,119,111,114,100,115,10]=[119,104,97,116,10,48,10]++ce w:=by unfold jh;simp only[hw];subst hw0;rfl
 have k2:jh rooms [98,101,103,105,110,32,48,32,48,32,48,10,98,101,103,105,110,32,57,32,49,32,49,10]=ce w:=by unfold jh;simp only[hw];subst hw0;rfl
 have k3:jh [1,2] text=lT:=rfl
 have hA:=fW (eV hw)
 have q0:=bY (rooms:=rooms) (text:=[]) (by omega) (by simp)
 have q1:=bY (rooms:=rooms) (text:=[119,104,97,116,10,119,111,114,100,115,10]) (by omega) (by simp)
 have q2:=bY (rooms:=rooms) (text:=[98,101,103,105,110,32,48,32,48,32,48,10,98,101,103,105,110,32,57,32,49,32,49,10]) (by omega) (by simp)
 have q3:bD [.list [[.int .i64 1],[.int .i64 2]],.str (mkB text)]=_:=bY (rooms:=[1,2]) (text:=text) (by decide) (by omega)
 rw[k0]at q0
 rw[k1]at q1
 rw[k2]at q2
 rw[k3]at q3
 simp (disch:=first|assumption|omega|(simp only[zL];omega)) only[kT,aR,bd,aN,Cell.den,At.den,Prim.den,List.cons_append,List.nil_append,gN,h3,decide_true,List.length_map,Bool.not_true,Int.reduceEq,reduceIte,zU,zT,aa]
 rw[qb]
 refine BU (I:=fun n ps=>∃ t:List UInt8,ps=[.str (mkB t)] ∧ t.length+n ≤ 2000 ∧ 1000 ≤ t.length+n) (o:=.ret [.bool true]) (2000-text.length) ⟨text,by simp only[aN,Cell.den,At.den,List.cons_append,List.nil_append,aa,C.toStr_str],by omega,by omega⟩ ?_ rfl
 rintro n ps ⟨t,rfl,hn,hn2⟩
 by_cases h6:(t.length:Int) ≤ 600
 ·refine .inl ⟨[.str (mkB (t++[110,111,116,104,105,110,103,32,97,116,32,97,108,108,10]))],n-15,by omega,?_,_,rfl,by simp;omega,by simp;omega⟩
  simp (disch:=first|assumption|omega|(simp only[zL];omega)) only[iC,dK,bH,cy,bn,bv,bo,aR,bd,bu,aQ,aN,Cell.den,At.den,Prim.den,List.cons_append,List.nil_append,c9,bQ,CK.of,iB,gN,Bool.decide_eq_true,aZ,aJ,ak,h6,if_true,List.length_cons,List.length_nil,cm,Int.reduceEq,reduceIte,zU,zT,aa]
 ·have q4:=bY (rooms:=rooms) (text:=t) (by omega) (by omega)
  rw[hr.long (by omega) (u:=t) (by omega)]at q4
  refine .inr ?_
  simp (disch:=first|assumption|omega|(simp only[zL];omega)) only[iC,dK,bH,cy,bn,bv,bo,aR,bd,bu,aQ,aN,Cell.den,At.den,Prim.den,List.cons_append,List.nil_append,c9,bQ,CK.of,iB,gN,Bool.decide_eq_true,aZ,aJ,ak,e1,h6,if_false,List.length_cons,List.length_nil,cm,q0,q1,q2,q3,q4,decide_true,gi,List.take_succ_cons,List.take_zero,List.drop_succ_cons,List.drop_zero,Nat.reduceAdd,Nat.reduceDiv,pa,lT,Int.reduceEq,reduceIte,zU,zT,aa]
end Dx
namespace Dx
open Go Go.Proofs
def c_bh:Con:=⟨[.own false [.val] [.list] false],[⟨false,[.val],[.bool],false⟩]⟩
def h_bh:How:=⟨aB [(0,⟨[.str],[(6,(.str (.v 0)))],[],[],0⟩)],
 aB [],
 aB []⟩
theorem has_bh:Has Tryz.prog 11 c_bh φ_bh:=fp (R:=[]) (tr:=false) (E:=[(14,0,uk),(15,1,sX),(16,2,sY)]) (Φ:=Φ_bh) (t:=t_bh) ⟨gW,gu,gv,trivial⟩ Tryz.f11 h_bh (by kernel_rfl)
end Dx
namespace Go.Proofs.YtnbhinpnmgbbhaaGreatDoor.fnLinesNone
open Go.ChangeShapes Go.WideShapes Go.ChangeAt Go.RowKit Dx
set_option linter.unusedVariables false
set_option maxRecDepth 100000
theorem own:ownKnob Tryz.prog.godebug=none:=by kernel_rfl
theorem params:Tryz.f11.params=#[22]:=by kernel_rfl
theorem results:Tryz.f11.resultTypes=#[4]:=by kernel_rfl
theorem t22:Tryz.prog.underlying 22=some (.slice 5):=by kernel_rfl
theorem t5:Tryz.prog.underlying 5=some (.int .u8):=by kernel_rfl
theorem t4:Tryz.prog.underlying 4=some .bool:=by kernel_rfl
theorem c5:Tryz.prog.cellsOf 5=1:=by kernel_rfl
theorem func:Tryz.prog.funcs[11]?=some Tryz.f11:=by kernel_rfl
theorem contract(H:Type)(enc:TypeId×Value → H)(W:World)(base:Nat)(args:Array Value)(ds gs:List (DataW H))(before:List MemPlace)
  (hval:∀(j:Nat) t v,Tryz.f11.params[j]?=some t → args[j]?=some v → Value.okWide Tryz.prog W .any base t v)
  (hW:DataW.Whole enc Tryz.prog Tryz.f11.params.toList Rows.fnLinesNoneSpec.vars false W args.toList ds gs before) :
  Calls Tryz.prog 11 args W fun e W'=>∃ v,e=.returned v ∧ Rows.fnLinesNoneSpec.post enc Tryz.prog Tryz.f11 false true false false W args v W':=by
 have hW':=hW
 obtain⟨p,q,hA0,hV,rfl,hfz,hnd⟩:=hW
 have hA:DataW.TrodAll enc Tryz.prog W 0 (fun _=>true) true Tryz.f11.params.toList args.toList ds p:=hA0
 rw[params]at hA hval
 obtain⟨v0,vs0,d0,ds0,p0,q0,hargs,rfl,rfl,h0,r0⟩:=trodAll_cons hA
 obtain⟨rfl,rfl,rfl⟩:=trodAll_nil r0
 obtain rfl:args=#[v0]:=by cases args;simp_all
 obtain⟨rfl,rfl⟩:=trodVars_none hV
 obtain⟨code,hb,hrep,hd,hshut⟩:=cV t22 t5 c5 (hval 0 22 v0 rfl rfl) h0
 have hlaw:φ_bh [.list (code.map cB)]=some [.bool true]:=by
  by_cases h:code.length ≤ 1048576
  ·exact law_LinesNone (by omega) hb
  ·unfold φ_bh t_bh
   exact lP (by rw[List.length_map];omega)
 refine(cW (vs:=[v0]) has_bh (by simp[eH]) ⟨[.list (code.map cB)],[],v0,[],[],[],rfl,rfl,rfl,fe hrep,rfl,rfl,rfl⟩ hlaw).mono ?_
 rintro e W' ⟨rfl,h1,h2,h3⟩
 refine⟨_,rfl,[d0],[],p0,[],p0,[],by simpa using hW',trodAll_cons_mk (shut_bool t4 _) trodAll_mk0,?_,rfl,eu h1 h2 h3 _,fun h=>by cases h⟩
 rw[params]
 have:=trodAll_cons_mk (hshut W' h3) (trodAll_mk0 (enc:=enc) (P:=Tryz.prog) (w:=W') (base:=0) (spare:=fun b=>decide (b<W.heap.size)) (held:=true))
 rw[List.append_nil]at this
 exact this
def inp:Input:=⟨#[],#[.slice none 0 0],[]⟩
set_option maxRecDepth 100000 in
theorem lifted(os:Os)(started:os.Started)(H:Type)(enc:TypeId×Value → H)(F:Stop.Interp) :
  ReturnsInHanded {} Tryz.checked os 11 .any ((OpenSpec.ofChange Rows.fnLinesNoneSpec).preRow enc Tryz.prog Tryz.f11 Rows.fnLinesNoneRow.domain false Rows.fnLinesNoneRow.laid) (((OpenSpec.ofChange Rows.fnLinesNoneSpec).at F).post enc Tryz.prog Tryz.f11 false true false false):=by
 have hok:Input.okWideB Tryz.prog ((World.laidAll Tryz.prog os Rows.fnLinesNoneRow.laid).forCall (fun _ _=>0) inp) 11 inp=true:=by kernel_rfl
 refine returnsInHanded_of_row (C:=Tryz.checked) (s:=OpenSpec.ofChange Rows.fnLinesNoneSpec) (laid:=Rows.fnLinesNoneRow.laid) own started (by kernel_rfl) func
  ⟨World.laidAll Tryz.prog os Rows.fnLinesNoneRow.laid,fun _ _=>0,inp,World.laidAll_os _ _ _,World.shaped_of_ZipB (by kernel_rfl) (by kernel_rfl),rfl,(Input.okWide_of_okWideB hok).2,
   OpenSpec.preRow_of_cond 8 (x:=([.nil],[],[])) (by kernel_rfl) rfl (fun k hk=>by cases hk) (by kernel_rfl) (by rw[MakeChecks.laidMetH_plain _ _ _ (by kernel_rfl)];exact laidMet_laidAll _ (by kernel_rfl) (by kernel_rfl)),by
    simp only[Assume.holds]
    exact⟨by simp,by simp,fun _=>Modest.zero,by simp,by simp⟩⟩ ?_
 intro W base args ds gs before hval hW _ _ _ _ _ _
 exact contract H enc W base args ds gs before hval hW
theorem nm:Tryz.prog.funcNamed "loop.example/concierge/laws.FnLinesNone"=some 11:=by kernel_rfl
theorem jA:jfA Tryz.prog 11 Tryz.f11 (OpenSpec.ofChange Rows.fnLinesNoneSpec).bare Rows.fnLinesNoneRow=true:=by kernel_rfl
theorem jB:jfB Tryz.prog 11 Tryz.f11 (OpenSpec.ofChange Rows.fnLinesNoneSpec).bare Rows.fnLinesNoneRow=true:=by kernel_rfl
theorem mi:Tryz.prog.mainIs=some (true,"90b4ebd20bc5108c07d469a11527756e776b88e51ea502c6222d269f2ada4b91".toList):=by kernel_rfl
theorem gb:false=Rows.fnLinesNoneRow.goesBy Tryz.prog:=by kernel_rfl
theorem proved:Rows.FnLinesNoneSaid :=
 OpenClaim.holds_of_cond 11 Tryz.f11 rfl rfl rfl rfl rfl rfl rfl ⟨rfl,rfl,rfl,rfl,rfl⟩ rfl rfl rfl rfl rfl nm func (kq jA jB)
  (of_decide_eq_true (by kernel_rfl)) (by unfold Func.isWrapper;first|(rw[if_pos (by decide +kernel)];kernel_rfl)|(rw[if_neg (by decide +kernel)];exact⟨rfl,rfl⟩))
  (fun os started H enc _ F=>by rw[OpenClaim.pre_eq_preRow];exact lifted os started H enc F)
theorem card:Rows.FnLinesNoneCardSaid :=
 Claim7.holds_tied_plain_at .later [] [.data,.data,.data,.data,.sentinel,.sentinel,.pinned] true (true,"90b4ebd20bc5108c07d469a11527756e776b88e51ea502c6222d269f2ada4b91") true
  proved (fun _ h=>by cases h) (by kernel_rfl) (fun _ h=>by cases h) fnLinesNone_row_tie rfl ⟨rfl,rfl⟩ mi rfl
  (fun f fn hf hfn=>by
   obtain rfl:f=11:=Option.some.inj (nm.symm.trans hf) |>.symm
   obtain rfl:fn=Tryz.f11:=(Option.some.inj (func.symm.trans hfn)).symm
   exact⟨by kernel_rfl,fun j t ht=>by
    rw[params]at ht
    have hm:t∈[22]:=by simpa using Array.mem_of_getElem? ht
    have hall:([22].all fun u=>!Tryz.prog.wantsStandIn u)=true:=by kernel_rfl
    exact(show Tryz.prog.wantsStandIn t=false by simpa using List.all_eq_true.1 hall t hm)⟩)
  gb
#print axioms card
end Go.Proofs.YtnbhinpnmgbbhaaGreatDoor.fnLinesNone
