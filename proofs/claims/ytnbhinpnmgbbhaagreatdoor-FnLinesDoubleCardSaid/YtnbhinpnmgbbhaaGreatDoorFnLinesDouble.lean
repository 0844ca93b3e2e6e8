/- PROVED: Rows.FnLinesDoubleSaid, and the card (CardSaid): whatever the input, laws.FnLinesDouble returns true, and its arguments read as they did. No condition beyond the statement's own. -/
import Derived.Test.YtnbhinpnmgbbhaaGreatDoorZb
import Derived.Test.YtnbhinpnmgbbhaaGreatDoorHa
import Derived.Test.YtnbhinpnmgbbhaaGreatDoorJa
import Derived.Test.YtnbhinpnmgbbhaaGreatDoorRows
import Derived.Test.YtnbhinpnmgbbhaaGreatDoorCards
import Derived.Test.YtnbhinpnmgbbhaaGreatDoorTie
import Derived.LaidMore
import Derived.Lay
import Derived.SevenTiedAt
import Derived.Stop.Joined
import Derived.Deep.DeepHandedRow
set_option linter.all false
namespace Dx
open Go Go.Proofs
def t_az:Tree :=
 .letp .len [⟨.list,(.v 0)⟩]<|
 .letp .gtI [⟨(.int .i64),(.v 1)⟩,⟨(.int .i64),(.n 1048576)⟩]<|
 .ite (.v 2) (
 .ret [⟨.bool,(.b true)⟩])<|
 .call 0 [⟨.list,(.v 0)⟩] [.list,.str]<|
 .call 1 [⟨.list,(.v 3)⟩,⟨.str,(.v 4)⟩] [.str]<|
 .call 2 [⟨.list,(.v 3)⟩,⟨.str,(.v 4)⟩] [.str]<|
 .letp .neS [⟨.str,(.v 5)⟩,⟨.str,(.v 6)⟩]<|
 .ite (.v 7) (
 .call 2 [⟨.list,(.v 3)⟩,⟨.str,(.v 4)⟩] [.str]<|
 .letp .eqS [⟨.str,(.v 5)⟩,⟨.str,(.v 8)⟩]<|
 .ret [⟨.bool,(.v 9)⟩])<|
 .letp .slen [⟨.str,(.v 4)⟩]<|
 .letp .gtI [⟨(.int .i64),(.v 8)⟩,⟨(.int .i64),(.n 580)⟩]<|
 .ite (.v 9) (
 .call 2 [⟨.list,(.v 3)⟩,⟨.str,(.v 4)⟩] [.str]<|
 .letp .eqS [⟨.str,(.v 5)⟩,⟨.str,(.v 10)⟩]<|
 .ret [⟨.bool,(.v 11)⟩])<|
 .letp .len [⟨.list,(.v 3)⟩]<|
 .letp .neI [⟨(.int .i64),(.v 10)⟩,⟨(.int .i64),(.n 3)⟩]<|
 .ite (.v 11) (
 .call 2 [⟨.list,(.v 3)⟩,⟨.str,(.v 4)⟩] [.str]<|
 .letp .eqS [⟨.str,(.v 5)⟩,⟨.str,(.v 12)⟩]<|
 .ret [⟨.bool,(.v 13)⟩])<|
 .chk .catOk [⟨.str,(.v 4)⟩,⟨.str,(.s ⟨#[99,97,108,109,10]⟩)⟩]<|
 .letp .cat [⟨.str,(.v 4)⟩,⟨.str,(.s ⟨#[99,97,108,109,10]⟩)⟩]<|
 .call 1 [⟨.list,(.v 3)⟩,⟨.str,(.v 12)⟩] [.str]<|
 .chk .catOk [⟨.str,(.v 4)⟩,⟨.str,(.s ⟨#[99,97,108,109,10,99,97,108,109,10]⟩)⟩]<|
 .letp .cat [⟨.str,(.v 4)⟩,⟨.str,(.s ⟨#[99,97,108,109,10,99,97,108,109,10]⟩)⟩]<|
 .call 1 [⟨.list,(.v 3)⟩,⟨.str,(.v 14)⟩] [.str]<|
 .letp .eqS [⟨.str,(.v 13)⟩,⟨.str,(.v 15)⟩]<|
 .ite (.v 16) (
 .letp .slen [⟨.str,(.v 13)⟩]<|
 .letp .gtI [⟨(.int .i64),(.v 17)⟩,⟨(.int .i64),(.n 5)⟩]<|
 .ret [⟨.bool,(.v 18)⟩])<|
 .ret [⟨.bool,(.b false)⟩]
noncomputable def Φ_az:Phi:=fun n=>match n with
 | 0=>ij
 | 1=>bD
 | 2=>eY
 | _=>fun _=>none
noncomputable def φ_az(cs:List C):Option (List C):=ai (den Φ_az t_az cs)
end Dx
namespace Dx
open Go
theorem law_LinesDouble{code:List Int}(hl:code.length ≤ 1099511627776)(hc:kl code):φ_az [.list (code.map eB)]=some [.bool true]:=by
 unfold φ_az t_az
 refine bB rfl rfl rfl hl hc fun rooms text hr=>?_
 have e1:Φ_az 1=bD:=rfl
 have e2:Φ_az 2=eY:=rfl
 have r3:=hr.len
 have tl:=hr.tl
 have p2:=fR (rooms:=rooms) (text:=text) (by omega) (by omega)
 by_cases h5:(text.length:Int)>580
 ·simp (disch:=first|assumption|omega|(simp only[zL];omega)) only[kT,iC,dK,bH,cy,bn,bv,bo,aR,bd,bu,aQ,aN,Cell.den,At.den,Prim.den,List.cons_append,List.nil_append,c9,bQ,CK.of,iB,gN,Bool.decide_eq_true,e2,p2,ak,h5,if_true,cm,Int.reduceEq,reduceIte,zU,zT,aa]
  simp
 by_cases h3:((rooms.length:Nat):Int)=3
 case neg =>
  simp (disch:=first|assumption|omega|(simp only[zL];omega)) only[kT,iC,dK,bH,cy,bn,bv,bo,aR,bd,bu,aQ,aN,Cell.den,At.den,Prim.den,List.cons_append,List.nil_append,c9,bQ,CK.of,iB,gN,Bool.decide_eq_true,e2,p2,ak,h5,h3,if_false,if_true,List.length_map,not_false_eq_true,Bool.not_false,cm,Int.reduceEq,reduceIte,zU,zT,aa]
  simp
 obtain⟨w,z,ho,I,_,hz,hu⟩:=hr.more (by omega) (by omega)
 have f:=Ei ho I
 have q1:=bY (rooms:=rooms) (text:=text++[99,97,108,109,10]) (by omega) (by simp;omega)
 have q2:=bY (rooms:=rooms) (text:=text++[99,97,108,109,10,99,97,108,109,10]) (by omega) (by simp;omega)
 rw[hu _ (by simp;omega)]at q1 q2
 have s1:bw w (aL 10 [99,97,108,109,10]).dropLast=(cH w 9,[]):=rfl
 have s2:bw w (aL 10 [99,97,108,109,10,99,97,108,109,10]).dropLast=(cH (cH w 9) 9,[]):=rfl
 rw[s1]at q1
 rw[s2,f.calm 9]at q2
 have hA:=fW (ho.calm 9)
 have hn:6 ≤ (ce (cH w 9)).length:=by
  simp only[ce,iR,ee,List.length_append,List.length_cons,List.length_nil]
  have h:=(ho.calm 9).len
  obtain⟨x,xs,e⟩:∃ x xs,(cH w 9).hs=x::xs:=by
   cases hx:(cH w 9).hs with
   | nil=>rw[hx]at h;cases h
   | cons x xs=>exact⟨x,xs,rfl⟩
  rw[e]
  simp
  omega
 have hg:(((z++lU (cH w 9,([]:List UInt8))).length:Nat):Int)>5:=by simp only[lU,List.length_append,List.length_nil];omega
 have hx:=hg
 generalize z++lU (cH w 9,([]:List UInt8))=y at *
 simp (disch:=first|assumption|omega|(simp only[zL];omega)) only[kT,iC,dK,bH,cy,bn,bv,bo,aR,bd,bu,aQ,aN,Cell.den,At.den,Prim.den,List.cons_append,List.nil_append,c9,bQ,CK.of,iB,gN,Bool.decide_eq_true,e1,q1,q2,aZ,aJ,ak,List.length_append,List.length_cons,List.length_nil,h5,h3,hg,if_false,List.length_map,Bool.not_true,decide_true,cm,Int.reduceEq,reduceIte,zU,zT,aa]
end Dx
namespace Dx
open Go Go.Proofs
def c_az:Con:=⟨[.own false [.val] [.list] false],[⟨false,[.val],[.bool],false⟩]⟩
theorem has_az:Has Tryz.prog 8 c_az φ_az:=fp (R:=[]) (tr:=false) (E:=[(14,0,uk),(15,1,sX),(16,2,sY)]) (Φ:=Φ_az) (t:=t_az) ⟨gW,gu,gv,trivial⟩ Tryz.f8 hE (by kernel_rfl)
end Dx
namespace Go.Proofs.YtnbhinpnmgbbhaaGreatDoor.fnLinesDouble
open Go.ChangeShapes Go.WideShapes Go.ChangeAt Go.RowKit Dx
set_option linter.unusedVariables false
set_option maxRecDepth 100000
theorem own:ownKnob Tryz.prog.godebug=none:=by kernel_rfl
theorem params:Tryz.f8.params=#[22]:=by kernel_rfl
theorem results:Tryz.f8.resultTypes=#[4]:=by kernel_rfl
theorem t22:Tryz.prog.underlying 22=some (.slice 5):=by kernel_rfl
theorem t5:Tryz.prog.underlying 5=some (.int .u8):=by kernel_rfl
theorem t4:Tryz.prog.underlying 4=some .bool:=by kernel_rfl
theorem c5:Tryz.prog.cellsOf 5=1:=by kernel_rfl
theorem func:Tryz.prog.funcs[8]?=some Tryz.f8:=by kernel_rfl
theorem contract(H:Type)(enc:TypeId×Value → H)(W:World)(base:Nat)(args:Array Value)(ds gs:List (DataW H))(before:List MemPlace)
  (hval:∀(j:Nat) t v,Tryz.f8.params[j]?=some t → args[j]?=some v → Value.okWide Tryz.prog W .any base t v)
  (hW:DataW.Whole enc Tryz.prog Tryz.f8.params.toList Rows.fnLinesDoubleSpec.vars false W args.toList ds gs before) :
  Calls Tryz.prog 8 args W fun e W'=>∃ v,e=.returned v ∧ Rows.fnLinesDoubleSpec.post enc Tryz.prog Tryz.f8 false true false false W args v W':=by
 have hW':=hW
 obtain⟨p,q,hA0,hV,rfl,hfz,hnd⟩:=hW
 have hA:DataW.TrodAll enc Tryz.prog W 0 (fun _=>true) true Tryz.f8.params.toList args.toList ds p:=hA0
 rw[params]at hA hval
 obtain⟨v0,vs0,d0,ds0,p0,q0,hargs,rfl,rfl,h0,r0⟩:=trodAll_cons hA
 obtain⟨rfl,rfl,rfl⟩:=trodAll_nil r0
 obtain rfl:args=#[v0]:=by cases args;simp_all
 obtain⟨rfl,rfl⟩:=trodVars_none hV
 obtain⟨code,hb,hrep,hd,hshut⟩:=cV t22 t5 c5 (hval 0 22 v0 rfl rfl) h0
 have hlaw:φ_az [.list (code.map cB)]=some [.bool true]:=by
  by_cases h:code.length ≤ 1048576
  ·exact law_LinesDouble (by omega) hb
  ·unfold φ_az t_az
   exact lP (by rw[List.length_map];omega)
 refine(cW (vs:=[v0]) has_az (by simp[eH]) ⟨[.list (code.map cB)],[],v0,[],[],[],rfl,rfl,rfl,fe hrep,rfl,rfl,rfl⟩ hlaw).mono ?_
 rintro e W' ⟨rfl,h1,h2,h3⟩
 refine⟨_,rfl,[d0],[],p0,[],p0,[],by simpa using hW',trodAll_cons_mk (shut_bool t4 _) trodAll_mk0,?_,rfl,eu h1 h2 h3 _,fun h=>by cases h⟩
 rw[params]
 have:=trodAll_cons_mk (hshut W' h3) (trodAll_mk0 (enc:=enc) (P:=Tryz.prog) (w:=W') (base:=0) (spare:=fun b=>decide (b<W.heap.size)) (held:=true))
 rw[List.append_nil]at this
 exact this
def inp:Input:=⟨#[],#[.slice none 0 0],[]⟩
set_option maxRecDepth 100000 in
theorem lifted(os:Os)(started:os.Started)(H:Type)(enc:TypeId×Value → H)(F:Stop.Interp) :
  ReturnsInHanded {} Tryz.checked os 8 .any ((OpenSpec.ofChange Rows.fnLinesDoubleSpec).preRow enc Tryz.prog Tryz.f8 Rows.fnLinesDoubleRow.domain false Rows.fnLinesDoubleRow.laid) (((OpenSpec.ofChange Rows.fnLinesDoubleSpec).at F).post enc Tryz.prog Tryz.f8 false true false false):=by
 have hok:Input.okWideB Tryz.prog ((World.laidAll Tryz.prog os Rows.fnLinesDoubleRow.laid).forCall (fun _ _=>0) inp) 8 inp=true:=by kernel_rfl
 refine returnsInHanded_of_row (C:=Tryz.checked) (s:=OpenSpec.ofChange Rows.fnLinesDoubleSpec) (laid:=Rows.fnLinesDoubleRow.laid) own started (by kernel_rfl) func
  ⟨World.laidAll Tryz.prog os Rows.fnLinesDoubleRow.laid,fun _ _=>0,inp,World.laidAll_os _ _ _,World.shaped_of_ZipB (by kernel_rfl) (by kernel_rfl),rfl,(Input.okWide_of_okWideB hok).2,
   OpenSpec.preRow_of_cond 8 (x:=([.nil],[],[])) (by kernel_rfl) rfl (fun k hk=>by cases hk) (by kernel_rfl) (by rw[MakeChecks.laidMetH_plain _ _ _ (by kernel_rfl)];exact laidMet_laidAll _ (by kernel_rfl) (by kernel_rfl)),by
    simp only[Assume.holds]
    exact⟨by simp,by simp,fun _=>Modest.zero,by simp,by simp⟩⟩ ?_
 intro W base args ds gs before hval hW _ _ _ _ _ _
 exact contract H enc W base args ds gs before hval hW
theorem nm:Tryz.prog.funcNamed "loop.example/concierge/laws.FnLinesDouble"=some 8:=by kernel_rfl
theorem jA:jfA Tryz.prog 8 Tryz.f8 (OpenSpec.ofChange Rows.fnLinesDoubleSpec).bare Rows.fnLinesDoubleRow=true:=by kernel_rfl
theorem jB:jfB Tryz.prog 8 Tryz.f8 (OpenSpec.ofChange Rows.fnLinesDoubleSpec).bare Rows.fnLinesDoubleRow=true:=by kernel_rfl
theorem mi:Tryz.prog.mainIs=some (true,"90b4ebd20bc5108c07d469a11527756e776b88e51ea502c6222d269f2ada4b91".toList):=by kernel_rfl
theorem gb:false=Rows.fnLinesDoubleRow.goesBy Tryz.prog:=by kernel_rfl
theorem proved:Rows.FnLinesDoubleSaid :=
 OpenClaim.holds_of_cond 8 Tryz.f8 rfl rfl rfl rfl rfl rfl rfl ⟨rfl,rfl,rfl,rfl,rfl⟩ rfl rfl rfl rfl rfl nm func (kq jA jB)
  (of_decide_eq_true (by kernel_rfl)) (by unfold Func.isWrapper;first|(rw[if_pos (by decide +kernel)];kernel_rfl)|(rw[if_neg (by decide +kernel)];exact⟨rfl,rfl⟩))
  (fun os started H enc _ F=>by rw[OpenClaim.pre_eq_preRow];exact lifted os started H enc F)
theorem card:Rows.FnLinesDoubleCardSaid :=
 Claim7.holds_tied_plain_at .later [] [.data,.data,.data,.data,.sentinel,.sentinel,.pinned] true (true,"90b4ebd20bc5108c07d469a11527756e776b88e51ea502c6222d269f2ada4b91") true
  proved (fun _ h=>by cases h) (by kernel_rfl) (fun _ h=>by cases h) fnLinesDouble_row_tie rfl ⟨rfl,rfl⟩ mi rfl
  (fun f fn hf hfn=>by
   obtain rfl:f=8:=Option.some.inj (nm.symm.trans hf) |>.symm
   obtain rfl:fn=Tryz.f8:=(Option.some.inj (func.symm.trans hfn)).symm
   exact⟨by kernel_rfl,fun j t ht=>by
    rw[params]at ht
    have hm:t∈[22]:=by simpa using Array.mem_of_getElem? ht
    have hall:([22].all fun u=>!Tryz.prog.wantsStandIn u)=true:=by kernel_rfl
    exact(show Tryz.prog.wantsStandIn t=false by simpa using List.all_eq_true.1 hall t hm)⟩)
  gb
#print axioms card
end Go.Proofs.YtnbhinpnmgbbhaaGreatDoor.fnLinesDouble
