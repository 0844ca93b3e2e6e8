/- PROVED: Rows.FnLinesQuietSaid, and the card (CardSaid): whatever the input, laws.FnLinesQuiet returns true, and its arguments read as they did. No condition beyond the statement's own. -/
import Derived.Test.YtnbhinpnmgbbhaaGreatDoorZb
import Derived.Test.YtnbhinpnmgbbhaaGreatDoorHa
import Derived.Test.YtnbhinpnmgbbhaaGreatDoorJa
import Derived.Test.YtnbhinpnmgbbhaaGreatDoorRows
import Derived.Test.YtnbhinpnmgbbhaaGreatDoorCards
import Derived.Test.YtnbhinpnmgbbhaaGreatDoorTie
import Derived.LaidMore
import Derived.Lay
import Derived.SevenTiedAt
import Derived.Stop.Joined
import Derived.Deep.DeepHandedRow
set_option linter.all false
namespace Dx
open Go Go.Proofs
def t_bc:Tree :=
 .letp .len [⟨.list,(.v 0)⟩]<|
 .letp .gtI [⟨(.int .i64),(.v 1)⟩,⟨(.int .i64),(.n 1048576)⟩]<|
 .ite (.v 2) (
 .ret [⟨.bool,(.b true)⟩])<|
 .call 0 [⟨.list,(.v 0)⟩] [.list,.str]<|
 .call 1 [⟨.list,(.v 3)⟩,⟨.str,(.v 4)⟩] [.str]<|
 .call 2 [⟨.list,(.v 3)⟩,⟨.str,(.v 4)⟩] [.str]<|
 .letp .neS [⟨.str,(.v 5)⟩,⟨.str,(.v 6)⟩]<|
 .ite (.v 7) (
 .call 2 [⟨.list,(.v 3)⟩,⟨.str,(.v 4)⟩] [.str]<|
 .letp .eqS [⟨.str,(.v 5)⟩,⟨.str,(.v 8)⟩]<|
 .ret [⟨.bool,(.v 9)⟩])<|
 .letp .slen [⟨.str,(.v 4)⟩]<|
 .letp .gtI [⟨(.int .i64),(.v 8)⟩,⟨(.int .i64),(.n 580)⟩]<|
 .ite (.v 9) (
 .call 2 [⟨.list,(.v 3)⟩,⟨.str,(.v 4)⟩] [.str]<|
 .letp .eqS [⟨.str,(.v 5)⟩,⟨.str,(.v 10)⟩]<|
 .ret [⟨.bool,(.v 11)⟩])<|
 .letp .len [⟨.list,(.v 3)⟩]<|
 .letp .neI [⟨(.int .i64),(.v 10)⟩,⟨(.int .i64),(.n 3)⟩]<|
 .ite (.v 11) (
 .call 2 [⟨.list,(.v 3)⟩,⟨.str,(.v 4)⟩] [.str]<|
 .letp .eqS [⟨.str,(.v 5)⟩,⟨.str,(.v 12)⟩]<|
 .ret [⟨.bool,(.v 13)⟩])<|
 .chk .catOk [⟨.str,(.v 4)⟩,⟨.str,(.s ⟨#[115,101,101,10]⟩)⟩]<|
 .letp .cat [⟨.str,(.v 4)⟩,⟨.str,(.s ⟨#[115,101,101,10]⟩)⟩]<|
 .call 1 [⟨.list,(.v 3)⟩,⟨.str,(.v 12)⟩] [.str]<|
 .chk .catOk [⟨.str,(.v 4)⟩,⟨.str,(.s ⟨#[119,104,97,116,10]⟩)⟩]<|
 .letp .cat [⟨.str,(.v 4)⟩,⟨.str,(.s ⟨#[119,104,97,116,10]⟩)⟩]<|
 .call 1 [⟨.list,(.v 3)⟩,⟨.str,(.v 14)⟩] [.str]<|
 .letp .slen [⟨.str,(.v 13)⟩]<|
 .letp .slen [⟨.str,(.v 5)⟩]<|
 .letp (.sub .i64) [⟨(.int .i64),(.v 16)⟩,⟨(.int .i64),(.v 17)⟩]<|
 .letp .gtI [⟨(.int .i64),(.v 18)⟩,⟨(.int .i64),(.n 0)⟩]<|
 .ite (.v 19) (
 .letp .slen [⟨.str,(.v 5)⟩]<|
 .letp .leI [⟨(.int .i64),(.v 18)⟩,⟨(.int .i64),(.v 20)⟩]<|
 .ite (.v 21) (
 .letp .slen [⟨.str,(.v 5)⟩]<|
 .chk .sfrom [⟨(.int .i64),(.v 22)⟩,⟨.str,(.v 13)⟩]<|
 .letp .dropS [⟨.str,(.v 13)⟩,⟨(.int .i64),(.v 22)⟩]<|
 .letp .slen [⟨.str,(.v 5)⟩]<|
 .letp (.sub .i64) [⟨(.int .i64),(.v 24)⟩,⟨(.int .i64),(.v 18)⟩]<|
 .chk .sfrom [⟨(.int .i64),(.v 25)⟩,⟨.str,(.v 5)⟩]<|
 .letp .dropS [⟨.str,(.v 5)⟩,⟨(.int .i64),(.v 25)⟩]<|
 .letp .eqS [⟨.str,(.v 23)⟩,⟨.str,(.v 26)⟩]<|
 .ite (.v 27) (
 .letp .slen [⟨.str,(.v 5)⟩]<|
 .chk .supto [⟨(.int .i64),(.n 0)⟩,⟨(.int .i64),(.v 28)⟩,⟨.str,(.v 13)⟩]<|
 .letp .sub3 [⟨.str,(.v 13)⟩,⟨(.int .i64),(.n 0)⟩,⟨(.int .i64),(.v 28)⟩]<|
 .letp .eqS [⟨.str,(.v 29)⟩,⟨.str,(.v 5)⟩]<|
 .ite (.v 30) (
 .letp .slen [⟨.str,(.v 15)⟩]<|
 .letp .slen [⟨.str,(.v 5)⟩]<|
 .letp (.add .i64) [⟨(.int .i64),(.v 32)⟩,⟨(.int .i64),(.n 5)⟩]<|
 .letp .eqI [⟨(.int .i64),(.v 31)⟩,⟨(.int .i64),(.v 33)⟩]<|
 .ret [⟨.bool,(.v 34)⟩])<|
 .ret [⟨.bool,(.b false)⟩])<|
 .ret [⟨.bool,(.b false)⟩])<|
 .ret [⟨.bool,(.b false)⟩])<|
 .ret [⟨.bool,(.b false)⟩]
noncomputable def Φ_bc:Phi:=fun n=>match n with
 | 0=>ij
 | 1=>bD
 | 2=>eY
 | _=>fun _=>none
noncomputable def φ_bc(cs:List C):Option (List C):=ai (den Φ_bc t_bc cs)
end Dx
namespace Dx
open Go
theorem law_LinesQuiet{code:List Int}(hl:code.length ≤ 1099511627776)(hc:kl code):φ_bc [.list (code.map eB)]=some [.bool true]:=by
 unfold φ_bc t_bc
 refine bB rfl rfl rfl hl hc fun rooms text hr=>?_
 have e1:Φ_bc 1=bD:=rfl
 have e2:Φ_bc 2=eY:=rfl
 have r3:=hr.len
 have tl:=hr.tl
 have p2:=fR (rooms:=rooms) (text:=text) (by omega) (by omega)
 by_cases h5:(text.length:Int)>580
 ·simp (disch:=first|assumption|omega|(simp only[zL];omega)) only[kT,iC,dK,bH,cy,bn,bv,bo,aR,bd,bu,aQ,aN,Cell.den,At.den,Prim.den,List.cons_append,List.nil_append,c9,bQ,CK.of,iB,gN,Bool.decide_eq_true,e2,p2,ak,h5,if_true,cm,Int.reduceEq,reduceIte,zU,zT,aa]
  simp
 by_cases h3:((rooms.length:Nat):Int)=3
 case neg =>
  simp (disch:=first|assumption|omega|(simp only[zL];omega)) only[kT,iC,dK,bH,cy,bn,bv,bo,aR,bd,bu,aQ,aN,Cell.den,At.den,Prim.den,List.cons_append,List.nil_append,c9,bQ,CK.of,iB,gN,Bool.decide_eq_true,e2,p2,ak,h5,h3,if_false,if_true,List.length_map,not_false_eq_true,Bool.not_false,cm,Int.reduceEq,reduceIte,zU,zT,aa]
  simp
 obtain⟨w,z,ho,I,_,hz,hu⟩:=hr.more (by omega) (by omega)
 have q1:=bY (rooms:=rooms) (text:=text++[115,101,101,10]) (by omega) (by simp;omega)
 have q2:=bY (rooms:=rooms) (text:=text++[119,104,97,116,10]) (by omega) (by simp;omega)
 rw[hu _ (by simp;omega)]at q1 q2
 have q0:=hu [] (by simp;omega)
 have s0:z++lU (bw w (aL 10 []).dropLast)=z++ce w:=rfl
 rw[List.append_nil,s0]at q0
 have s1:bw w (aL 10 [115,101,101,10]).dropLast=(w,ce w++[]):=rfl
 have s2:bw w (aL 10 [119,104,97,116,10]).dropLast=(w,wWhat):=rfl
 rw[s1]at q1
 rw[s2]at q2
 simp only[lU,List.append_nil]at q1 q2
 have hA:=fW ho
 have hp:1 ≤ (ce w).length:=by simp only[ce,iR,List.length_append,List.length_cons,List.length_nil];omega
 have hwl:wWhat.length=5:=rfl
 have hn:IntKind.wrap .i64 (((z++(ce w++ce w)).length:Int)-((z++ce w).length:Int))=((ce w).length:Int):=by
  simp only[List.length_append]
  rw[wrap64 (by omega) (by omega)];omega
 have hm:IntKind.wrap .i64 (((z++ce w).length:Int)-((ce w).length:Int))=(z.length:Int):=by
  simp only[List.length_append]
  rw[wrap64 (by omega) (by omega)];omega
 have h6:(((ce w).length:Nat):Int)>0:=by omega
 have h7:(((ce w).length:Nat):Int) ≤ ((z++ce w).length:Nat):=by simp only[List.length_append];omega
 have h8:IntKind.wrap .i64 (((z++ce w).length:Int)+5)=((z++(wWhat++ce w)).length:Int):=by
  simp only[List.length_append,hwl]
  rw[wrap64 (by omega) (by omega)];omega
 have x1:((z++(ce w++ce w)).take (z++(ce w++ce w)).length).drop (z++ce w).length=ce w:=by
  rw[List.take_length,← List.append_assoc];exact List.drop_left
 have x2:((z++ce w).take (z++ce w).length).drop z.length=ce w:=by
  rw[List.take_length];exact List.drop_left
 have x3:((z++(ce w++ce w)).take (z++ce w).length).drop 0=z++ce w:=by
  rw[List.drop_zero,← List.append_assoc];exact List.take_left
 have g1:0 ≤ ((z++ce w).length:Int):=by omega
 have g2:((z++ce w).length:Int) ≤ ((z++(ce w++ce w)).length:Nat):=by simp only[List.length_append];omega
 have g3:(z.length:Int) ≤ ((z++ce w).length:Nat):=by simp only[List.length_append];omega
 have g4:0 ≤ (z.length:Int):=by omega
 simp (disch:=first|assumption|omega|(simp only[zL];omega)) only[kT,iC,dK,bH,cy,bn,bv,bo,aR,bd,bu,aQ,aN,Cell.den,At.den,Prim.den,List.cons_append,List.nil_append,c9,bQ,CK.of,iB,gN,Bool.decide_eq_true,e1,q0,q1,q2,aZ,aJ,ak,h5,h3,if_false,List.length_map,Bool.not_true,cm,@List.length_append _ text,List.length_cons,List.length_nil,hn,hm,h6,h7,h8,if_true,decide_true,uj,Int.toNat_natCast,Int.toNat_zero,x1,x2,x3,g1,g2,g3,g4,Bool.and_self,Int.le_refl,Int.reduceEq,reduceIte,zU,zT,aa]
end Dx
namespace Dx
open Go Go.Proofs
def c_bc:Con:=⟨[.own false [.val] [.list] false],[⟨false,[.val],[.bool],false⟩]⟩
theorem has_bc:Has Tryz.prog 12 c_bc φ_bc:=fp (R:=[]) (tr:=false) (E:=[(14,0,uk),(15,1,sX),(16,2,sY)]) (Φ:=Φ_bc) (t:=t_bc) ⟨gW,gu,gv,trivial⟩ Tryz.f12 hE (by kernel_rfl)
end Dx
namespace Go.Proofs.YtnbhinpnmgbbhaaGreatDoor.fnLinesQuiet
open Go.ChangeShapes Go.WideShapes Go.ChangeAt Go.RowKit Dx
set_option linter.unusedVariables false
set_option maxRecDepth 100000
theorem own:ownKnob Tryz.prog.godebug=none:=by kernel_rfl
theorem params:Tryz.f12.params=#[22]:=by kernel_rfl
theorem results:Tryz.f12.resultTypes=#[4]:=by kernel_rfl
theorem t22:Tryz.prog.underlying 22=some (.slice 5):=by kernel_rfl
theorem t5:Tryz.prog.underlying 5=some (.int .u8):=by kernel_rfl
theorem t4:Tryz.prog.underlying 4=some .bool:=by kernel_rfl
theorem c5:Tryz.prog.cellsOf 5=1:=by kernel_rfl
theorem func:Tryz.prog.funcs[12]?=some Tryz.f12:=by kernel_rfl
theorem contract(H:Type)(enc:TypeId×Value → H)(W:World)(base:Nat)(args:Array Value)(ds gs:List (DataW H))(before:List MemPlace)
  (hval:∀(j:Nat) t v,Tryz.f12.params[j]?=some t → args[j]?=some v → Value.okWide Tryz.prog W .any base t v)
  (hW:DataW.Whole enc Tryz.prog Tryz.f12.params.toList Rows.fnLinesQuietSpec.vars false W args.toList ds gs before) :
  Calls Tryz.prog 12 args W fun e W'=>∃ v,e=.returned v ∧ Rows.fnLinesQuietSpec.post enc Tryz.prog Tryz.f12 false true false false W args v W':=by
 have hW':=hW
 obtain⟨p,q,hA0,hV,rfl,hfz,hnd⟩:=hW
 have hA:DataW.TrodAll enc Tryz.prog W 0 (fun _=>true) true Tryz.f12.params.toList args.toList ds p:=hA0
 rw[params]at hA hval
 obtain⟨v0,vs0,d0,ds0,p0,q0,hargs,rfl,rfl,h0,r0⟩:=trodAll_cons hA
 obtain⟨rfl,rfl,rfl⟩:=trodAll_nil r0
 obtain rfl:args=#[v0]:=by cases args;simp_all
 obtain⟨rfl,rfl⟩:=trodVars_none hV
 obtain⟨code,hb,hrep,hd,hshut⟩:=cV t22 t5 c5 (hval 0 22 v0 rfl rfl) h0
 have hlaw:φ_bc [.list (code.map cB)]=some [.bool true]:=by
  by_cases h:code.length ≤ 1048576
  ·exact law_LinesQuiet (by omega) hb
  ·unfold φ_bc t_bc
   exact lP (by rw[List.length_map];omega)
 refine(cW (vs:=[v0]) has_bc (by simp[eH]) ⟨[.list (code.map cB)],[],v0,[],[],[],rfl,rfl,rfl,fe hrep,rfl,rfl,rfl⟩ hlaw).mono ?_
 rintro e W' ⟨rfl,h1,h2,h3⟩
 refine⟨_,rfl,[d0],[],p0,[],p0,[],by simpa using hW',trodAll_cons_mk (shut_bool t4 _) trodAll_mk0,?_,rfl,eu h1 h2 h3 _,fun h=>by cases h⟩
 rw[params]
 have:=trodAll_cons_mk (hshut W' h3) (trodAll_mk0 (enc:=enc) (P:=Tryz.prog) (w:=W') (base:=0) (spare:=fun b=>decide (b<W.heap.size)) (held:=true))
 rw[List.append_nil]at this
 exact this
def inp:Input:=⟨#[],#[.slice none 0 0],[]⟩
set_option maxRecDepth 100000 in
theorem lifted(os:Os)(started:os.Started)(H:Type)(enc:TypeId×Value → H)(F:Stop.Interp) :
  ReturnsInHanded {} Tryz.checked os 12 .any ((OpenSpec.ofChange Rows.fnLinesQuietSpec).preRow enc Tryz.prog Tryz.f12 Rows.fnLinesQuietRow.domain false Rows.fnLinesQuietRow.laid) (((OpenSpec.ofChange Rows.fnLinesQuietSpec).at F).post enc Tryz.prog Tryz.f12 false true false false):=by
 have hok:Input.okWideB Tryz.prog ((World.laidAll Tryz.prog os Rows.fnLinesQuietRow.laid).forCall (fun _ _=>0) inp) 12 inp=true:=by kernel_rfl
 refine returnsInHanded_of_row (C:=Tryz.checked) (s:=OpenSpec.ofChange Rows.fnLinesQuietSpec) (laid:=Rows.fnLinesQuietRow.laid) own started (by kernel_rfl) func
  ⟨World.laidAll Tryz.prog os Rows.fnLinesQuietRow.laid,fun _ _=>0,inp,World.laidAll_os _ _ _,World.shaped_of_ZipB (by kernel_rfl) (by kernel_rfl),rfl,(Input.okWide_of_okWideB hok).2,
   OpenSpec.preRow_of_cond 8 (x:=([.nil],[],[])) (by kernel_rfl) rfl (fun k hk=>by cases hk) (by kernel_rfl) (by rw[MakeChecks.laidMetH_plain _ _ _ (by kernel_rfl)];exact laidMet_laidAll _ (by kernel_rfl) (by kernel_rfl)),by
    simp only[Assume.holds]
    exact⟨by simp,by simp,fun _=>Modest.zero,by simp,by simp⟩⟩ ?_
 intro W base args ds gs before hval hW _ _ _ _ _ _
 exact contract H enc W base args ds gs before hval hW
theorem nm:Tryz.prog.funcNamed "loop.example/concierge/laws.FnLinesQuiet"=some 12:=by kernel_rfl
theorem jA:jfA Tryz.prog 12 Tryz.f12 (OpenSpec.ofChange Rows.fnLinesQuietSpec).bare Rows.fnLinesQuietRow=true:=by kernel_rfl
theorem jB:jfB Tryz.prog 12 Tryz.f12 (OpenSpec.ofChange Rows.fnLinesQuietSpec).bare Rows.fnLinesQuietRow=true:=by kernel_rfl
theorem mi:Tryz.prog.mainIs=some (true,"90b4ebd20bc5108c07d469a11527756e776b88e51ea502c6222d269f2ada4b91".toList):=by kernel_rfl
theorem gb:false=Rows.fnLinesQuietRow.goesBy Tryz.prog:=by kernel_rfl
theorem proved:Rows.FnLinesQuietSaid :=
 OpenClaim.holds_of_cond 12 Tryz.f12 rfl rfl rfl rfl rfl rfl rfl ⟨rfl,rfl,rfl,rfl,rfl⟩ rfl rfl rfl rfl rfl nm func (kq jA jB)
  (of_decide_eq_true (by kernel_rfl)) (by unfold Func.isWrapper;first|(rw[if_pos (by decide +kernel)];kernel_rfl)|(rw[if_neg (by decide +kernel)];exact⟨rfl,rfl⟩))
  (fun os started H enc _ F=>by rw[OpenClaim.pre_eq_preRow];exact lifted os started H enc F)
theorem card:Rows.FnLinesQuietCardSaid :=
 Claim7.holds_tied_plain_at .later [] [.data,.data,.data,.data,.sentinel,.sentinel,.pinned] true (true,"90b4ebd20bc5108c07d469a11527756e776b88e51ea502c6222d269f2ada4b91") true
  proved (fun _ h=>by cases h) (by kernel_rfl) (fun _ h=>by cases h) fnLinesQuiet_row_tie rfl ⟨rfl,rfl⟩ mi rfl
  (fun f fn hf hfn=>by
   obtain rfl:f=12:=Option.some.inj (nm.symm.trans hf) |>.symm
   obtain rfl:fn=Tryz.f12:=(Option.some.inj (func.symm.trans hfn)).symm
   exact⟨by kernel_rfl,fun j t ht=>by
    rw[params]at ht
    have hm:t∈[22]:=by simpa using Array.mem_of_getElem? ht
    have hall:([22].all fun u=>!Tryz.prog.wantsStandIn u)=true:=by kernel_rfl
    exact(show Tryz.prog.wantsStandIn t=false by simpa using List.all_eq_true.1 hall t hm)⟩)
  gb
#print axioms card
end Go.Proofs.YtnbhinpnmgbbhaaGreatDoor.fnLinesQuiet
