/- PROVED: Rows.FnLinesFallSaid, and the card (CardSaid): whatever the input, laws.FnLinesFall returns true, and its arguments read as they did. No condition beyond the statement's own. -/
import Derived.Test.YtnbhinpnmgbbhaaGreatDoorZb
import Derived.Test.YtnbhinpnmgbbhaaGreatDoorHa
import Derived.Test.YtnbhinpnmgbbhaaGreatDoorJa
import Derived.Test.YtnbhinpnmgbbhaaGreatDoorRows
import Derived.Test.YtnbhinpnmgbbhaaGreatDoorCards
import Derived.Test.YtnbhinpnmgbbhaaGreatDoorTie
import Derived.LaidMore
import Derived.Lay
import Derived.SevenTiedAt
import Derived.Stop.Joined
import Derived.Deep.DeepHandedRow
set_option linter.all false
namespace Dx
open Go Go.Proofs
def t_bm:Tree :=
 .letp .len [⟨.list,(.v 0)⟩]<|
 .letp .gtI [⟨(.int .i64),(.v 1)⟩,⟨(.int .i64),(.n 1048576)⟩]<|
 .ite (.v 2) (
 .ret [⟨.bool,(.b true)⟩])<|
 .call 0 [⟨.list,(.v 0)⟩] [.list,.str]<|
 .call 1 [⟨.list,(.v 3)⟩,⟨.str,(.v 4)⟩] [.str]<|
 .call 2 [⟨.list,(.v 3)⟩,⟨.str,(.v 4)⟩] [.str]<|
 .letp .neS [⟨.str,(.v 5)⟩,⟨.str,(.v 6)⟩]<|
 .ite (.v 7) (
 .ret [⟨.bool,(.b false)⟩])<|
 .letp (.mkl 1) [⟨(.int .i64),(.n 1)⟩,⟨(.int .i64),(.n 1)⟩,⟨(.int .i64),(.n 1)⟩]<|
 .call 1 [⟨.list,(.v 8)⟩,⟨.str,(.s ⟨#[98,101,103,105,110,32,49,32,49,32,49,10,102,97,108,108,32,48,10]⟩)⟩] [.str]<|
 .letp .eqS [⟨.str,(.v 9)⟩,⟨.str,(.s ⟨#[102,114,101,101,32,49,32,49,32,49,10]⟩)⟩]<|
 .ite (.v 10) (
 .call 1 [⟨.list,(.v 8)⟩,⟨.str,(.s ⟨#[98,101,103,105,110,32,49,32,48,32,48,10,102,111,114,99,101,32,48,10,115,97,121,32,48,10,98,114,105,110,103,32,48,10,102,97,108,108,32,49,10]⟩)⟩] [.str]<|
 .letp .eqS [⟨.str,(.v 11)⟩,⟨.str,(.s ⟨#[49,32,97,115,107,101,100,32,45,32,45,32,45,10,102,114,101,101,32,49,32,49,32,49,10]⟩)⟩]<|
 .ite (.v 12) (
 .call 1 [⟨.list,(.v 8)⟩,⟨.str,(.s ⟨#[98,101,103,105,110,32,49,32,48,32,48,10,102,111,114,99,101,32,48,10,115,97,121,32,48,10,98,114,105,110,103,32,48,10,102,97,108,108,32,49,10,99,97,108,109,10]⟩)⟩] [.str]<|
 .letp .eqS [⟨.str,(.v 13)⟩,⟨.str,(.s ⟨#[49,32,107,101,112,116,32,99,108,111,115,101,100,32,45,32,45,10,102,114,101,101,32,48,32,49,32,49,10]⟩)⟩]<|
 .ret [⟨.bool,(.v 14)⟩])<|
 .ret [⟨.bool,(.b false)⟩])<|
 .ret [⟨.bool,(.b false)⟩]
noncomputable def Φ_bm:Phi:=fun n=>match n with
 | 0=>ij
 | 1=>bD
 | 2=>eY
 | _=>fun _=>none
noncomputable def φ_bm(cs:List C):Option (List C):=ai (den Φ_bm t_bm cs)
end Dx
namespace Dx
open Go
theorem law_LinesFall{code:List Int}(hl:code.length ≤ 1099511627776)(hc:kl code):φ_bm [.list (code.map eB)]=some [.bool true]:=by
 unfold φ_bm t_bm
 refine bB rfl rfl rfl hl hc fun rooms text hr=>?_
 have e1:Φ_bm 1=bD:=rfl
 have r0:bD [.list [[.int .i64 1],[.int .i64 1],[.int .i64 1]],.str (mkB [98,101,103,105,110,32,49,32,49,32,49,10,102,97,108,108,32,48,10])]=_:=dC (rooms:=[1,1,1]) (out:=[102,114,101,101,32,49,32,49,32,49,10]) (by decide) (by decide) (by decide +kernel)
 have r1:bD [.list [[.int .i64 1],[.int .i64 1],[.int .i64 1]],.str (mkB [98,101,103,105,110,32,49,32,48,32,48,10,102,111,114,99,101,32,48,10,115,97,121,32,48,10,98,114,105,110,103,32,48,10,102,97,108,108,32,49,10])]=_:=dC (rooms:=[1,1,1]) (out:=[49,32,97,115,107,101,100,32,45,32,45,32,45,10,102,114,101,101,32,49,32,49,32,49,10]) (by decide) (by decide) (by decide +kernel)
 have r2:bD [.list [[.int .i64 1],[.int .i64 1],[.int .i64 1]],.str (mkB [98,101,103,105,110,32,49,32,48,32,48,10,102,111,114,99,101,32,48,10,115,97,121,32,48,10,98,114,105,110,103,32,48,10,102,97,108,108,32,49,10,99,97,108,109,10])]=_:=dC (rooms:=[1,1,1]) (out:=[49,32,107,101,112,116,32,99,108,111,115,101,100,32,45,32,45,10,102,114,101,101,32,48,32,49,32,49,10]) (by decide) (by decide) (by decide +kernel)
 simp (disch:=first|assumption|omega|(simp only[zL];omega)) only[kT,iC,dK,bH,cy,bn,bv,bo,aR,bd,bu,aQ,aN,Cell.den,At.den,Prim.den,List.cons_append,List.nil_append,c9,bQ,CK.of,iB,gN,Bool.decide_eq_true,e1,aZ,aJ,ak,aA,aO,cm,List.cons_append,List.nil_append,List.append_assoc,gi,List.take_succ_cons,List.take_zero,List.drop_succ_cons,List.drop_zero,List.length_cons,List.length_nil,Nat.reduceAdd,Nat.reduceDiv,r0,r1,r2,decide_true,Int.reduceEq,reduceIte,zU,zT,aa]
 try rfl
end Dx
namespace Dx
open Go Go.Proofs
def c_bm:Con:=⟨[.own false [.val] [.list] false],[⟨false,[.val],[.bool],false⟩]⟩
theorem has_bm:Has Tryz.prog 9 c_bm φ_bm:=fp (R:=[]) (tr:=false) (E:=[(14,0,uk),(15,1,sX),(16,2,sY)]) (Φ:=Φ_bm) (t:=t_bm) ⟨gW,gu,gv,trivial⟩ Tryz.f9 hE (by kernel_rfl)
end Dx
namespace Go.Proofs.YtnbhinpnmgbbhaaGreatDoor.fnLinesFall
open Go.ChangeShapes Go.WideShapes Go.ChangeAt Go.RowKit Dx
set_option linter.unusedVariables false
set_option maxRecDepth 100000
theorem own:ownKnob Tryz.prog.godebug=none:=by kernel_rfl
theorem params:Tryz.f9.params=#[22]:=by kernel_rfl
theorem results:Tryz.f9.resultTypes=#[4]:=by kernel_rfl
theorem t22:Tryz.prog.underlying 22=some (.slice 5):=by kernel_rfl
theorem t5:Tryz.prog.underlying 5=some (.int .u8):=by kernel_rfl
theorem t4:Tryz.prog.underlying 4=some .bool:=by kernel_rfl
theorem c5:Tryz.prog.cellsOf 5=1:=by kernel_rfl
theorem func:Tryz.prog.funcs[9]?=some Tryz.f9:=by kernel_rfl
theorem contract(H:Type)(enc:TypeId×Value → H)(W:World)(base:Nat)(args:Array Value)(ds gs:List (DataW H))(before:List MemPlace)
  (hval:∀(j:Nat) t v,Tryz.f9.params[j]?=some t → args[j]?=some v → Value.okWide Tryz.prog W .any base t v)
  (hW:DataW.Whole enc Tryz.prog Tryz.f9.params.toList Rows.fnLinesFallSpec.vars false W args.toList ds gs before) :
  Calls Tryz.prog 9 args W fun e W'=>∃ v,e=.returned v ∧ Rows.fnLinesFallSpec.post enc Tryz.prog Tryz.f9 false true false false W args v W':=by
 have hW':=hW
 obtain⟨p,q,hA0,hV,rfl,hfz,hnd⟩:=hW
 have hA:DataW.TrodAll enc Tryz.prog W 0 (fun _=>true) true Tryz.f9.params.toList args.toList ds p:=hA0
 rw[params]at hA hval
 obtain⟨v0,vs0,d0,ds0,p0,q0,hargs,rfl,rfl,h0,r0⟩:=trodAll_cons hA
 obtain⟨rfl,rfl,rfl⟩:=trodAll_nil r0
 obtain rfl:args=#[v0]:=by cases args;simp_all
 obtain⟨rfl,rfl⟩:=trodVars_none hV
 obtain⟨code,hb,hrep,hd,hshut⟩:=cV t22 t5 c5 (hval 0 22 v0 rfl rfl) h0
 have hlaw:φ_bm [.list (code.map cB)]=some [.bool true]:=by
  by_cases h:code.length ≤ 1048576
  ·exact law_LinesFall (by omega) hb
  ·unfold φ_bm t_bm
   exact lP (by rw[List.length_map];omega)
 refine(cW (vs:=[v0]) has_bm (by simp[eH]) ⟨[.list (code.map cB)],[],v0,[],[],[],rfl,rfl,rfl,fe hrep,rfl,rfl,rfl⟩ hlaw).mono ?_
 rintro e W' ⟨rfl,h1,h2,h3⟩
 refine⟨_,rfl,[d0],[],p0,[],p0,[],by simpa using hW',trodAll_cons_mk (shut_bool t4 _) trodAll_mk0,?_,rfl,eu h1 h2 h3 _,fun h=>by cases h⟩
 rw[params]
 have:=trodAll_cons_mk (hshut W' h3) (trodAll_mk0 (enc:=enc) (P:=Tryz.prog) (w:=W') (base:=0) (spare:=fun b=>decide (b<W.heap.size)) (held:=true))
 rw[List.append_nil]at this
 exact this
def inp:Input:=⟨#[],#[.slice none 0 0],[]⟩
set_option maxRecDepth 100000 in
theorem lifted(os:Os)(started:os.Started)(H:Type)(enc:TypeId×Value → H)(F:Stop.Interp) :
  ReturnsInHanded {} Tryz.checked os 9 .any ((OpenSpec.ofChange Rows.fnLinesFallSpec).preRow enc Tryz.prog Tryz.f9 Rows.fnLinesFallRow.domain false Rows.fnLinesFallRow.laid) (((OpenSpec.ofChange Rows.fnLinesFallSpec).at F).post enc Tryz.prog Tryz.f9 false true false false):=by
 have hok:Input.okWideB Tryz.prog ((World.laidAll Tryz.prog os Rows.fnLinesFallRow.laid).forCall (fun _ _=>0) inp) 9 inp=true:=by kernel_rfl
 refine returnsInHanded_of_row (C:=Tryz.checked) (s:=OpenSpec.ofChange Rows.fnLinesFallSpec) (laid:=Rows.fnLinesFallRow.laid) own started (by kernel_rfl) func
  ⟨World.laidAll Tryz.prog os Rows.fnLinesFallRow.laid,fun _ _=>0,inp,World.laidAll_os _ _ _,World.shaped_of_ZipB (by kernel_rfl) (by kernel_rfl),rfl,(Input.okWide_of_okWideB hok).2,
   OpenSpec.preRow_of_cond 8 (x:=([.nil],[],[])) (by kernel_rfl) rfl (fun k hk=>by cases hk) (by kernel_rfl) (by rw[MakeChecks.laidMetH_plain _ _ _ (by kernel_rfl)];exact laidMet_laidAll _ (by kernel_rfl) (by kernel_rfl)),by
    simp only[Assume.holds]
    exact⟨by simp,by simp,fun _=>Modest.zero,by simp,by simp⟩⟩ ?_
 intro W base args ds gs before hval hW _ _ _ _ _ _
 exact contract H enc W base args ds gs before hval hW
theorem nm:Tryz.prog.funcNamed "loop.example/concierge/laws.FnLinesFall"=some 9:=by kernel_rfl
theorem jA:jfA Tryz.prog 9 Tryz.f9 (OpenSpec.ofChange Rows.fnLinesFallSpec).bare Rows.fnLinesFallRow=true:=by kernel_rfl
theorem jB:jfB Tryz.prog 9 Tryz.f9 (OpenSpec.ofChange Rows.fnLinesFallSpec).bare Rows.fnLinesFallRow=true:=by kernel_rfl
theorem mi:Tryz.prog.mainIs=some (true,"90b4ebd20bc5108c07d469a11527756e776b88e51ea502c6222d269f2ada4b91".toList):=by kernel_rfl
theorem gb:false=Rows.fnLinesFallRow.goesBy Tryz.prog:=by kernel_rfl
theorem proved:Rows.FnLinesFallSaid :=
 OpenClaim.holds_of_cond 9 Tryz.f9 rfl rfl rfl rfl rfl rfl rfl ⟨rfl,rfl,rfl,rfl,rfl⟩ rfl rfl rfl rfl rfl nm func (kq jA jB)
  (of_decide_eq_true (by kernel_rfl)) (by unfold Func.isWrapper;first|(rw[if_pos (by decide +kernel)];kernel_rfl)|(rw[if_neg (by decide +kernel)];exact⟨rfl,rfl⟩))
  (fun os started H enc _ F=>by rw[OpenClaim.pre_eq_preRow];exact lifted os started H enc F)
theorem card:Rows.FnLinesFallCardSaid :=
 Claim7.holds_tied_plain_at .later [] [.data,.data,.data,.data,.sentinel,.sentinel,.pinned] true (true,"90b4ebd20bc5108c07d469a11527756e776b88e51ea502c6222d269f2ada4b91") true
  proved (fun _ h=>by cases h) (by kernel_rfl) (fun _ h=>by cases h) fnLinesFall_row_tie rfl ⟨rfl,rfl⟩ mi rfl
  (fun f fn hf hfn=>by
   obtain rfl:f=9:=Option.some.inj (nm.symm.trans hf) |>.symm
   obtain rfl:fn=Tryz.f9:=(Option.some.inj (func.symm.trans hfn)).symm
   exact⟨by kernel_rfl,fun j t ht=>by
    rw[params]at ht
    have hm:t∈[22]:=by simpa using Array.mem_of_getElem? ht
    have hall:([22].all fun u=>!Tryz.prog.wantsStandIn u)=true:=by kernel_rfl
    exact(show Tryz.prog.wantsStandIn t=false by simpa using List.all_eq_true.1 hall t hm)⟩)
  gb
#print axioms card
end Go.Proofs.YtnbhinpnmgbbhaaGreatDoor.fnLinesFall
