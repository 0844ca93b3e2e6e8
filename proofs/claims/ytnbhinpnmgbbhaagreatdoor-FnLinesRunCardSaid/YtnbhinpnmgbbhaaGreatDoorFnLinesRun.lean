/- PROVED: Rows.FnLinesRunSaid, and the card (CardSaid): whatever the input, laws.FnLinesRun returns true, and its arguments read as they did. No condition beyond the statement's own. -/
import Derived.Test.YtnbhinpnmgbbhaaGreatDoorZb
import Derived.Test.YtnbhinpnmgbbhaaGreatDoorHa
import Derived.Test.YtnbhinpnmgbbhaaGreatDoorJa
import Derived.Test.YtnbhinpnmgbbhaaGreatDoorRows
import Derived.Test.YtnbhinpnmgbbhaaGreatDoorCards
import Derived.Test.YtnbhinpnmgbbhaaGreatDoorTie
import Derived.LaidMore
import Derived.Lay
import Derived.SevenTiedAt
import Derived.Stop.Joined
import Derived.Deep.DeepHandedRow
set_option linter.all false
namespace Dx
open Go Go.Proofs
def t_br:Tree :=
 .letp .len [⟨.list,(.v 0)⟩]<|
 .letp .gtI [⟨(.int .i64),(.v 1)⟩,⟨(.int .i64),(.n 1048576)⟩]<|
 .ite (.v 2) (
 .ret [⟨.bool,(.b true)⟩])<|
 .call 0 [⟨.list,(.v 0)⟩] [.list,.str]<|
 .call 1 [⟨.list,(.v 3)⟩,⟨.str,(.v 4)⟩] [.str]<|
 .call 2 [⟨.list,(.v 3)⟩,⟨.str,(.v 4)⟩] [.str]<|
 .letp .neS [⟨.str,(.v 5)⟩,⟨.str,(.v 6)⟩]<|
 .ite (.v 7) (
 .ret [⟨.bool,(.b false)⟩])<|
 .letp .len [⟨.list,(.v 3)⟩]<|
 .letp .neI [⟨(.int .i64),(.v 8)⟩,⟨(.int .i64),(.n 3)⟩]<|
 .ite (.v 9) (
 .letp .eqS [⟨.str,(.v 5)⟩,⟨.str,(.s ⟨#[110,111,32,119,111,114,108,100,10]⟩)⟩]<|
 .ret [⟨.bool,(.v 10)⟩])<|
 .letp .slen [⟨.str,(.v 4)⟩]<|
 .letp .gtI [⟨(.int .i64),(.v 10)⟩,⟨(.int .i64),(.n 600)⟩]<|
 .ite (.v 11) (
 .letp .eqS [⟨.str,(.v 5)⟩,⟨.str,(.s ⟨#[116,111,111,32,108,111,110,103,10]⟩)⟩]<|
 .ret [⟨.bool,(.v 12)⟩])<|
 .letp .slen [⟨.str,(.v 5)⟩]<|
 .letp (.sub .i64) [⟨(.int .i64),(.v 12)⟩,⟨(.int .i64),(.n 1)⟩]<|
 .iter [⟨(.int .i64),(.v 13)⟩]<|
 .letp .gtI [⟨(.int .i64),(.v 14)⟩,⟨(.int .i64),(.n 0)⟩]<|
 .ite (.v 15) (
 .letp (.sub .i64) [⟨(.int .i64),(.v 14)⟩,⟨(.int .i64),(.n 1)⟩]<|
 .chk .sidx [⟨(.int .i64),(.v 16)⟩,⟨.str,(.v 5)⟩]<|
 .letp .byteAt [⟨.str,(.v 5)⟩,⟨(.int .i64),(.v 16)⟩]<|
 .letp .neI [⟨(.int .u8),(.v 17)⟩,⟨(.int .u8),(.n 10)⟩]<|
 .ite (.v 18) (
 .letp (.sub .i64) [⟨(.int .i64),(.v 14)⟩,⟨(.int .i64),(.n 1)⟩]<|
 .jump [⟨(.int .i64),(.v 19)⟩])<|
 .up<|
 .letp .slen [⟨.str,(.v 5)⟩]<|
 .letp .gtI [⟨(.int .i64),(.v 19)⟩,⟨(.int .i64),(.n 5)⟩]<|
 .ite (.v 20) (
 .letp .slen [⟨.str,(.v 5)⟩]<|
 .letp (.sub .i64) [⟨(.int .i64),(.v 21)⟩,⟨(.int .i64),(.n 1)⟩]<|
 .chk .sidx [⟨(.int .i64),(.v 22)⟩,⟨.str,(.v 5)⟩]<|
 .letp .byteAt [⟨.str,(.v 5)⟩,⟨(.int .i64),(.v 22)⟩]<|
 .letp .eqI [⟨(.int .u8),(.v 23)⟩,⟨(.int .u8),(.n 10)⟩]<|
 .ite (.v 24) (
 .letp (.add .i64) [⟨(.int .i64),(.v 14)⟩,⟨(.int .i64),(.n 4)⟩]<|
 .chk .supto [⟨(.int .i64),(.v 14)⟩,⟨(.int .i64),(.v 25)⟩,⟨.str,(.v 5)⟩]<|
 .letp .sub3 [⟨.str,(.v 5)⟩,⟨(.int .i64),(.v 14)⟩,⟨(.int .i64),(.v 25)⟩]<|
 .letp .eqS [⟨.str,(.v 26)⟩,⟨.str,(.s ⟨#[102,114,101,101]⟩)⟩]<|
 .ret [⟨.bool,(.v 27)⟩])<|
 .ret [⟨.bool,(.b false)⟩])<|
 .ret [⟨.bool,(.b false)⟩])<|
 .up<|
 .letp .slen [⟨.str,(.v 5)⟩]<|
 .letp .gtI [⟨(.int .i64),(.v 16)⟩,⟨(.int .i64),(.n 5)⟩]<|
 .ite (.v 17) (
 .letp .slen [⟨.str,(.v 5)⟩]<|
 .letp (.sub .i64) [⟨(.int .i64),(.v 18)⟩,⟨(.int .i64),(.n 1)⟩]<|
 .chk .sidx [⟨(.int .i64),(.v 19)⟩,⟨.str,(.v 5)⟩]<|
 .letp .byteAt [⟨.str,(.v 5)⟩,⟨(.int .i64),(.v 19)⟩]<|
 .letp .eqI [⟨(.int .u8),(.v 20)⟩,⟨(.int .u8),(.n 10)⟩]<|
 .ite (.v 21) (
 .letp (.add .i64) [⟨(.int .i64),(.v 14)⟩,⟨(.int .i64),(.n 4)⟩]<|
 .chk .supto [⟨(.int .i64),(.v 14)⟩,⟨(.int .i64),(.v 22)⟩,⟨.str,(.v 5)⟩]<|
 .letp .sub3 [⟨.str,(.v 5)⟩,⟨(.int .i64),(.v 14)⟩,⟨(.int .i64),(.v 22)⟩]<|
 .letp .eqS [⟨.str,(.v 23)⟩,⟨.str,(.s ⟨#[102,114,101,101]⟩)⟩]<|
 .ret [⟨.bool,(.v 24)⟩])<|
 .ret [⟨.bool,(.b false)⟩])<|
 .ret [⟨.bool,(.b false)⟩]
noncomputable def Φ_br:Phi:=fun n=>match n with
 | 0=>ij
 | 1=>bD
 | 2=>eY
 | _=>fun _=>none
noncomputable def φ_br(cs:List C):Option (List C):=ai (den Φ_br t_br cs)
end Dx
namespace Dx
open Go
theorem getD_mid{a:List UInt8}{x:UInt8}{b:List UInt8}{i:Nat}(h:i=a.length):(a++x::b).getD i 0=x:=by subst h;simp[List.getD]
theorem law_LinesRun{code:List Int}(hl:code.length ≤ 1099511627776)(hc:kl code):φ_br [.list (code.map eB)]=some [.bool true]:=by
 unfold φ_br t_br
 refine bB rfl rfl rfl hl hc fun rooms text hr=>?_
 have r3:=hr.len
 have tl:=hr.tl
 by_cases h3:((rooms.length:Nat):Int)=3
 case neg =>
  rw[hr.no (by omega)]
  simp (disch:=first|assumption|omega|(simp only[zL];omega)) only[kT,iC,dK,bH,cy,bn,bv,bo,aR,bd,bu,aQ,aN,Cell.den,At.den,Prim.den,List.cons_append,List.nil_append,c9,bQ,CK.of,iB,gN,Bool.decide_eq_true,h3,if_false,if_true,List.length_map,not_false_eq_true,Bool.not_false,aZ,lT,decide_true,Int.reduceEq,reduceIte,zU,zT,aa]
 by_cases h6:(text.length:Int)>600
 ·rw[hr.long (by omega) (by omega)]
  simp (disch:=first|assumption|omega|(simp only[zL];omega)) only[kT,iC,dK,bH,cy,bn,bv,bo,aR,bd,bu,aQ,aN,Cell.den,At.den,Prim.den,List.cons_append,List.nil_append,c9,bQ,CK.of,iB,gN,Bool.decide_eq_true,h3,h6,if_false,if_true,List.length_map,Bool.not_true,decide_true,ak,aZ,pa,Int.reduceEq,reduceIte,zU,zT,aa]
 obtain⟨w,z,ho,I,hz1,hz,hu⟩:=hr.more (by omega) (by omega)
 have q0:=hu [] (by simp;omega)
 have s0:z++lU (bw w (aL 10 []).dropLast)=z++ce w:=rfl
 rw[List.append_nil,s0]at q0
 rw[q0]
 have hA:=fW ho
 obtain⟨y,hy⟩:∃ y,y=z++eE w 1 (aj w.dk false):=⟨_,rfl⟩
 have ye:TOk y:=by rw[hy];exact hz1.app (pe w _ 1)
 obtain⟨f,hf⟩:∃ f,f=[101,101]++ee w.hs:=⟨_,rfl⟩
 have hfn:∀ b∈([102,114]++f:List UInt8),b≠10:=by
  intro b hb
  rw[hf]at hb
  simp only[List.mem_append,List.mem_cons,List.mem_nil_iff,or_false]at hb
  rcases hb with (rfl|rfl)|(rfl|rfl)|hb
  ·decide
  ·decide
  ·decide
  ·decide
  ·exact Dr ho b hb
 have hs:z++ce w=y++([102,114]++(f++[10])):=by
  rw[hy,hf];simp[ce,iR]
 have hlen:(z++ce w).length=y.length+f.length+3:=by rw[hs];simp only[List.length_append,List.length_cons,List.length_nil];omega
 have hbig:(z++ce w).length ≤ 300200:=by rw[List.length_append];omega
 have hf4:3 ≤ f.length:=by
  rw[hf]
  have h:=ho.len
  obtain⟨x,xs,e⟩:∃ x xs,w.hs=x::xs:=by
   cases hx:w.hs with
   | nil=>rw[hx]at h;cases h
   | cons x xs=>exact⟨x,xs,rfl⟩
  rw[e];simp[ee]
 have x1:((z++ce w).take (y.length+4)).drop y.length=[102,114,101,101]:=by
  rw[hs,hf,List.take_length_add_append,List.drop_left];rfl
 have x2:(z++ce w).getD ((z++ce w).length-1) 0=10:=by
  have e:z++ce w=(y++([102,114]++f))++10::[]:=by rw[hs];simp
  rw[e]
  refine getD_mid ?_
  simp
 have x3:∀ j:Nat,y.length ≤ j → j+1<(z++ce w).length → (z++ce w).getD j 0≠10:=by
  intro j h1 h2
  have e:z++ce w=y++(([102,114]++f)++[10]):=by rw[hs];simp
  have e2:(z++ce w).getD j 0=([102,114]++f).getD (j-y.length) 0:=by
   rw[e]
   unfold List.getD
   rw[List.getElem?_append_right h1,List.getElem?_append_left (by simp only[List.length_append,List.length_cons,List.length_nil];omega)]
  rw[e2]
  refine hfn _ ?_
  unfold List.getD
  rw[List.getElem?_eq_getElem (by simp only[List.length_append,List.length_cons,List.length_nil];omega)]
  exact List.getElem_mem _
 have x4:y.length≠0 → (z++ce w).getD (y.length-1) 0=10:=by
  intro h
  rcases ye with rfl|⟨a,rfl⟩
  ·exact absurd rfl h
  ·rw[hs,List.append_assoc]
   exact getD_mid (by simp)
 generalize z++ce w=s at *
 clear q0 hu hs hz s0 hA
 have w1:IntKind.wrap .i64 ((s.length:Int)-1)=((s.length-1:Nat):Int):=by rw[wrap64 (by omega) (by omega)];omega
 have w2:IntKind.wrap .i64 ((y.length:Int)+4)=((y.length+4:Nat):Int):=by rw[wrap64 (by omega) (by omega)];omega
 have g1:(0:Int) ≤ ((s.length-1:Nat):Int):=by omega
 have g2:((s.length-1:Nat):Int)<(s.length:Nat):=by omega
 have g3:(0:Int) ≤ (y.length:Nat):=by omega
 have g4:((y.length:Nat):Int) ≤ ((y.length+4:Nat):Int):=by omega
 have g5:((y.length+4:Nat):Int) ≤ (s.length:Nat):=by omega
 have g6:((s.length:Nat):Int)>5:=by omega
 have e10:(((10:UInt8).toNat:Nat):Int)=10:=rfl
 simp (disch:=first|assumption|omega|(simp only[zL];omega)) only[kT,aR,bd,aN,Cell.den,At.den,Prim.den,List.cons_append,List.nil_append,gN,h3,h6,if_false,decide_true,List.length_map,Bool.not_true,ak,w1,Int.reduceEq,reduceIte,zU,zT,aa]
 rw[qb]
 refine BU (I:=fun n ps=>ps=[.int .i64 ((y.length+n:Nat):Int)] ∧ y.length+n+1 ≤ s.length) (o:=.ret [.bool true]) (s.length-1-y.length) ⟨?_,by omega⟩ ?_ rfl
 ·simp only[aN,Cell.den,At.den,List.cons_append,List.nil_append,aa,C.toInt_int]
  rw[show y.length+(s.length-1-y.length)=s.length-1 by omega]
 rintro n ps ⟨rfl,hn⟩
 have w3:IntKind.wrap .i64 (((y.length+n:Nat):Int)-1)=((y.length+n:Nat):Int)-1:=wrap64 (by omega) (by omega)
 by_cases hn0:n=0
 ·subst hn0
  refine .inr ?_
  have w3:y.length≠0 → IntKind.wrap .i64 (((y.length:Nat):Int)-1)=((y.length:Nat):Int)-1:=fun h=>wrap64 (by omega) (by omega)
  by_cases hy0:y.length=0
  ·have h0:¬ (((y.length:Nat):Int)>0):=by omega
   simp (disch:=first|assumption|omega|(simp only[zL];omega)) only[iC,dK,bH,cy,bn,bv,bo,aR,bd,bu,aQ,aN,Cell.den,At.den,Prim.den,List.cons_append,List.nil_append,c9,bQ,CK.of,iB,gN,Bool.decide_eq_true,h0,if_false,aZ,ak,g6,if_true,w1,g1,g2,decide_true,Bool.and_self,aA,Int.toNat_natCast,x2,e10,Nat.add_zero,w2,g3,g4,g5,uj,x1,Int.reduceEq,reduceIte,zU,zT,aa]
  ·have h0:((y.length:Nat):Int)>0:=by omega
   have h1:0 ≤ ((y.length:Nat):Int)-1:=by omega
   have h2:((y.length:Nat):Int)-1<(s.length:Nat):=by omega
   have h3:(((y.length:Nat):Int)-1).toNat=y.length-1:=by omega
   have h4:=x4 hy0
   have w3:=w3 hy0
   simp (disch:=first|assumption|omega|(simp only[zL];omega)) only[iC,dK,bH,cy,bn,bv,bo,aR,bd,bu,aQ,aN,Cell.den,At.den,Prim.den,List.cons_append,List.nil_append,c9,bQ,CK.of,iB,gN,Bool.decide_eq_true,h0,if_true,w3,h1,h2,aZ,ak,aA,h3,h4,e10,Bool.not_true,g6,w1,g1,g2,decide_true,Bool.and_self,Int.toNat_natCast,x2,Nat.add_zero,w2,g3,g4,g5,uj,x1,Int.reduceEq,reduceIte,zU,zT,aa]
 ·refine .inl ⟨[.int .i64 ((y.length+(n-1):Nat):Int)],n-1,by omega,?_,rfl,by omega⟩
  have h0:((y.length+n:Nat):Int)>0:=by omega
  have h1:0 ≤ ((y.length+n:Nat):Int)-1:=by omega
  have h2:((y.length+n:Nat):Int)-1<(s.length:Nat):=by omega
  have h3:(((y.length+n:Nat):Int)-1).toNat=y.length+n-1:=by omega
  have h4:=x3 (y.length+n-1) (by omega) (by omega)
  have h5:¬ ((((s.getD (y.length+n-1) 0).toNat:Nat):Int)=10):=by
   intro e
   exact h4 (UInt8.toNat_inj.1 (by rw[show (10:UInt8).toNat=10 from rfl];omega))
  have h6:((y.length+n:Nat):Int)-1=((y.length+(n-1):Nat):Int):=by omega
  simp (disch:=first|assumption|omega|(simp only[zL];omega)) only[iC,dK,bH,cy,bn,bv,bo,aR,bd,bu,aQ,aN,Cell.den,At.den,Prim.den,List.cons_append,List.nil_append,c9,bQ,CK.of,iB,gN,Bool.decide_eq_true,h0,if_true,w3,h1,h2,ak,aA,h3,h5,decide_true,decide_false,Bool.and_self,Bool.not_false,if_false,not_false_eq_true,Int.reduceEq,reduceIte,zU,zT,aa]
  rw[h6]
end Dx
namespace Dx
open Go Go.Proofs
def c_br:Con:=⟨[.own false [.val] [.list] false],[⟨false,[.val],[.bool],false⟩]⟩
def h_br:How:=⟨aB [(0,⟨[kI],[(6,(sI 0))],[],[],0⟩)],
 aB [],
 aB []⟩
theorem has_br:Has Tryz.prog 13 c_br φ_br:=fp (R:=[]) (tr:=false) (E:=[(14,0,uk),(15,1,sX),(16,2,sY)]) (Φ:=Φ_br) (t:=t_br) ⟨gW,gu,gv,trivial⟩ Tryz.f13 h_br (by kernel_rfl)
end Dx
namespace Go.Proofs.YtnbhinpnmgbbhaaGreatDoor.fnLinesRun
open Go.ChangeShapes Go.WideShapes Go.ChangeAt Go.RowKit Dx
set_option linter.unusedVariables false
set_option maxRecDepth 100000
theorem own:ownKnob Tryz.prog.godebug=none:=by kernel_rfl
theorem params:Tryz.f13.params=#[22]:=by kernel_rfl
theorem results:Tryz.f13.resultTypes=#[4]:=by kernel_rfl
theorem t22:Tryz.prog.underlying 22=some (.slice 5):=by kernel_rfl
theorem t5:Tryz.prog.underlying 5=some (.int .u8):=by kernel_rfl
theorem t4:Tryz.prog.underlying 4=some .bool:=by kernel_rfl
theorem c5:Tryz.prog.cellsOf 5=1:=by kernel_rfl
theorem func:Tryz.prog.funcs[13]?=some Tryz.f13:=by kernel_rfl
theorem contract(H:Type)(enc:TypeId×Value → H)(W:World)(base:Nat)(args:Array Value)(ds gs:List (DataW H))(before:List MemPlace)
  (hval:∀(j:Nat) t v,Tryz.f13.params[j]?=some t → args[j]?=some v → Value.okWide Tryz.prog W .any base t v)
  (hW:DataW.Whole enc Tryz.prog Tryz.f13.params.toList Rows.fnLinesRunSpec.vars false W args.toList ds gs before) :
  Calls Tryz.prog 13 args W fun e W'=>∃ v,e=.returned v ∧ Rows.fnLinesRunSpec.post enc Tryz.prog Tryz.f13 false true false false W args v W':=by
 have hW':=hW
 obtain⟨p,q,hA0,hV,rfl,hfz,hnd⟩:=hW
 have hA:DataW.TrodAll enc Tryz.prog W 0 (fun _=>true) true Tryz.f13.params.toList args.toList ds p:=hA0
 rw[params]at hA hval
 obtain⟨v0,vs0,d0,ds0,p0,q0,hargs,rfl,rfl,h0,r0⟩:=trodAll_cons hA
 obtain⟨rfl,rfl,rfl⟩:=trodAll_nil r0
 obtain rfl:args=#[v0]:=by cases args;simp_all
 obtain⟨rfl,rfl⟩:=trodVars_none hV
 obtain⟨code,hb,hrep,hd,hshut⟩:=cV t22 t5 c5 (hval 0 22 v0 rfl rfl) h0
 have hlaw:φ_br [.list (code.map cB)]=some [.bool true]:=by
  by_cases h:code.length ≤ 1048576
  ·exact law_LinesRun (by omega) hb
  ·unfold φ_br t_br
   exact lP (by rw[List.length_map];omega)
 refine(cW (vs:=[v0]) has_br (by simp[eH]) ⟨[.list (code.map cB)],[],v0,[],[],[],rfl,rfl,rfl,fe hrep,rfl,rfl,rfl⟩ hlaw).mono ?_
 rintro e W' ⟨rfl,h1,h2,h3⟩
 refine⟨_,rfl,[d0],[],p0,[],p0,[],by simpa using hW',trodAll_cons_mk (shut_bool t4 _) trodAll_mk0,?_,rfl,eu h1 h2 h3 _,fun h=>by cases h⟩
 rw[params]
 have:=trodAll_cons_mk (hshut W' h3) (trodAll_mk0 (enc:=enc) (P:=Tryz.prog) (w:=W') (base:=0) (spare:=fun b=>decide (b<W.heap.size)) (held:=true))
 rw[List.append_nil]at this
 exact this
def inp:Input:=⟨#[],#[.slice none 0 0],[]⟩
set_option maxRecDepth 100000 in
theorem lifted(os:Os)(started:os.Started)(H:Type)(enc:TypeId×Value → H)(F:Stop.Interp) :
  ReturnsInHanded {} Tryz.checked os 13 .any ((OpenSpec.ofChange Rows.fnLinesRunSpec).preRow enc Tryz.prog Tryz.f13 Rows.fnLinesRunRow.domain false Rows.fnLinesRunRow.laid) (((OpenSpec.ofChange Rows.fnLinesRunSpec).at F).post enc Tryz.prog Tryz.f13 false true false false):=by
 have hok:Input.okWideB Tryz.prog ((World.laidAll Tryz.prog os Rows.fnLinesRunRow.laid).forCall (fun _ _=>0) inp) 13 inp=true:=by kernel_rfl
 refine returnsInHanded_of_row (C:=Tryz.checked) (s:=OpenSpec.ofChange Rows.fnLinesRunSpec) (laid:=Rows.fnLinesRunRow.laid) own started (by kernel_rfl) func
  ⟨World.laidAll Tryz.prog os Rows.fnLinesRunRow.laid,fun _ _=>0,inp,World.laidAll_os _ _ _,World.shaped_of_ZipB (by kernel_rfl) (by kernel_rfl),rfl,(Input.okWide_of_okWideB hok).2,
   OpenSpec.preRow_of_cond 8 (x:=([.nil],[],[])) (by kernel_rfl) rfl (fun k hk=>by cases hk) (by kernel_rfl) (by rw[MakeChecks.laidMetH_plain _ _ _ (by kernel_rfl)];exact laidMet_laidAll _ (by kernel_rfl) (by kernel_rfl)),by
    simp only[Assume.holds]
    exact⟨by simp,by simp,fun _=>Modest.zero,by simp,by simp⟩⟩ ?_
 intro W base args ds gs before hval hW _ _ _ _ _ _
 exact contract H enc W base args ds gs before hval hW
theorem nm:Tryz.prog.funcNamed "loop.example/concierge/laws.FnLinesRun"=some 13:=by kernel_rfl
theorem jA:jfA Tryz.prog 13 Tryz.f13 (OpenSpec.ofChange Rows.fnLinesRunSpec).bare Rows.fnLinesRunRow=true:=by kernel_rfl
theorem jB:jfB Tryz.prog 13 Tryz.f13 (OpenSpec.ofChange Rows.fnLinesRunSpec).bare Rows.fnLinesRunRow=true:=by kernel_rfl
theorem mi:Tryz.prog.mainIs=some (true,"90b4ebd20bc5108c07d469a11527756e776b88e51ea502c6222d269f2ada4b91".toList):=by kernel_rfl
theorem gb:false=Rows.fnLinesRunRow.goesBy Tryz.prog:=by kernel_rfl
theorem proved:Rows.FnLinesRunSaid :=
 OpenClaim.holds_of_cond 13 Tryz.f13 rfl rfl rfl rfl rfl rfl rfl ⟨rfl,rfl,rfl,rfl,rfl⟩ rfl rfl rfl rfl rfl nm func (kq jA jB)
  (of_decide_eq_true (by kernel_rfl)) (by unfold Func.isWrapper;first|(rw[if_pos (by decide +kernel)];kernel_rfl)|(rw[if_neg (by decide +kernel)];exact⟨rfl,rfl⟩))
  (fun os started H enc _ F=>by rw[OpenClaim.pre_eq_preRow];exact lifted os started H enc F)
theorem card:Rows.FnLinesRunCardSaid :=
 Claim7.holds_tied_plain_at .later [] [.data,.data,.data,.data,.sentinel,.sentinel,.pinned] true (true,"90b4ebd20bc5108c07d469a11527756e776b88e51ea502c6222d269f2ada4b91") true
  proved (fun _ h=>by cases h) (by kernel_rfl) (fun _ h=>by cases h) fnLinesRun_row_tie rfl ⟨rfl,rfl⟩ mi rfl
  (fun f fn hf hfn=>by
   obtain rfl:f=13:=Option.some.inj (nm.symm.trans hf) |>.symm
   obtain rfl:fn=Tryz.f13:=(Option.some.inj (func.symm.trans hfn)).symm
   exact⟨by kernel_rfl,fun j t ht=>by
    rw[params]at ht
    have hm:t∈[22]:=by simpa using Array.mem_of_getElem? ht
    have hall:([22].all fun u=>!Tryz.prog.wantsStandIn u)=true:=by kernel_rfl
    exact(show Tryz.prog.wantsStandIn t=false by simpa using List.all_eq_true.1 hall t hm)⟩)
  gb
#print axioms card
end Go.Proofs.YtnbhinpnmgbbhaaGreatDoor.fnLinesRun
