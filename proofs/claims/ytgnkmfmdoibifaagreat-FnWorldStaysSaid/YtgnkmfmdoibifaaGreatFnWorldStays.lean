/- PROVED: Rows.FnWorldStaysSaid: whatever the input, laws.FnWorldStays returns true, and its arguments read as they did. No condition beyond the statement's own. -/
import Derived.Test.YtgnkmfmdoibifaaGreatZb
import Derived.Test.YtgnkmfmdoibifaaGreatHa
import Derived.Test.YtgnkmfmdoibifaaGreatJa
import Derived.Test.YtgnkmfmdoibifaaGreatRows
set_option linter.all false
namespace Dx
open Go Go.Proofs
def t_bb:Tree :=
 dL<|
 .letp .len [⟨.list,(.v 1)⟩]<|
 .letp .len [⟨.list,(.v 7)⟩]<|
 .letp (.add .i64) [⟨(.int .i64),(.v 27)⟩,⟨(.int .i64),(.n 1)⟩]<|
 .chk .nz [⟨(.int .i64),(.v 28)⟩]<|
 .letp (.rem .i64) [⟨(.int .i64),(.v 26)⟩,⟨(.int .i64),(.v 28)⟩]<|
 .chk .upto [⟨(.int .i64),(.v 29)⟩,⟨.list,(.v 7)⟩]<|
 .letp .take [⟨.list,(.v 7)⟩,⟨(.int .i64),(.v 29)⟩]<|
 .call 1 [⟨.list,(.v 6)⟩,⟨.list,(.v 30)⟩] [.bool,.list,(.int .i64),.list,.list,.list,.bool]<|
 .call 4 [⟨.bool,(.v 31)⟩,⟨.list,(.v 32)⟩,⟨(.int .i64),(.v 33)⟩,⟨.list,(.v 34)⟩,⟨.bool,(.b true)⟩] [.list]<|
 .call 4 [⟨.bool,(.v 8)⟩,⟨.list,(.v 9)⟩,⟨(.int .i64),(.v 10)⟩,⟨.list,(.v 11)⟩,⟨.bool,(.b true)⟩] [.list]<|
 .iter [⟨(.int .i64),(.n 0)⟩]<|
 .letp .len [⟨.list,(.v 38)⟩]<|
 .letp .ltI [⟨(.int .i64),(.v 40)⟩,⟨(.int .i64),(.v 41)⟩]<|
 .ite (.v 42) (
 .letp .len [⟨.list,(.v 39)⟩]<|
 .letp .geI [⟨(.int .i64),(.v 40)⟩,⟨(.int .i64),(.v 43)⟩]<|
 .ite (.v 44) (
 .up<|
 .ret [⟨.bool,(.b false)⟩])<|
 .row (.v 38) (.v 40) [.list,(.int .i64)]<|
 .row (.v 39) (.v 40) [.list,(.int .i64)]<|
 .call 5 [⟨.list,(.v 45)⟩,⟨.list,(.v 47)⟩] [.bool]<|
 .letp .not [⟨.bool,(.v 49)⟩]<|
 .ite (.v 50) (
 .up<|
 .ret [⟨.bool,(.b false)⟩])<|
 .row (.v 38) (.v 40) [.list,(.int .i64)]<|
 .letp .gtI [⟨(.int .i64),(.v 52)⟩,⟨(.int .i64),(.n 1)⟩]<|
 .ite (.v 53) (
 .row (.v 39) (.v 40) [.list,(.int .i64)]<|
 .row (.v 38) (.v 40) [.list,(.int .i64)]<|
 .letp .neI [⟨(.int .i64),(.v 55)⟩,⟨(.int .i64),(.v 57)⟩]<|
 .ite (.v 58) (
 .row (.v 39) (.v 40) [.list,(.int .i64)]<|
 .row (.v 38) (.v 40) [.list,(.int .i64)]<|
 .letp (.add .i64) [⟨(.int .i64),(.v 62)⟩,⟨(.int .i64),(.n 2)⟩]<|
 .letp .neI [⟨(.int .i64),(.v 60)⟩,⟨(.int .i64),(.v 63)⟩]<|
 .ite (.v 64) (
 .up<|
 .ret [⟨.bool,(.b false)⟩])<|
 .letp (.add .i64) [⟨(.int .i64),(.v 40)⟩,⟨(.int .i64),(.n 1)⟩]<|
 .jump [⟨(.int .i64),(.v 65)⟩])<|
 .letp (.add .i64) [⟨(.int .i64),(.v 40)⟩,⟨(.int .i64),(.n 1)⟩]<|
 .jump [⟨(.int .i64),(.v 59)⟩])<|
 .letp (.add .i64) [⟨(.int .i64),(.v 40)⟩,⟨(.int .i64),(.n 1)⟩]<|
 .jump [⟨(.int .i64),(.v 54)⟩])<|
 .up<|
 .iter [⟨(.int .i64),(.n 0)⟩]<|
 .letp .len [⟨.list,(.v 35)⟩]<|
 .letp .ltI [⟨(.int .i64),(.v 43)⟩,⟨(.int .i64),(.v 44)⟩]<|
 .ite (.v 45) (
 .row (.v 35) (.v 43) [(.int .i64),.bool,(.int .i64),.list,(.int .i64)]<|
 .call 6 [⟨(.int .i64),(.v 46)⟩,⟨.bool,(.v 47)⟩,⟨(.int .i64),(.v 48)⟩,⟨.list,(.v 49)⟩,⟨(.int .i64),(.v 50)⟩,⟨.bool,(.b true)⟩] [(.int .i64),.list]<|
 .row (.v 12) (.v 43) [(.int .i64),.bool,(.int .i64),.list,(.int .i64)]<|
 .call 6 [⟨(.int .i64),(.v 53)⟩,⟨.bool,(.v 54)⟩,⟨(.int .i64),(.v 55)⟩,⟨.list,(.v 56)⟩,⟨(.int .i64),(.v 57)⟩,⟨.bool,(.b true)⟩] [(.int .i64),.list]<|
 .iter [⟨(.int .i64),(.n 0)⟩]<|
 .letp .len [⟨.list,(.v 52)⟩]<|
 .letp .ltI [⟨(.int .i64),(.v 60)⟩,⟨(.int .i64),(.v 61)⟩]<|
 .ite (.v 62) (
 .row (.v 52) (.v 60) [(.int .i64),(.int .i64)]<|
 .letp .geI [⟨(.int .i64),(.v 64)⟩,⟨(.int .i64),(.n 2)⟩]<|
 .ite (.v 65) (
 .row (.v 52) (.v 60) [(.int .i64),(.int .i64)]<|
 .row (.v 59) (.v 60) [(.int .i64),(.int .i64)]<|
 .letp (.nes 2) [⟨(.int .i64),(.v 66)⟩,⟨(.int .i64),(.v 67)⟩,⟨(.int .i64),(.v 68)⟩,⟨(.int .i64),(.v 69)⟩]<|
 .ite (.v 70) (
 .up<|
 .up<|
 .ret [⟨.bool,(.b false)⟩])<|
 .letp (.add .i64) [⟨(.int .i64),(.v 60)⟩,⟨(.int .i64),(.n 1)⟩]<|
 .jump [⟨(.int .i64),(.v 71)⟩])<|
 .letp (.add .i64) [⟨(.int .i64),(.v 60)⟩,⟨(.int .i64),(.n 1)⟩]<|
 .jump [⟨(.int .i64),(.v 66)⟩])<|
 .up<|
 .letp (.add .i64) [⟨(.int .i64),(.v 43)⟩,⟨(.int .i64),(.n 1)⟩]<|
 .jump [⟨(.int .i64),(.v 63)⟩])<|
 .up<|
 .ret [⟨.bool,(.v 37)⟩]
noncomputable def Φ_bb:Phi:=fun n=>match n with
 | 0=>eV
 | 1=>dq
 | 2=>eW
 | 3=>dV
 | 4=>ev
 | 5=>l6
 | 6=>lp
 | _=>fun _=>none
noncomputable def φ_bb(cs:List C):Option (List C):=ai (den Φ_bb t_bb cs)
end Dx
namespace Dx
open Go
section
variable {code more:List Int}
theorem law_WorldStays(hl:code.length ≤ 1099511627776)(hc:gp code):φ_bb [.list (code.map eB),.list (more.map eB)]=some [.bool true]:=by
 unfold φ_bb t_bb
 refine dr rfl rfl rfl rfl hl hc fun rooms es w hm hw hr hel hes=>?_
 obtain⟨ow,I⟩:=cF hw
 have e1:Φ_bb 1=dq:=rfl
 have e4:Φ_bb 4=ev:=rfl
 have e5:Φ_bb 5=l6:=rfl
 have e6:Φ_bb 6=lp:=rfl
 have hn:more.length % (es.length+1) ≤ es.length:=by have:=Nat.mod_lt more.length (show 0<es.length+1 by omega);omega
 obtain⟨w1,p1,pw,o1,I1⟩:=ko hw (more.length % (es.length+1))
 have fw:Fwd (vw w1) (vw w):=by rw[pw];exact yt o1 I1 _
 have hp1:=cL (rooms:=rooms) (es:=es.take (more.length % (es.length+1))) (by omega) (by rw[List.length_take];omega) (fun e he=>hes e (List.mem_of_mem_take he))
 rw[p1]at hp1
 simp only[Option.getD_some,Option.isSome_some,Wd.e,List.cons_append,List.nil_append]at hp1
 have hz:¬ (((es.length+1:Nat):Int)=0):=by omega
 have hup:((more.length % (es.length+1):Nat):Int) ≤ (es.length:Nat):=by omega
 have hup0:(0:Int) ≤ ((more.length % (es.length+1):Nat):Int):=by omega
 have htk:(es.map Ev.e).take (more.length % (es.length+1))=(es.take (more.length % (es.length+1))).map Ev.e:=by rw[List.map_take]
 have s0:DkS ⟨w.dk.up,⟨w.dk.lg.rs,w.dk.lg.f⟩,w.dk.td⟩:=ow.dk.S
 have k0:cm ⟨w.dk.up,⟨w.dk.lg.rs,w.dk.lg.f⟩,w.dk.td⟩=true:=deskOk_iff.2 ow.dk
 have s1:DkS ⟨w1.dk.up,⟨w1.dk.lg.rs,w1.dk.lg.f⟩,w1.dk.td⟩:=o1.dk.S
 have k1:cm ⟨w1.dk.up,⟨w1.dk.lg.rs,w1.dk.lg.f⟩,w1.dk.td⟩=true:=deskOk_iff.2 o1.dk
 have t0:TrOk (aj w.dk.lg true):=ow.dk.trOk true
 have t1:TrOk (aj w1.dk.lg true):=o1.dk.trOk true
 have t06:=t0.len
 have t16:=t1.len
 have hF:tpre (aj w1.dk.lg true) (aj w.dk.lg true):=fw.F
 have l3:=ow.len
 have l31:=o1.len
 have dT:=cq s0 (b:=true)
 have dT1:=cq s1 (b:=true)
 rw[k0,if_pos rfl]at dT
 rw[k1,if_pos rfl]at dT1
 simp (disch:=first|assumption|omega|(simp only[zL];omega)) only[cI,bp,aP,aX,aI,aQ,aJ,ar,aH,aK,ap,ax,Cell.den,At.den,Prim.den,List.cons_append,List.nil_append,bL,aS,CK.of,cy,cz,Bool.decide_eq_true,al,hz,nk,hup,hup0,Int.toNat_natCast,htk,e1,hp1,e4,dT,dT1,decide_true,decide_false,Bool.not_false,Int.reduceEq,reduceIte,zU,zT,aa]
 rw[be]
 simp only[ax,Cell.den,At.den,C.toInt_int]
 rw[dc (l:=aj w1.dk.lg true) (o:=.ret [.bool true])]
 ·rfl
 ·intro i x hx
  have hi:=(List.getElem?_eq_some_iff.1 hx).1
  have hi':(i:Int)<((aj w1.dk.lg true).length:Nat):=by omega
  have hle:=hF.len
  have hb:i<(aj w.dk.lg true).length:=by omega
  have hb':¬ ((i:Int) ≥ ((aj w.dk.lg true).length:Nat)):=by omega
  have hy:(aj w.dk.lg true)[i]?=some (aj w.dk.lg true)[i]:=by simp
  have et:(((i+1:Nat):Int)-1).toNat=i:=by omega
  have ex:tAt (aj w1.dk.lg true) ((i+1:Nat):Int)=x:=by unfold tAt;rw[et,hx];rfl
  have ey:tAt (aj w.dk.lg true) ((i+1:Nat):Int)=(aj w.dk.lg true)[i]:=by unfold tAt;rw[et,hy];rfl
  have k:=hF.le ((i+1:Nat):Int) (by omega) (by omega)
  rw[ex,ey]at k
  generalize (aj w.dk.lg true)[i]=y at hy k
  obtain⟨km,ks⟩:=k
  have hxo:=tripOk_iff.1 (t1.ok x (List.mem_of_getElem? hx))
  have hm3:=bc hxo.1
  have hln:l6 [.list (x.m.map eI),.list (y.m.map eI)]=some [.bool true]:=by rw[Ak (by omega),km];simp
  have hw2:IntKind.wrap .i64 (x.s+2)=x.s+2:=aE (by omega) (by omega)
  by_cases h1:x.s>1
  ·by_cases h2:y.s=x.s
   ·simp (disch:=first|assumption|omega|(simp only[zL];omega)) only[cI,bp,aP,aX,aI,aQ,aJ,ar,aH,aK,ap,ax,Cell.den,At.den,Prim.den,List.cons_append,List.nil_append,bL,aS,CK.of,cy,cz,Bool.decide_eq_true,ip hx,ip hy,Trip.e,hi',hb',e5,hln,h1,h2,hw2,if_true,if_false,al,Int.reduceEq,reduceIte,zU,zT,aa]
    try rfl
   ·have h3:y.s=x.s+2:=by omega
    have h4:¬ (x.s+2=x.s):=by omega
    simp (disch:=first|assumption|omega|(simp only[zL];omega)) only[cI,bp,aP,aX,aI,aQ,aJ,ar,aH,aK,ap,ax,Cell.den,At.den,Prim.den,List.cons_append,List.nil_append,bL,aS,CK.of,cy,cz,Bool.decide_eq_true,ip hx,ip hy,Trip.e,hi',hb',e5,hln,h1,h3,h4,hw2,if_true,if_false,al,Int.reduceEq,reduceIte,zU,zT,aa]
    try rfl
  ·simp (disch:=first|assumption|omega|(simp only[zL];omega)) only[cI,bp,aP,aX,aI,aQ,aJ,ar,aH,aK,ap,ax,Cell.den,At.den,Prim.den,List.cons_append,List.nil_append,bL,aS,CK.of,cy,cz,Bool.decide_eq_true,ip hx,ip hy,Trip.e,hi',hb',e5,hln,h1,if_true,if_false,al,Int.reduceEq,reduceIte,zU,zT,aa]
   try rfl
 ·have h:¬ (((aj w1.dk.lg true).length:Int)<((aj w1.dk.lg true).length:Nat)):=by omega
  simp (disch:=first|assumption|omega|(simp only[zL];omega)) only[cI,bp,aP,aX,aI,aQ,aJ,ar,aH,aK,ap,ax,Cell.den,At.den,Prim.den,List.cons_append,List.nil_append,bL,aS,CK.of,cy,cz,Bool.decide_eq_true,h,if_false,Int.reduceEq,reduceIte,zU,zT,aa]
  rw[be]
  simp only[ax,Cell.den,At.den,C.toInt_int]
  rw[dc (l:=w1.hs) (o:=.ret [.bool true])]
  ·rfl
  ·intro i x hx
   have hi:=(List.getElem?_eq_some_iff.1 hx).1
   have hi':(i:Int)<(w1.hs.length:Nat):=by omega
   have hy:w.hs[i]?=some w.hs[i]:=by simp
   have hH:isH ((i+1:Nat):Int):=⟨by omega,by omega⟩
   have et:(((i+1:Nat):Int)-1).toNat=i:=by omega
   have ex:houseAt w1 ((i+1:Nat):Int)=x:=by unfold houseAt;rw[et,hx];rfl
   have ey:houseAt w ((i+1:Nat):Int)=w.hs[i]:=by unfold houseAt;rw[et,hy];rfl
   have kh:∀ t,isT t → hle (hAt (am x true).hs t) (hAt (am w.hs[i] true).hs t):=fun t ht=>by
    have:=fw.h ((i+1:Nat):Int) t hH ht
    rw[← ex,← ey];exact this
   generalize w.hs[i]=y at hy kh
   obtain⟨c1,c2,_⟩:=o1.cells hx
   obtain⟨d1,d2,_⟩:=ow.cells hy
   have hsx:=eE (id:=x.id) (up:=x.up) (room:=x.room) (b:=true) c1.S
   have hsy:=eE (id:=y.id) (up:=y.up) (room:=y.room) (b:=true) d1.S
   rw[c2,if_pos rfl]at hsx
   rw[d2,if_pos rfl]at hsy
   have sx6:(am x true).hs.length=6:=((houseOk_iff.1 c2).stOk true).len
   have sy6:(am y true).hs.length=6:=((houseOk_iff.1 d2).stOk true).len
   have qx:am ⟨x.id,x.up,x.room,⟨x.lg.rs,x.lg.f⟩⟩ true=am x true:=rfl
   have qy:am ⟨y.id,y.up,y.room,⟨y.lg.rs,y.lg.f⟩⟩ true=am y true:=rfl
   rw[qx]at hsx
   rw[qy]at hsy
   simp only[Stock.e]at hsx hsy
   simp (disch:=first|assumption|omega|(simp only[zL];omega)) only[cI,bp,aP,aX,aI,aQ,aJ,ar,aH,aK,ap,ax,Cell.den,At.den,Prim.den,List.cons_append,List.nil_append,bL,aS,CK.of,cy,cz,Bool.decide_eq_true,fG hx,fG hy,House.e,hi',e6,hsx,hsy,if_true,Int.reduceEq,reduceIte,zU,zT,aa]
   rw[be]
   simp only[ax,Cell.den,At.den,C.toInt_int]
   rw[dc (l:=(am x true).hs) (o:=.jump [.int .i64 ((i+1:Nat):Int)])]
   ·intro j a ha
    have hj:=(List.getElem?_eq_some_iff.1 ha).1
    have hj':(j:Int)<((am x true).hs.length:Nat):=by omega
    have hb:(am y true).hs[j]?=some (am y true).hs[j]:=by simp
    have ej:(((j+1:Nat):Int)-1).toNat=j:=by omega
    have k:=kh ((j+1:Nat):Int) ⟨by omega,by omega⟩
    have ea:hAt (am x true).hs ((j+1:Nat):Int)=a:=by unfold hAt;rw[ej,ha];rfl
    have eb:hAt (am y true).hs ((j+1:Nat):Int)=(am y true).hs[j]:=by unfold hAt;rw[ej,hb];rfl
    rw[ea,eb]at k
    generalize (am y true).hs[j]=b at hb k
    by_cases h2:a.s ≥ 2
    ·have em:a.m=b.m ∧ a.s=b.s:=by unfold hle at k;omega
     have hne:([a.m,a.s]==([b.m,b.s]:List Int))=true:=by rw[em.1,em.2];simp
     simp (disch:=first|assumption|omega|(simp only[zL];omega)) only[cI,bp,aP,aX,aI,aQ,aJ,ar,aH,aK,ap,ax,Cell.den,At.den,Prim.den,List.cons_append,List.nil_append,bL,aS,CK.of,cy,cz,Bool.decide_eq_true,jK ha,jK hb,Hold.e,hj',h2,if_true,al,Int.reduceEq,reduceIte,zU,zT,aa]
     simp only[jx,List.take,List.drop,C.toInt_int,hne,aD]
     try rfl
    ·simp (disch:=first|assumption|omega|(simp only[zL];omega)) only[cI,bp,aP,aX,aI,aQ,aJ,ar,aH,aK,ap,ax,Cell.den,At.den,Prim.den,List.cons_append,List.nil_append,bL,aS,CK.of,cy,cz,Bool.decide_eq_true,jK ha,jK hb,Hold.e,hj',h2,if_true,if_false,al,Int.reduceEq,reduceIte,zU,zT,aa]
     try rfl
   ·have h:¬ (((am x true).hs.length:Int)<((am x true).hs.length:Nat)):=by omega
    simp (disch:=first|assumption|omega|(simp only[zL];omega)) only[cI,bp,aP,aX,aI,aQ,aJ,ar,aH,aK,ap,ax,Cell.den,At.den,Prim.den,List.cons_append,List.nil_append,bL,aS,CK.of,cy,cz,Bool.decide_eq_true,h,if_false,al,Int.reduceEq,reduceIte,zU,zT,aa]
    try rfl
  ·have h:¬ ((w1.hs.length:Int)<(w1.hs.length:Nat)):=by omega
   simp (disch:=first|assumption|omega|(simp only[zL];omega)) only[cI,bp,aP,aX,aI,aQ,aJ,ar,aH,aK,ap,ax,Cell.den,At.den,Prim.den,List.cons_append,List.nil_append,bL,aS,CK.of,cy,cz,Bool.decide_eq_true,h,if_false,Int.reduceEq,reduceIte,zU,zT,aa]
   try rfl
end
end Dx
namespace Dx
open Go Go.Proofs
def c_bb:Con:=⟨[.own false [.val] [.list] false,.own false [.val] [.list] false],[⟨false,[.val],[.bool],false⟩]⟩
def h_bb:How:=⟨aC [(2,⟨[kI],[(4,(.bool (.b false))),(16,(sI 0))],[],[],0⟩),(4,⟨[kI],[(4,(.bool (.b false))),(19,(sI 0))],[],[],0⟩),(0,⟨[kI],[(4,(.bool (.b false))),(15,(sI 0))],[],[],0⟩)],
 aC [],
 aC []⟩
theorem has_bb:Has Tryz.prog 12 c_bb φ_bb:=fp (R:=[]) (tr:=false) (E:=[(15,0,nZ),(16,1,og),(17,2,ol),(18,3,om),(19,4,xz),(28,5,c_fe),(21,6,Fa)]) (Φ:=Φ_bb) (t:=t_bb) ⟨eM,eN,eO,eP,jD,AV,w9,trivial⟩ Tryz.f12 h_bb (by kernel_rfl)
end Dx
namespace Go.Proofs.YtgnkmfmdoibifaaGreat.fnWorldStays
open Go.ChangeShapes Go.WideShapes Go.ChangeAt Go.RowKit Dx
set_option linter.unusedVariables false
set_option maxRecDepth 100000
theorem own:ownKnob Tryz.prog.godebug=none:=by kernel_rfl
theorem params:Tryz.f12.params=#[22,22]:=by kernel_rfl
theorem results:Tryz.f12.resultTypes=#[4]:=by kernel_rfl
theorem t22:Tryz.prog.underlying 22=some (.slice 5):=by kernel_rfl
theorem t5:Tryz.prog.underlying 5=some (.int .u8):=by kernel_rfl
theorem t4:Tryz.prog.underlying 4=some .bool:=by kernel_rfl
theorem c5:Tryz.prog.cellsOf 5=1:=by kernel_rfl
theorem func:Tryz.prog.funcs[12]?=some Tryz.f12:=by kernel_rfl
theorem contract(H:Type)(enc:TypeId×Value → H)(W:World)(base:Nat)(args:Array Value)(ds gs:List (DataW H))(before:List MemPlace)
  (hval:∀(j:Nat) t v,Tryz.f12.params[j]?=some t → args[j]?=some v → Value.okWide Tryz.prog W .any base t v)
  (hW:DataW.Whole enc Tryz.prog Tryz.f12.params.toList Rows.fnWorldStaysSpec.vars false W args.toList ds gs before) :
  Calls Tryz.prog 12 args W fun e W'=>∃ v,e=.returned v ∧ Rows.fnWorldStaysSpec.post enc Tryz.prog Tryz.f12 false true false false W args v W':=by
 have hW':=hW
 obtain⟨p,q,hA0,hV,rfl,hfz,hnd⟩:=hW
 have hA:DataW.TrodAll enc Tryz.prog W 0 (fun _=>true) true Tryz.f12.params.toList args.toList ds p:=hA0
 rw[params]at hA hval
 obtain⟨v0,vs0,d0,ds0,p0,q0,hargs,rfl,rfl,h0,r0⟩:=trodAll_cons hA
 obtain⟨v1,vs1,d1,ds1,p1,q1,rfl,rfl,rfl,h1,r1⟩:=trodAll_cons r0
 obtain⟨rfl,rfl,rfl⟩:=trodAll_nil r1
 obtain rfl:args=#[v0,v1]:=by cases args;simp_all
 obtain⟨rfl,rfl⟩:=trodVars_none hV
 obtain⟨code,hb,hrep,hd,hshut⟩:=bu t22 t5 c5 (hval 0 22 v0 rfl rfl) h0
 obtain⟨more,hb1,hrep1,hd1,hshut1⟩:=bu t22 t5 c5 (hval 1 22 v1 rfl rfl) h1
 have hlaw:φ_bb [.list (code.map cB),.list (more.map cB)]=some [.bool true]:=by
  by_cases h:code.length ≤ 1048576
  ·exact law_WorldStays (by omega) hb
  ·unfold φ_bb t_bb
   exact y4 (by rw[List.length_map];omega)
 refine(bZ (vs:=[v0,v1]) has_bb (by simp[dy]) ⟨[.list (code.map cB)],[.list (more.map cB)],v0,[v1],[],[],rfl,rfl,rfl,cr hrep,[.list (more.map cB)],[],v1,[],[],[],rfl,rfl,rfl,cr hrep1,rfl,rfl,rfl⟩ hlaw).mono ?_
 rintro e W' ⟨rfl,g1,g2,g3⟩
 refine⟨_,rfl,[d0,d1],[],p0++p1,[],p0++p1,[],by simpa using hW',trodAll_cons_mk (shut_bool t4 _) trodAll_mk0,?_,rfl,dn g1 g2 g3 _,fun h=>by cases h⟩
 rw[params]
 have:=trodAll_cons_mk (hshut W' g3) (trodAll_cons_mk (hshut1 W' g3) (trodAll_mk0 (enc:=enc) (P:=Tryz.prog) (w:=W') (base:=0) (spare:=fun b=>decide (b<W.heap.size)) (held:=true)))
 rw[List.append_nil]at this
 exact this
set_option maxRecDepth 100000 in
theorem lifted(os:Os)(started:os.Started)(H:Type)(enc:TypeId×Value → H) :
  ReturnsInHanded {} Tryz.checked os 12 .any (Rows.fnWorldStaysSpec.pre6 enc Tryz.prog Tryz.f12 Rows.fnWorldStaysRow.domain false) (Rows.fnWorldStaysSpec.post enc Tryz.prog Tryz.f12 false true false false):=by
 refine returnsInHanded_of_change (C:=Tryz.checked) own started (by kernel_rfl) func
  (ChangeSpec.witness6 (enc:=enc) (C:=Tryz.checked) false ⟨#[],#[.slice none 0 0,.slice none 0 0],[]⟩ 8 (by kernel_rfl) (by kernel_rfl) (by kernel_rfl) (by kernel_rfl)) ?_
 intro W base args ds gs before hval hW _ _
 exact contract H enc W base args ds gs before hval hW
theorem proved:Rows.FnWorldStaysSaid :=
 OpenClaim.holds_of_wide 12 Tryz.f12 rfl rfl rfl rfl rfl rfl rfl ⟨rfl,rfl,rfl,rfl,rfl⟩ rfl rfl rfl rfl rfl (by kernel_rfl) func (by kernel_rfl)
  (of_decide_eq_true (by kernel_rfl)) (by unfold Func.isWrapper;first|(rw[if_pos (by decide +kernel)];kernel_rfl)|(rw[if_neg (by decide +kernel)];exact⟨rfl,rfl⟩))
  (fun os started H enc _=>lifted os started H enc)
#print axioms proved
end Go.Proofs.YtgnkmfmdoibifaaGreat.fnWorldStays
