/- PROVED: Rows.FnDeskAllSaid: whatever the input, laws.FnDeskAll returns true, and its arguments read as they did. No condition beyond the statement's own. -/
import Derived.Test.YtahfbeiobndhkaaGreatZb
import Derived.Test.YtahfbeiobndhkaaGreatHa
import Derived.Test.YtahfbeiobndhkaaGreatJa
import Derived.Test.YtahfbeiobndhkaaGreatRows
set_option linter.all false
namespace Dx
open Go Go.Proofs
def t_ck:Tree :=
 .letp .len [⟨.list,(.v 0)⟩]<|
 .letp .gtI [⟨(.int .i64),(.v 2)⟩,⟨(.int .i64),(.n 1048576)⟩]<|
 .ite (.v 3) (
 .ret [⟨.bool,(.b true)⟩])<|
 .letp .len [⟨.list,(.v 1)⟩]<|
 .letp .gtI [⟨(.int .i64),(.v 4)⟩,⟨(.int .i64),(.n 1048576)⟩]<|
 .ite (.v 5) (
 .ret [⟨.bool,(.b true)⟩])<|
 .call 0 [⟨.list,(.v 0)⟩] [.bool,.list,(.int .i64),.list,.list]<|
 .call 1 [⟨.bool,(.v 6)⟩,⟨.list,(.v 7)⟩,⟨(.int .i64),(.v 8)⟩,⟨.list,(.v 9)⟩,⟨.list,(.v 10)⟩] [.bool,.list,(.int .i64),.list,.bool]<|
 .call 2 [⟨.bool,(.v 6)⟩,⟨.list,(.v 7)⟩,⟨(.int .i64),(.v 8)⟩,⟨.list,(.v 9)⟩,⟨.list,(.v 10)⟩] [.bool,.list,(.int .i64),.list,.bool]<|
 .letp .neB [⟨.bool,(.v 20)⟩,⟨.bool,(.v 15)⟩]<|
 .ite (.v 21) (
 .letp .eqB [⟨.bool,(.v 20)⟩,⟨.bool,(.v 15)⟩]<|
 .ite (.v 22) (
 .call 3 [⟨.bool,(.v 16)⟩,⟨.list,(.v 17)⟩,⟨(.int .i64),(.v 18)⟩,⟨.list,(.v 19)⟩,⟨.bool,(.v 11)⟩,⟨.list,(.v 12)⟩,⟨(.int .i64),(.v 13)⟩,⟨.list,(.v 14)⟩] [.bool]<|
 .ret [⟨.bool,(.v 23)⟩])<|
 .ret [⟨.bool,(.b false)⟩])<|
 .call 3 [⟨.bool,(.v 16)⟩,⟨.list,(.v 17)⟩,⟨(.int .i64),(.v 18)⟩,⟨.list,(.v 19)⟩,⟨.bool,(.v 11)⟩,⟨.list,(.v 12)⟩,⟨(.int .i64),(.v 13)⟩,⟨.list,(.v 14)⟩] [.bool]<|
 .letp .not [⟨.bool,(.v 22)⟩]<|
 .ite (.v 23) (
 .letp .eqB [⟨.bool,(.v 20)⟩,⟨.bool,(.v 15)⟩]<|
 .ite (.v 24) (
 .call 3 [⟨.bool,(.v 16)⟩,⟨.list,(.v 17)⟩,⟨(.int .i64),(.v 18)⟩,⟨.list,(.v 19)⟩,⟨.bool,(.v 11)⟩,⟨.list,(.v 12)⟩,⟨(.int .i64),(.v 13)⟩,⟨.list,(.v 14)⟩] [.bool]<|
 .ret [⟨.bool,(.v 25)⟩])<|
 .ret [⟨.bool,(.b false)⟩])<|
 .letp .not [⟨.bool,(.v 20)⟩]<|
 .ite (.v 24) (
 .letp .eqB [⟨.bool,(.v 20)⟩,⟨.bool,(.v 15)⟩]<|
 .ite (.v 25) (
 .call 3 [⟨.bool,(.v 16)⟩,⟨.list,(.v 17)⟩,⟨(.int .i64),(.v 18)⟩,⟨.list,(.v 19)⟩,⟨.bool,(.v 11)⟩,⟨.list,(.v 12)⟩,⟨(.int .i64),(.v 13)⟩,⟨.list,(.v 14)⟩] [.bool]<|
 .ret [⟨.bool,(.v 26)⟩])<|
 .ret [⟨.bool,(.b false)⟩])<|
 .call 4 [⟨.bool,(.v 16)⟩,⟨.list,(.v 17)⟩,⟨(.int .i64),(.v 18)⟩,⟨.list,(.v 19)⟩,⟨.bool,(.b false)⟩] [.list]<|
 .letp .len [⟨.list,(.v 25)⟩]<|
 .iter [⟨(.int .i64),(.n 0)⟩,⟨.bool,(.v 16)⟩,⟨.list,(.v 17)⟩,⟨(.int .i64),(.v 18)⟩,⟨.list,(.v 19)⟩,⟨.bool,(.v 16)⟩,⟨.list,(.v 17)⟩,⟨(.int .i64),(.v 18)⟩,⟨.list,(.v 19)⟩]<|
 .letp .ltI [⟨(.int .i64),(.v 27)⟩,⟨(.int .i64),(.n 3)⟩]<|
 .ite (.v 36) (
 .letp .len [⟨.list,(.v 1)⟩]<|
 .letp (.rem .i64) [⟨(.int .i64),(.v 37)⟩,⟨(.int .i64),(.n 3)⟩]<|
 .letp (.add .i64) [⟨(.int .i64),(.v 27)⟩,⟨(.int .i64),(.v 38)⟩]<|
 .letp (.rem .i64) [⟨(.int .i64),(.v 39)⟩,⟨(.int .i64),(.n 3)⟩]<|
 .letp (.add .i64) [⟨(.int .i64),(.v 40)⟩,⟨(.int .i64),(.n 1)⟩]<|
 .letp (.sub .i64) [⟨(.int .i64),(.v 41)⟩,⟨(.int .i64),(.n 1)⟩]<|
 .row (.v 10) (.v 42) [(.int .i64)]<|
 .letp .gtI [⟨(.int .i64),(.v 43)⟩,⟨(.int .i64),(.n 0)⟩]<|
 .ite (.v 44) (
 .call 5 [⟨.bool,(.v 32)⟩,⟨.list,(.v 33)⟩,⟨(.int .i64),(.v 34)⟩,⟨.list,(.v 35)⟩,⟨(.int .i64),(.n 4)⟩,⟨(.int .i64),(.v 41)⟩,⟨(.int .i64),(.v 26)⟩,⟨(.int .i64),(.n 0)⟩] [.bool,.list,(.int .i64),.list]<|
 .call 5 [⟨.bool,(.v 16)⟩,⟨.list,(.v 17)⟩,⟨(.int .i64),(.v 18)⟩,⟨.list,(.v 19)⟩,⟨(.int .i64),(.n 5)⟩,⟨(.int .i64),(.v 41)⟩,⟨(.int .i64),(.v 26)⟩,⟨(.int .i64),(.n 0)⟩] [.bool,.list,(.int .i64),.list]<|
 .letp (.add .i64) [⟨(.int .i64),(.v 27)⟩,⟨(.int .i64),(.n 1)⟩]<|
 .jump [⟨(.int .i64),(.v 53)⟩,⟨.bool,(.v 49)⟩,⟨.list,(.v 50)⟩,⟨(.int .i64),(.v 51)⟩,⟨.list,(.v 52)⟩,⟨.bool,(.v 45)⟩,⟨.list,(.v 46)⟩,⟨(.int .i64),(.v 47)⟩,⟨.list,(.v 48)⟩])<|
 .letp (.add .i64) [⟨(.int .i64),(.v 27)⟩,⟨(.int .i64),(.n 1)⟩]<|
 .jump [⟨(.int .i64),(.v 45)⟩,⟨.bool,(.v 28)⟩,⟨.list,(.v 29)⟩,⟨(.int .i64),(.v 30)⟩,⟨.list,(.v 31)⟩,⟨.bool,(.v 32)⟩,⟨.list,(.v 33)⟩,⟨(.int .i64),(.v 34)⟩,⟨.list,(.v 35)⟩])<|
 .up<|
 .letp .len [⟨.list,(.v 7)⟩]<|
 .letp (.add .i64) [⟨(.int .i64),(.v 37)⟩,⟨(.int .i64),(.n 2)⟩]<|
 .letp .gtI [⟨(.int .i64),(.v 38)⟩,⟨(.int .i64),(.n 40)⟩]<|
 .ite (.v 39) (
 .ret [⟨.bool,(.b true)⟩])<|
 .call 4 [⟨.bool,(.v 32)⟩,⟨.list,(.v 33)⟩,⟨(.int .i64),(.v 34)⟩,⟨.list,(.v 35)⟩,⟨.bool,(.b false)⟩] [.list]<|
 .letp (.sub .i64) [⟨(.int .i64),(.v 26)⟩,⟨(.int .i64),(.n 1)⟩]<|
 .row (.v 40) (.v 41) [.list,(.int .i64)]<|
 .letp .eqI [⟨(.int .i64),(.v 43)⟩,⟨(.int .i64),(.n 2)⟩]<|
 .ite (.v 44) (
 .call 4 [⟨.bool,(.v 28)⟩,⟨.list,(.v 29)⟩,⟨(.int .i64),(.v 30)⟩,⟨.list,(.v 31)⟩,⟨.bool,(.b false)⟩] [.list]<|
 .letp (.sub .i64) [⟨(.int .i64),(.v 26)⟩,⟨(.int .i64),(.n 1)⟩]<|
 .row (.v 45) (.v 46) [.list,(.int .i64)]<|
 .letp .eqI [⟨(.int .i64),(.v 48)⟩,⟨(.int .i64),(.n 3)⟩]<|
 .ret [⟨.bool,(.v 49)⟩])<|
 .ret [⟨.bool,(.b false)⟩]
noncomputable def Φ_ck:Phi:=fun n=>match n with
 | 0=>kx
 | 1=>kA
 | 2=>hU
 | 3=>cW
 | 4=>dh
 | 5=>gF
 | _=>fun _=>none
noncomputable def φ_ck(cs:List C):Option (List C):=aj (den Φ_ck t_ck cs)
end Dx
namespace Dx
open Go
theorem Mid.congr{y z:Desk}{n:Int}{m:List Int}{S S':Int → Prop}(h:∀ x,isH x → 0<mAt m x → (S x↔S' x))(M:Mid y n m S z):Mid y n m S' z :=
 ⟨M.ok,M.up,M.lg,fun x a b=>(M.w4 x a b).trans (h x a b),M.w5⟩
def prv(r i:Nat)(h:Int):Prop:=∃ j,j<i ∧ h=(((j+r) % 3+1:Nat):Int)
theorem prv_succ(r i:Nat)(h:Int):prv r (i+1) h↔prv r i h ∨ h=(((i+r) % 3+1:Nat):Int):=by
 constructor
 ·rintro⟨j,h1,h2⟩
  by_cases e:j=i
  ·subst e;exact .inr h2
  ·exact .inl ⟨j,by omega,h2⟩
 ·rintro(⟨j,h1,h2⟩|h2)
  ·exact⟨j,by omega,h2⟩
  ·exact⟨i,by omega,h2⟩
theorem prv_new{r i:Nat}(hi:i<3):¬ prv r i (((i+r) % 3+1:Nat):Int):=by
 rintro⟨j,h1,h2⟩
 omega
theorem prv_all{r:Nat}{h:Int}(hh:isH h):prv r 3 h:=by
 unfold isH at hh
 refine⟨((h-1).toNat+3-r % 3) % 3,by omega,?_⟩
 omega
structure AllI (y:Desk) (n:Int) (m:List Int) (r i:Nat) (no z:Desk):Prop where
 yes:(∀ h,isH h → 0<mAt m h → prv r i h) → DkOk z ∧ (tAt (af z false) n).s=2
 mid:¬ (∀ h,isH h → 0<mAt m h → prv r i h) → Mid y n m (prv r i) z
 no3:(∃ h,isH h ∧ 0<mAt m h ∧ prv r i h) → DkOk no ∧ (tAt (af no false) n).s=3
section
variable {code more:List Int}
theorem AllI.stay{y no z:Desk}{n:Int}{m:List Int}{r i:Nat}(I:AllI y n m r i no z)(h0:¬ 0<mAt m (((i+r) % 3+1:Nat):Int)):AllI y n m r (i+1) no z:=by
 have e:∀ h,isH h → 0<mAt m h → (prv r i h↔prv r (i+1) h):=fun h _ b=>by
  rw[prv_succ]
  exact⟨.inl,fun c=>c.resolve_right fun e=>h0 (e ▸ b)⟩
 refine⟨fun hall=>I.yes fun h a b=>(e h a b).2 (hall h a b),fun hno=>(I.mid fun hall=>hno fun h a b=>(e h a b).1 (hall h a b)).congr e,?_⟩
 rintro⟨h,a,b,c⟩
 exact I.no3 ⟨h,a,b,(e h a b).2 c⟩
theorem AllI.tell{y no z:Desk}{n:Int}{m:List Int}{r i:Nat}(f:Fresh y n m)(I:AllI y n m r i no z)(hi:i<3)(h0:0<mAt m (((i+r) % 3+1:Nat):Int)) :
  DkOk z ∧ AllI y n m r (i+1) (dhear y ⟨5,(((i+r) % 3+1:Nat):Int),n,0⟩) (dhear z ⟨4,(((i+r) % 3+1:Nat):Int),n,0⟩):=by
 have hh:isH (((i+r) % 3+1:Nat):Int):=by unfold isH;omega
 have M:=I.mid fun hall=>prv_new hi (hall _ hh h0)
 obtain⟨s1,s2⟩:=M.step f hh h0
 refine⟨M.ok,fun hall=>s1 fun h a b=>(prv_succ r i h).1 (hall h a b),fun hno=>(s2 fun hall=>hno fun h a b=>(prv_succ r i h).2 (hall h a b)).congr fun h _ _=>(prv_succ r i h).symm,fun _=>f.no_ hh h0⟩
set_option maxHeartbeats 8000000 in
theorem law_DeskAll(hl:code.length ≤ 1099511627776)(hc:fk code):φ_ck [.list (code.map eB),.list (more.map eB)]=some [.bool true]:=by
 unfold φ_ck t_ck
 have e0:Φ_ck 0=kx:=rfl
 have e1:Φ_ck 1=kA:=rfl
 have e2:Φ_ck 2=hU:=rfl
 have e3:Φ_ck 3=cW:=rfl
 have e4:Φ_ck 4=dh:=rfl
 have e5:Φ_ck 5=gF:=rfl
 obtain⟨d,m,y,b,hd,hs,hm,hyS,p2,p1,hb⟩:=lu hl hc
 have hn:=kh hyS
 simp only[Desk.e,List.cons_append,List.nil_append]at p1 p2 hd
 refine sl rfl ?_
 by_cases hbig:(((code.map eB).length:Nat):Int)>1048576
 ·exact sl (congrArg C.bool (decide_eq_true hbig)) (st rfl (dR rfl))
 refine sl (congrArg C.bool (decide_eq_false hbig)) (sf rfl (sl rfl ?_))
 by_cases hbig2:(((more.map eB).length:Nat):Int)>1048576
 ·exact sl (congrArg C.bool (decide_eq_true hbig2)) (st rfl (dR rfl))
 refine sl (congrArg C.bool (decide_eq_false hbig2)) (sf rfl (sc e0 hd rfl rfl (sc e1 p2 rfl rfl ?_)))
 simp only[List.cons_append,List.nil_append]
 refine sc e2 p1 rfl rfl (sl (v:=.bool false) (congrArg C.bool (show (b != b)=false by cases b<;>rfl)) (sf rfl (sc e3 hn rfl rfl (sl (v:=.bool false) rfl (sf rfl ?_)))))
 simp only[List.cons_append,List.nil_append]
 cases b with
 | false=>exact sl (v:=.bool true) rfl (st rfl (sl (v:=.bool true) rfl (st rfl (sc e3 hn rfl rfl (dR rfl)))))
 | true =>
  obtain⟨ok,oy,hmo,h5,hy,hu,ht,hr⟩:=hb rfl
  obtain⟨k1,k2,k3⟩:=dt ok hr ⟨hu,ht⟩
  rw[← hy]at k1 k2 k3
  have k3:af y false=af d false++[⟨m,1⟩]:=by
   rw[k3];unfold ch aV;simp
  have ky3:ah y.lg false=ah d.lg false++[⟨m,1⟩]:=k3
  have h5':(ah d.lg false).length ≤ 5:=h5
  obtain⟨n,hnn⟩:∃ n:Int,n=(((ah d.lg false).length+1:Nat):Int):=⟨_,rfl⟩
  have hml:=aT hmo
  have fr:Fresh y n m:=by
   have etd:y.td=d.td:=by rw[k1]
   refine⟨oy,by rw[k1];exact hu,by unfold isT;omega,?_,?_,hml,fun w hw=>?_⟩
   ·have e:(af y false).length=(ah d.lg false).length+1:=by rw[k3];simp;rfl
    rw[e];omega
   ·rw[k3,u7 (by omega),if_pos]
    rw[hnn];show (((af d false).length+1:Nat):Int)=_;omega
   ·rw[etd]at hw
    have:=(ok.td w hw).2.2
    have e:(af d false).length=(ah d.lg false).length:=rfl
    omega
  have hyS':DkS ⟨y.up,⟨y.lg.rs,y.lg.f⟩,y.td⟩:=hyS
  have hoy:aU y=true:=deskOk_iff.2 oy
  have t2:=aW (b:=false) hyS'
  simp only[eE,eG]at t2
  rw[if_pos hoy]at t2
  have hL2:((((ah y.lg false).map Trip.e).length:Nat):Int)=n:=by rw[List.length_map,ky3,hnn];simp
  refine sl (v:=.bool false) rfl (sf rfl (sc e4 t2 rfl rfl (sl (congrArg (C.int .i64) hL2) ?_)))
  simp only[List.cons_append,List.nil_append]
  rw[gk]
  simp only[aK,Cell.den,At.den,aa,C.toInt_int,C.toBool_bool,C.toList_list,c8]
  obtain⟨r,hr3⟩:∃ r:Nat,r=more.length % 3:=⟨_,rfl⟩
  have hr3':r<3:=by omega
  have hlm:(((more.map eB).length:Nat):Int)=more.length:=by rw[List.length_map]
  have hm3:Int.tmod ((more.length:Nat):Int) 3=(r:Int):=by rw[hr3];rfl
  have hrs:=ok.len18
  have hear:∀(z:Desk),DkOk z → ∀ w:Word,gF [.bool z.up,.list (z.lg.rs.map Rec.e),.int .i64 z.lg.f,.list (z.td.map Word.e),.int .i64 w.k,.int .i64 w.h,.int .i64 w.t,.int .i64 w.m] =
    some [.bool (dhear z w).up,.list ((dhear z w).lg.rs.map Rec.e),.int .i64 (dhear z w).lg.f,.list ((dhear z w).td.map Word.e)]:=by
   intro z oz w
   have hzS:DkS ⟨z.up,⟨z.lg.rs,z.lg.f⟩,z.td⟩:=oz.S
   have p:=dD hzS (k:=w.k) (h:=w.h) (t:=w.t) (m:=w.m)
   simp only[eE,eG,nG]at p
   rw[if_pos (deskOk_iff.2 oz)]at p
   exact p
  have trips:∀(z:Desk),DkOk z → dh [.bool z.up,.list (z.lg.rs.map Rec.e),.int .i64 z.lg.f,.list (z.td.map Word.e),.bool false]=some [.list ((ah z.lg false).map Trip.e)]:=by
   intro z oz
   have hzS:DkS ⟨z.up,⟨z.lg.rs,z.lg.f⟩,z.td⟩:=oz.S
   have p:=aW (b:=false) hzS
   simp only[eE,eG]at p
   rw[if_pos (deskOk_iff.2 oz)]at p
   exact p
  have rowN:∀(z:Desk) (s:Int),s≠0 → (tAt (af z false) n).s=s → (ah z.lg false)[(n-1).toNat]?=some ⟨(tAt (af z false) n).m,s⟩:=by
   intro z s hs0 hs1
   have hlt:=bN (l:=af z false) (t:=n) (by rw[hs1];exact hs0)
   have e:=pF hlt
   rw[← hs1]
   show (af z false)[(n-1).toNat]?=_
   rw[List.getElem?_eq_getElem hlt,← e]
  refine lr (I:=fun k ps=>∃(i:Nat) (no z:Desk),i+k=3 ∧ ps=[.int .i64 (i:Int),.bool no.up,.list (no.lg.rs.map Rec.e),.int .i64 no.lg.f,.list (no.td.map Word.e),.bool z.up,.list (z.lg.rs.map Rec.e),.int .i64 z.lg.f,.list (z.td.map Word.e)] ∧ AllI y n m r i no z)
   (o:=.ret [.bool true]) 3 ⟨0,y,y,rfl,rfl,?_⟩ ?_ rfl
  ·refine⟨fun hall=>?_,fun _=>fr.mid.congr fun h a b=>⟨fun e=>e.elim,fun⟨j,h1,_⟩=>by omega⟩,fun⟨h,_,_,j,h1,_⟩=>by omega⟩
   obtain⟨hw,hw1,hw2⟩:=dP hmo
   obtain⟨j,h1,_⟩:=hall hw hw1 hw2
   omega
  ·rintro k ps ⟨i,no,z,hik,rfl,I⟩
   by_cases hi:i<3
   ·left
    have hi':(i:Int)<3:=by omega
    have wa:IntKind.wrap .i64 ((i:Int)+(r:Int))=((i+r:Nat):Int):=by rw[az (by omega) (by omega)];omega
    have wb:Int.tmod ((i+r:Nat):Int) 3=(((i+r) % 3:Nat):Int):=rfl
    have wc:IntKind.wrap .i64 ((((i+r) % 3:Nat):Int)+1)=(((i+r) % 3+1:Nat):Int):=by rw[az (by omega) (by omega)];omega
    have wd:IntKind.wrap .i64 ((((i+r) % 3+1:Nat):Int)-1)=(((i+r) % 3:Nat):Int):=by rw[az (by omega) (by omega)];omega
    have we:IntKind.wrap .i64 ((i:Int)+1)=((i+1:Nat):Int):=by rw[az (by omega) (by omega)];omega
    have hx:m[(i+r) % 3]?=some (m[(i+r) % 3]'(by omega)):=List.getElem?_eq_getElem (by omega)
    have hmA:mAt m (((i+r) % 3+1:Nat):Int)=m[(i+r) % 3]'(by omega):=by
     unfold mAt
     rw[show ((((i+r) % 3+1:Nat):Int)-1).toNat=(i+r) % 3 by omega,hx];rfl
    generalize m[(i+r) % 3]'(by omega)=x at hx hmA
    by_cases hx0:x>0
    ·obtain⟨oz,I2⟩:=I.tell fr hi (by rw[hmA];exact hx0)
     refine⟨_,k-1,by omega,?_,i+1,_,_,by omega,rfl,I2⟩
     have c1:=hear z oz ⟨4,(((i+r) % 3+1:Nat):Int),n,0⟩
     have c2:=hear y oy ⟨5,(((i+r) % 3+1:Nat):Int),n,0⟩
     simp only at c1 c2
     refine dl (v:=.bool true) (congrArg C.bool (decide_eq_true hi')) (yt rfl (dl (congrArg (C.int .i64) hlm) (dl (congrArg (C.int .i64) hm3) (dl (congrArg (C.int .i64) wa) (dl (congrArg (C.int .i64) wb) ?_)))))
     simp only[List.cons_append,List.nil_append]
     refine dl (congrArg (C.int .i64) wc) (dl (congrArg (C.int .i64) wd) (yr rfl rfl (fun f=>fC hx) (dl (congrArg C.bool (decide_eq_true hx0)) (yt rfl ?_))))
     simp only[List.cons_append,List.nil_append,eI]
     refine dc e5 c1 rfl rfl (dc e5 c2 rfl rfl ?_)
     simp only[List.cons_append,List.nil_append]
     exact dl (congrArg (C.int .i64) we) (dj rfl)
    ·refine⟨_,k-1,by omega,?_,i+1,no,z,by omega,rfl,I.stay (by rw[hmA];exact hx0)⟩
     refine dl (v:=.bool true) (congrArg C.bool (decide_eq_true hi')) (yt rfl (dl (congrArg (C.int .i64) hlm) (dl (congrArg (C.int .i64) hm3) (dl (congrArg (C.int .i64) wa) (dl (congrArg (C.int .i64) wb) ?_)))))
     simp only[List.cons_append,List.nil_append]
     refine dl (congrArg (C.int .i64) wc) (dl (congrArg (C.int .i64) wd) (yr rfl rfl (fun f=>fC hx) (dl (congrArg C.bool (decide_eq_false hx0)) (yf rfl ?_))))
     simp only[List.cons_append,List.nil_append,eI]
     exact dl (congrArg (C.int .i64) we) (dj rfl)
   ·right
    have hi3:i=3:=by omega
    subst hi3
    obtain⟨oz,sz⟩:=I.yes fun h a _=>prv_all a
    obtain⟨hw,hw1,hw2⟩:=dP hmo
    obtain⟨on,sn⟩:=I.no3 ⟨hw,hw1,hw2,prv_all hw1⟩
    have r1:=rowN z 2 (by omega) sz
    have r2:=rowN no 3 (by omega) sn
    have hlt:¬ ((3:Nat):Int)<3:=by omega
    have hl1:(((d.lg.rs.map Rec.e).length:Nat):Int)=(d.lg.rs.length:Nat):=by rw[List.length_map]
    have wa:IntKind.wrap .i64 (((d.lg.rs.length:Nat):Int)+2)=((d.lg.rs.length+2:Nat):Int):=by rw[az (by omega) (by omega)];omega
    have hg:¬ (((d.lg.rs.length+2:Nat):Int)>40):=by omega
    have wn:IntKind.wrap .i64 (n-1)=n-1:=az (by omega) (by omega)
    refine dl (v:=.bool false) (congrArg C.bool (decide_eq_false hlt)) (yf rfl (yu (dl (congrArg (C.int .i64) hl1) (dl (congrArg (C.int .i64) wa) (dl (congrArg C.bool (decide_eq_false hg)) (yf rfl ?_))))))
    simp only[List.cons_append,List.nil_append]
    refine dc e4 (trips z oz) rfl rfl (dl (congrArg (C.int .i64) wn) (yr rfl rfl (fun f=>Dw (by omega) r1) ?_))
    simp only[List.cons_append,List.nil_append,Trip.e]
    refine dl (v:=.bool true) rfl (yt rfl (dc e4 (trips no on) rfl rfl (dl (congrArg (C.int .i64) wn) (yr rfl rfl (fun f=>Dw (by omega) r2) ?_))))
    simp only[List.cons_append,List.nil_append,Trip.e]
    exact dl (v:=.bool true) rfl (yret rfl)
end
end Dx
namespace Dx
open Go Go.Proofs
def c_ck:Con:=⟨[.own false [.val] [.list] false,.own false [.val] [.list] false],[⟨false,[.val],[.bool],false⟩]⟩
def h_ck:How:=⟨aB [(0,⟨[kI,.bool,.list,kI,.list,.bool,.list,kI,.list],[(14,(sI 0))],[(5,.cells [(.bool (.v 1)),(.view true (.v 2)),(sI 3),(.view true (.v 4))]),(4,.cells [(.bool (.v 5)),(.view true (.v 6)),(sI 7),(.view true (.v 8))])],[],0⟩)],
 aB [],
 aB []⟩
theorem has_ck:Has Tryz.prog 10 c_ck φ_ck:=fp (R:=[]) (tr:=false) (E:=[(28,0,ID),(29,1,IE),(30,2,Fx),(23,3,sM),(25,4,yq),(34,5,Cb)]) (Φ:=Φ_ck) (t:=t_ck) ⟨zX,zY,ud,gp,i6,mJ,trivial⟩ Tryz.f10 h_ck (by kernel_rfl)
end Dx
namespace Go.Proofs.YtahfbeiobndhkaaGreat.fnDeskAll
open Go.ChangeShapes Go.WideShapes Go.ChangeAt Go.RowKit Dx
set_option linter.unusedVariables false
set_option maxRecDepth 100000
theorem own:ownKnob Tryz.prog.godebug=none:=by kernel_rfl
theorem params:Tryz.f10.params=#[22,22]:=by kernel_rfl
theorem results:Tryz.f10.resultTypes=#[4]:=by kernel_rfl
theorem t22:Tryz.prog.underlying 22=some (.slice 5):=by kernel_rfl
theorem t5:Tryz.prog.underlying 5=some (.int .u8):=by kernel_rfl
theorem t4:Tryz.prog.underlying 4=some .bool:=by kernel_rfl
theorem c5:Tryz.prog.cellsOf 5=1:=by kernel_rfl
theorem func:Tryz.prog.funcs[10]?=some Tryz.f10:=by kernel_rfl
theorem contract(H:Type)(enc:TypeId×Value → H)(W:World)(base:Nat)(args:Array Value)(ds gs:List (DataW H))(before:List MemPlace)
  (hval:∀(j:Nat) t v,Tryz.f10.params[j]?=some t → args[j]?=some v → Value.okWide Tryz.prog W .any base t v)
  (hW:DataW.Whole enc Tryz.prog Tryz.f10.params.toList Rows.fnDeskAllSpec.vars false W args.toList ds gs before) :
  Calls Tryz.prog 10 args W fun e W'=>∃ v,e=.returned v ∧ Rows.fnDeskAllSpec.post enc Tryz.prog Tryz.f10 false true false false W args v W':=by
 have hW':=hW
 obtain⟨p,q,hA0,hV,rfl,hfz,hnd⟩:=hW
 have hA:DataW.TrodAll enc Tryz.prog W 0 (fun _=>true) true Tryz.f10.params.toList args.toList ds p:=hA0
 rw[params]at hA hval
 obtain⟨v0,vs0,d0,ds0,p0,q0,hargs,rfl,rfl,h0,r0⟩:=trodAll_cons hA
 obtain⟨v1,vs1,d1,ds1,p1,q1,rfl,rfl,rfl,h1,r1⟩:=trodAll_cons r0
 obtain⟨rfl,rfl,rfl⟩:=trodAll_nil r1
 obtain rfl:args=#[v0,v1]:=by cases args;simp_all
 obtain⟨rfl,rfl⟩:=trodVars_none hV
 obtain⟨code,hb,hrep,hd,hshut⟩:=bA t22 t5 c5 (hval 0 22 v0 rfl rfl) h0
 obtain⟨more,hb1,hrep1,hd1,hshut1⟩:=bA t22 t5 c5 (hval 1 22 v1 rfl rfl) h1
 have hlaw:φ_ck [.list (code.map cB),.list (more.map cB)]=some [.bool true]:=by
  by_cases h:code.length ≤ 1048576
  ·exact law_DeskAll (by omega) hb
  ·unfold φ_ck t_ck
   exact E3 (by rw[List.length_map];omega)
 refine(bU (vs:=[v0,v1]) has_ck (by simp[dq]) ⟨[.list (code.map cB)],[.list (more.map cB)],v0,[v1],[],[],rfl,rfl,rfl,cv hrep,[.list (more.map cB)],[],v1,[],[],[],rfl,rfl,rfl,cv hrep1,rfl,rfl,rfl⟩ hlaw).mono ?_
 rintro e W' ⟨rfl,g1,g2,g3⟩
 refine⟨_,rfl,[d0,d1],[],p0++p1,[],p0++p1,[],by simpa using hW',trodAll_cons_mk (shut_bool t4 _) trodAll_mk0,?_,rfl,de g1 g2 g3 _,fun h=>by cases h⟩
 rw[params]
 have:=trodAll_cons_mk (hshut W' g3) (trodAll_cons_mk (hshut1 W' g3) (trodAll_mk0 (enc:=enc) (P:=Tryz.prog) (w:=W') (base:=0) (spare:=fun b=>decide (b<W.heap.size)) (held:=true)))
 rw[List.append_nil]at this
 exact this
set_option maxRecDepth 100000 in
theorem lifted(os:Os)(started:os.Started)(H:Type)(enc:TypeId×Value → H) :
  ReturnsInHanded {} Tryz.checked os 10 .any (Rows.fnDeskAllSpec.pre6 enc Tryz.prog Tryz.f10 Rows.fnDeskAllRow.domain false) (Rows.fnDeskAllSpec.post enc Tryz.prog Tryz.f10 false true false false):=by
 refine returnsInHanded_of_change (C:=Tryz.checked) own started (by kernel_rfl) func
  (ChangeSpec.witness6 (enc:=enc) (C:=Tryz.checked) false ⟨#[],#[.slice none 0 0,.slice none 0 0],[]⟩ 8 (by kernel_rfl) (by kernel_rfl) (by kernel_rfl) (by kernel_rfl)) ?_
 intro W base args ds gs before hval hW _ _
 exact contract H enc W base args ds gs before hval hW
theorem proved:Rows.FnDeskAllSaid :=
 OpenClaim.holds_of_wide 10 Tryz.f10 rfl rfl rfl rfl rfl rfl rfl ⟨rfl,rfl,rfl,rfl,rfl⟩ rfl rfl rfl rfl rfl (by kernel_rfl) func (by kernel_rfl)
  (of_decide_eq_true (by kernel_rfl)) (by unfold Func.isWrapper;first|(rw[if_pos (by decide +kernel)];kernel_rfl)|(rw[if_neg (by decide +kernel)];exact⟨rfl,rfl⟩))
  (fun os started H enc _=>lifted os started H enc)
#print axioms proved
end Go.Proofs.YtahfbeiobndhkaaGreat.fnDeskAll
