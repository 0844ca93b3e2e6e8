/- PROVED: Rows.FnDeskYesSaid: whatever the input, laws.FnDeskYes returns true, and its arguments read as they did. No condition beyond the statement's own. -/
import Derived.Test.YtahfbeiobndhkaaGreatZb
import Derived.Test.YtahfbeiobndhkaaGreatHa
import Derived.Test.YtahfbeiobndhkaaGreatJa
import Derived.Test.YtahfbeiobndhkaaGreatRows
set_option linter.all false
namespace Dx
open Go Go.Proofs
def t_cb:Tree :=
 .letp .len [⟨.list,(.v 0)⟩]<|
 .letp .gtI [⟨(.int .i64),(.v 1)⟩,⟨(.int .i64),(.n 1048576)⟩]<|
 .ite (.v 2) (
 .ret [⟨.bool,(.b true)⟩])<|
 .call 0 [⟨.list,(.v 0)⟩] [.bool,.list,(.int .i64),.list,(.int .i64),(.int .i64),(.int .i64),(.int .i64)]<|
 .call 1 [⟨.bool,(.v 3)⟩,⟨.list,(.v 4)⟩,⟨(.int .i64),(.v 5)⟩,⟨.list,(.v 6)⟩,⟨(.int .i64),(.v 7)⟩,⟨(.int .i64),(.v 8)⟩,⟨(.int .i64),(.v 9)⟩,⟨(.int .i64),(.v 10)⟩] [.bool,.list,(.int .i64),.list]<|
 .call 2 [⟨.bool,(.v 3)⟩,⟨.list,(.v 4)⟩,⟨(.int .i64),(.v 5)⟩,⟨.list,(.v 6)⟩,⟨(.int .i64),(.v 7)⟩,⟨(.int .i64),(.v 8)⟩,⟨(.int .i64),(.v 9)⟩,⟨(.int .i64),(.v 10)⟩] [.bool,.list,(.int .i64),.list]<|
 .call 3 [⟨.bool,(.v 11)⟩,⟨.list,(.v 12)⟩,⟨(.int .i64),(.v 13)⟩,⟨.list,(.v 14)⟩,⟨.bool,(.v 15)⟩,⟨.list,(.v 16)⟩,⟨(.int .i64),(.v 17)⟩,⟨.list,(.v 18)⟩] [.bool]<|
 .letp .not [⟨.bool,(.v 19)⟩]<|
 .ite (.v 20) (
 .call 2 [⟨.bool,(.v 3)⟩,⟨.list,(.v 4)⟩,⟨(.int .i64),(.v 5)⟩,⟨.list,(.v 6)⟩,⟨(.int .i64),(.v 7)⟩,⟨(.int .i64),(.v 8)⟩,⟨(.int .i64),(.v 9)⟩,⟨(.int .i64),(.v 10)⟩] [.bool,.list,(.int .i64),.list]<|
 .call 3 [⟨.bool,(.v 11)⟩,⟨.list,(.v 12)⟩,⟨(.int .i64),(.v 13)⟩,⟨.list,(.v 14)⟩,⟨.bool,(.v 21)⟩,⟨.list,(.v 22)⟩,⟨(.int .i64),(.v 23)⟩,⟨.list,(.v 24)⟩] [.bool]<|
 .ret [⟨.bool,(.v 25)⟩])<|
 .call 4 [⟨.bool,(.v 3)⟩,⟨.list,(.v 4)⟩,⟨(.int .i64),(.v 5)⟩,⟨.list,(.v 6)⟩] [.bool]<|
 .letp .not [⟨.bool,(.v 21)⟩]<|
 .ite (.v 22) (
 .call 2 [⟨.bool,(.v 3)⟩,⟨.list,(.v 4)⟩,⟨(.int .i64),(.v 5)⟩,⟨.list,(.v 6)⟩,⟨(.int .i64),(.v 7)⟩,⟨(.int .i64),(.v 8)⟩,⟨(.int .i64),(.v 9)⟩,⟨(.int .i64),(.v 10)⟩] [.bool,.list,(.int .i64),.list]<|
 .call 3 [⟨.bool,(.v 11)⟩,⟨.list,(.v 12)⟩,⟨(.int .i64),(.v 13)⟩,⟨.list,(.v 14)⟩,⟨.bool,(.v 23)⟩,⟨.list,(.v 24)⟩,⟨(.int .i64),(.v 25)⟩,⟨.list,(.v 26)⟩] [.bool]<|
 .ret [⟨.bool,(.v 27)⟩])<|
 .call 5 [⟨.bool,(.v 3)⟩,⟨.list,(.v 4)⟩,⟨(.int .i64),(.v 5)⟩,⟨.list,(.v 6)⟩,⟨.bool,(.b false)⟩] [.list]<|
 .call 5 [⟨.bool,(.v 11)⟩,⟨.list,(.v 12)⟩,⟨(.int .i64),(.v 13)⟩,⟨.list,(.v 14)⟩,⟨.bool,(.b false)⟩] [.list]<|
 .iter [⟨(.int .i64),(.n 0)⟩]<|
 .letp .len [⟨.list,(.v 23)⟩]<|
 .letp .ltI [⟨(.int .i64),(.v 25)⟩,⟨(.int .i64),(.v 26)⟩]<|
 .ite (.v 27) (
 .row (.v 23) (.v 25) [.list,(.int .i64)]<|
 .row (.v 24) (.v 25) [.list,(.int .i64)]<|
 .letp .eqI [⟨(.int .i64),(.v 29)⟩,⟨(.int .i64),(.v 31)⟩]<|
 .ite (.v 32) (
 .letp (.add .i64) [⟨(.int .i64),(.v 25)⟩,⟨(.int .i64),(.n 1)⟩]<|
 .jump [⟨(.int .i64),(.v 33)⟩])<|
 .iter [⟨.bool,(.b false)⟩,⟨(.int .i64),(.n 1)⟩]<|
 .letp .leI [⟨(.int .i64),(.v 34)⟩,⟨(.int .i64),(.n 3)⟩]<|
 .ite (.v 35) (
 .ite (.v 33) (
 .letp (.add .i64) [⟨(.int .i64),(.v 34)⟩,⟨(.int .i64),(.n 1)⟩]<|
 .jump [⟨.bool,(.b true)⟩,⟨(.int .i64),(.v 36)⟩])<|
 .row (.v 23) (.v 25) [.list,(.int .i64)]<|
 .letp (.sub .i64) [⟨(.int .i64),(.v 34)⟩,⟨(.int .i64),(.n 1)⟩]<|
 .row (.v 36) (.v 38) [(.int .i64)]<|
 .letp .gtI [⟨(.int .i64),(.v 39)⟩,⟨(.int .i64),(.n 0)⟩]<|
 .ite (.v 40) (
 .letp (.add .i64) [⟨(.int .i64),(.v 25)⟩,⟨(.int .i64),(.n 1)⟩]<|
 .call 6 [⟨.list,(.v 14)⟩,⟨(.int .i64),(.n 5)⟩,⟨(.int .i64),(.v 34)⟩,⟨(.int .i64),(.v 41)⟩,⟨(.int .i64),(.n 0)⟩] [.bool]<|
 .letp (.add .i64) [⟨(.int .i64),(.v 34)⟩,⟨(.int .i64),(.n 1)⟩]<|
 .jump [⟨.bool,(.v 42)⟩,⟨(.int .i64),(.v 43)⟩])<|
 .letp (.add .i64) [⟨(.int .i64),(.v 34)⟩,⟨(.int .i64),(.n 1)⟩]<|
 .jump [⟨.bool,(.b false)⟩,⟨(.int .i64),(.v 41)⟩])<|
 .up<|
 .row (.v 24) (.v 25) [.list,(.int .i64)]<|
 .letp .eqI [⟨(.int .i64),(.v 37)⟩,⟨(.int .i64),(.n 2)⟩]<|
 .ite (.v 38) (
 .row (.v 23) (.v 25) [.list,(.int .i64)]<|
 .letp .neI [⟨(.int .i64),(.v 40)⟩,⟨(.int .i64),(.n 1)⟩]<|
 .ite (.v 41) (
 .up<|
 .ret [⟨.bool,(.b false)⟩])<|
 .letp (.add .i64) [⟨(.int .i64),(.v 25)⟩,⟨(.int .i64),(.n 1)⟩]<|
 .row (.v 23) (.v 25) [.list,(.int .i64)]<|
 .call 7 [⟨.list,(.v 14)⟩,⟨(.int .i64),(.v 42)⟩,⟨.list,(.v 43)⟩,⟨(.int .i64),(.n 4)⟩] [.bool]<|
 .letp .not [⟨.bool,(.v 45)⟩]<|
 .ite (.v 46) (
 .up<|
 .ret [⟨.bool,(.b false)⟩])<|
 .letp (.add .i64) [⟨(.int .i64),(.v 25)⟩,⟨(.int .i64),(.n 1)⟩]<|
 .jump [⟨(.int .i64),(.v 47)⟩])<|
 .letp .eqI [⟨(.int .i64),(.v 37)⟩,⟨(.int .i64),(.n 3)⟩]<|
 .ite (.v 39) (
 .row (.v 23) (.v 25) [.list,(.int .i64)]<|
 .letp .neI [⟨(.int .i64),(.v 41)⟩,⟨(.int .i64),(.n 1)⟩]<|
 .ite (.v 42) (
 .up<|
 .ret [⟨.bool,(.b false)⟩])<|
 .letp .not [⟨.bool,(.v 33)⟩]<|
 .ite (.v 43) (
 .up<|
 .ret [⟨.bool,(.b false)⟩])<|
 .letp (.add .i64) [⟨(.int .i64),(.v 25)⟩,⟨(.int .i64),(.n 1)⟩]<|
 .jump [⟨(.int .i64),(.v 44)⟩])<|
 .letp (.add .i64) [⟨(.int .i64),(.v 25)⟩,⟨(.int .i64),(.n 1)⟩]<|
 .jump [⟨(.int .i64),(.v 40)⟩])<|
 .up<|
 .letp .len [⟨.list,(.v 23)⟩]<|
 .letp .len [⟨.list,(.v 24)⟩]<|
 .letp .eqI [⟨(.int .i64),(.v 28)⟩,⟨(.int .i64),(.v 29)⟩]<|
 .ite (.v 30) (
 .call 8 [⟨.bool,(.v 11)⟩,⟨.list,(.v 12)⟩,⟨(.int .i64),(.v 13)⟩,⟨.list,(.v 14)⟩] [.bool]<|
 .ret [⟨.bool,(.v 31)⟩])<|
 .ret [⟨.bool,(.b false)⟩]
noncomputable def Φ_cb:Phi:=fun n=>match n with
 | 0=>mp
 | 1=>gF
 | 2=>mq
 | 3=>cW
 | 4=>dU
 | 5=>dh
 | 6=>mr
 | 7=>qR
 | 8=>cu
 | _=>fun _=>none
noncomputable def φ_cb(cs:List C):Option (List C):=aj (den Φ_cb t_cb cs)
end Dx
namespace Dx
open Go
def anyTo(td:List Word)(t:Int)(m:List Int)(i:Nat):Bool:=aP td t 5 1 (m.take i)
theorem toldAny_snoc{td:List Word}{t k x:Int}:∀ {m:List Int} {h:Int},aP td t k h (m++[x])=(aP td t k h m || (decide (x>0) && td.contains ⟨k,h+m.length,t,0⟩))
 | [],h=>by simp[aP]
 | n::m,h=>by
  simp only[List.cons_append,aP,toldAny_snoc,List.length_cons,Bool.or_assoc]
  rw[show h+1+(m.length:Int)=h+((m.length+1:Nat):Int) by omega]
theorem anyTo_succ{td:List Word}{t:Int}{m:List Int}{i:Nat}{x:Int}(h:m[i]?=some x):anyTo td t m (i+1)=(anyTo td t m i || (decide (x>0) && td.contains ⟨5,((i+1:Nat):Int),t,0⟩)):=by
 have hi:=(List.getElem?_eq_some_iff.1 h).1
 unfold anyTo
 rw[List.take_add_one,h,Option.toList_some,toldAny_snoc,List.length_take,Nat.min_eq_left (by omega)]
 rw[show (1:Int)+(i:Int)=((i+1:Nat):Int) by omega]
theorem anyTo_all{td:List Word}{t:Int}{m:List Int}(h:m.length=3):anyTo td t m 3=aP td t 5 1 m:=by
 unfold anyTo;rw[List.take_of_length_le (by omega)]
section
variable {code:List Int}
set_option maxHeartbeats 8000000 in
theorem law_DeskYes(hl:code.length ≤ 1099511627776)(hc:fk code):φ_cb [.list (code.map eB)]=some [.bool true]:=by
 unfold φ_cb t_cb
 refine dm rfl rfl rfl rfl rfl hl hc fun d x ok=>?_
 have e5:Φ_cb 5=dh:=rfl
 have e6:Φ_cb 6=mr:=rfl
 have e7:Φ_cb 7=qR:=rfl
 have e8:Φ_cb 8=cu:=rfl
 have hch:=fun(t:Int) (ht:1 ≤ t)=>(kB ok x ht).1
 have hlen:=(kB ok x (t:=1) (by omega)).2
 have oy:DkOk (dhear d x):=(ok.hear x).1
 generalize dhear d x=y at *
 have hdS:DkS ⟨d.up,⟨d.lg.rs,d.lg.f⟩,d.td⟩:=ok.S
 have hyS:DkS ⟨y.up,⟨y.lg.rs,y.lg.f⟩,y.td⟩:=oy.S
 have t2:=aW (b:=false) hdS
 have t3:=aW (b:=false) hyS
 have o3:=bx hyS
 simp only[eE,eG]at t2 t3 o3
 rw[if_pos (deskOk_iff.2 ok)]at t2
 rw[if_pos (deskOk_iff.2 oy)]at t3
 rw[deskOk_iff.2 oy]at o3
 have htd:=oy.tdlen
 have trD:TrOk (ah d.lg false):=ok.trOk false
 have hD6:=trD.len
 have hL:(ah y.lg false).length=(ah d.lg false).length:=hlen
 have hLd:((((ah d.lg false).map Trip.e).length:Nat):Int)=((ah d.lg false).length:Nat):=by rw[List.length_map]
 have hLy:((((ah y.lg false).map Trip.e).length:Nat):Int)=((ah d.lg false).length:Nat):=by rw[List.length_map,hL]
 unfold iZ
 refine sc e5 t2 rfl rfl (sc e5 t3 rfl rfl ?_)
 simp only[List.cons_append,List.nil_append]
 rw[gk]
 simp only[aK,Cell.den,At.den,aa,C.toInt_int,C.toBool_bool,C.toList_list,c8]
 refine lr (I:=fun k ps=>∃ i:Nat,i+k=(ah d.lg false).length ∧ ps=[.int .i64 (i:Int)]) (o:=.ret [.bool true]) (ah d.lg false).length ⟨0,by omega,rfl⟩ ?_ rfl
 rintro k ps ⟨i,hik,rfl⟩
 by_cases hi:i<(ah d.lg false).length
 ·left
  refine⟨[.int .i64 ((i+1:Nat):Int)],k-1,by omega,?_,i+1,by omega,rfl⟩
  have hi':(i:Int)<((ah d.lg false).length:Nat):=by omega
  have we:IntKind.wrap .i64 ((i:Int)+1)=((i+1:Nat):Int):=by rw[az (by omega) (by omega)];omega
  have rb:(ah d.lg false)[i]?=some ((ah d.lg false)[i]'hi):=List.getElem?_eq_getElem hi
  have ra:(ah y.lg false)[i]?=some ((ah y.lg false)[i]'(by omega)):=List.getElem?_eq_getElem (by omega)
  have bm:=aT (tripOk_iff.1 (trD.ok _ (List.getElem_mem hi))).1
  have G:=hch ((i+1:Nat):Int) (by omega)
  generalize (ah d.lg false)[i]'hi=b at rb bm
  generalize (ah y.lg false)[i]'(by omega)=a at ra
  have ta:tAt (af y false) ((i+1:Nat):Int)=a:=pP ra
  have tb:tAt (af d false) ((i+1:Nat):Int)=b:=pP rb
  unfold Chg at G
  rw[ta,tb]at G
  obtain⟨cm,G⟩:=G
  refine dl (congrArg (C.int .i64) hLd) (dl (congrArg C.bool (decide_eq_true hi')) (yt rfl (yr rfl rfl (fun f=>cX rb) ?_)))
  simp only[List.cons_append,List.nil_append,Trip.e]
  refine yr rfl rfl (fun f=>cX ra) ?_
  simp only[List.cons_append,List.nil_append,Trip.e]
  by_cases hab:b.s=a.s
  ·have hq:(b.s==a.s)=true:=by rw[hab];simp
   exact dl (congrArg C.bool hq) (yt rfl (dl (congrArg (C.int .i64) we) (dj rfl)))
  have hq:(b.s==a.s)=false:=by rw[beq_eq_false_iff_ne];exact hab
  refine dl (congrArg C.bool hq) (yf rfl ?_)
  simp only[List.cons_append,List.nil_append]
  rw[gk]
  simp only[aK,Cell.den,At.den,aa,C.toInt_int,C.toBool_bool,C.toList_list,c8]
  refine vv (I:=fun k ps=>∃ j:Nat,j+k=3 ∧ ps=[.bool (anyTo y.td ((i+1:Nat):Int) b.m j),.int .i64 ((j+1:Nat):Int)]) ?_ 3 ⟨0,rfl,?_⟩
  ·rintro k ps ⟨j,hjk,rfl⟩
   have wj:IntKind.wrap .i64 (((j+1:Nat):Int)+1)=((j+1+1:Nat):Int):=by rw[az (by omega) (by omega)];omega
   by_cases hj:j<3
   ·left
    have hj':((j+1:Nat):Int) ≤ 3:=by omega
    refine⟨[.bool (anyTo y.td ((i+1:Nat):Int) b.m (j+1)),.int .i64 ((j+1+1:Nat):Int)],k-1,by omega,?_,j+1,by omega,rfl⟩
    have hx:b.m[j]?=some (b.m[j]'(by omega)):=List.getElem?_eq_getElem (by omega)
    generalize b.m[j]'(by omega)=z at hx
    rw[anyTo_succ hx]
    cases hA:anyTo y.td ((i+1:Nat):Int) b.m j with
    | true=>exact dl (congrArg C.bool (decide_eq_true hj')) (yt rfl (yt rfl (dl (congrArg (C.int .i64) wj) (dj rfl))))
    | false =>
     have wd:IntKind.wrap .i64 (((j+1:Nat):Int)-1)=(j:Int):=by rw[az (by omega) (by omega)];omega
     refine dl (congrArg C.bool (decide_eq_true hj')) (yt rfl (yf rfl (yr rfl rfl (fun f=>cX rb) ?_)))
     simp only[List.cons_append,List.nil_append,Trip.e]
     refine dl (congrArg (C.int .i64) wd) (yr rfl rfl (fun f=>fC hx) ?_)
     simp only[List.cons_append,List.nil_append,eI]
     have ns:=t6 (td:=y.td) (k:=5) (h:=((j+1:Nat):Int)) (t:=((i+1:Nat):Int)) (m:=0) (by omega)
     by_cases hz:z>0
     ·have:aK=aK:=rfl
      rw[decide_eq_true hz,Bool.true_and,Bool.false_or]
      refine dl (congrArg C.bool (decide_eq_true hz)) (yt rfl (dl (congrArg (C.int .i64) we) (dc e6 ns rfl rfl ?_)))
      simp only[List.cons_append,List.nil_append]
      exact dl (congrArg (C.int .i64) wj) (dj rfl)
     ·rw[decide_eq_false hz,Bool.false_and,Bool.false_or]
      exact dl (congrArg C.bool (decide_eq_false hz)) (yf rfl (dl (congrArg (C.int .i64) wj) (dj rfl)))
   ·right
    have hj3:j=3:=by omega
    subst hj3
    have hj':¬ (((3+1:Nat):Int) ≤ 3):=by omega
    rw[anyTo_all bm]
    refine dl (congrArg C.bool (decide_eq_false hj')) (yf rfl (yu (yr rfl rfl (fun f=>cX ra) ?_)))
    simp only[List.cons_append,List.nil_append,Trip.e]
    by_cases h2:a.s=2
    ·obtain⟨hb1,hal⟩:b.s=1 ∧ al y.td ((i+1:Nat):Int) 4 1 b.m=true:=by
      rcases G with c|⟨_,c1,c2⟩|⟨c,_⟩|⟨c,_⟩|⟨c,_⟩
      ·exact absurd c.symm hab
      ·exact⟨c1,c2⟩
      ·omega
      ·omega
      ·omega
     have na:=Ip (td:=y.td) (t:=((i+1:Nat):Int)) (k:=4) (m:=b.m) (by omega) (by omega)
     rw[hal]at na
     have q2:(a.s==2)=true:=by rw[h2];rfl
     have q1:(b.s != 1)=false:=by rw[hb1];rfl
     refine dl (congrArg C.bool q2) (yt rfl (yr rfl rfl (fun f=>cX rb) ?_))
     simp only[List.cons_append,List.nil_append,Trip.e]
     refine dl (congrArg C.bool q1) (yf rfl (dl (congrArg (C.int .i64) we) (yr rfl rfl (fun f=>cX rb) ?_)))
     simp only[List.cons_append,List.nil_append,Trip.e]
     exact dc e7 na rfl rfl (dl (v:=.bool false) rfl (yf rfl (dl (congrArg (C.int .i64) we) (dj rfl))))
    have q2:(a.s==2)=false:=by rw[beq_eq_false_iff_ne];exact h2
    refine dl (congrArg C.bool q2) (yf rfl ?_)
    by_cases h3:a.s=3
    ·obtain⟨hb1,han⟩:b.s=1 ∧ aP y.td ((i+1:Nat):Int) 5 1 b.m=true:=by
      rcases G with c|⟨c,_⟩|⟨_,c1,c2⟩|⟨c,_⟩|⟨c,_⟩
      ·exact absurd c.symm hab
      ·omega
      ·exact⟨c1,c2⟩
      ·omega
      ·omega
     rw[han]
     have q3:(a.s==3)=true:=by rw[h3];rfl
     have q1:(b.s != 1)=false:=by rw[hb1];rfl
     refine dl (congrArg C.bool q3) (yt rfl (yr rfl rfl (fun f=>cX rb) ?_))
     simp only[List.cons_append,List.nil_append,Trip.e]
     exact dl (congrArg C.bool q1) (yf rfl (dl (v:=.bool false) rfl (yf rfl (dl (congrArg (C.int .i64) we) (dj rfl)))))
    have q3:(a.s==3)=false:=by rw[beq_eq_false_iff_ne];exact h3
    exact dl (congrArg C.bool q3) (yf rfl (dl (congrArg (C.int .i64) we) (dj rfl)))
  ·rfl
 ·right
  have hi':¬ (i:Int)<((ah d.lg false).length:Nat):=by omega
  have hq:((((ah d.lg false).length:Nat):Int)==(((ah d.lg false).length:Nat):Int))=true:=by simp
  refine dl (congrArg (C.int .i64) hLd) (dl (congrArg C.bool (decide_eq_false hi')) (yf rfl (yu (dl (congrArg (C.int .i64) hLd) (dl (congrArg (C.int .i64) hLy) (dl (congrArg C.bool hq) (yt rfl ?_)))))))
  simp only[List.cons_append,List.nil_append]
  exact dc e8 o3 rfl rfl (yret rfl)
end
end Dx
namespace Dx
open Go Go.Proofs
def c_cb:Con:=⟨[.own false [.val] [.list] false],[⟨false,[.val],[.bool],false⟩]⟩
def h_cb:How:=⟨aB [(0,⟨[kI],[(2,(.bool (.b false))),(8,(sI 0))],[],[],0⟩),(2,⟨[.bool,kI],[(9,(.bool (.v 0))),(10,(sI 1))],[],[],0⟩)],
 aB [],
 aB []⟩
theorem has_cb:Has Tryz.prog 14 c_cb φ_cb:=fp (R:=[]) (tr:=false) (E:=[(33,0,Ek),(34,1,Cb),(35,2,El),(23,3,sM),(36,4,sL),(25,5,yq),(39,6,IF),(41,7,c_gj),(32,8,pX)]) (Φ:=Φ_cb) (t:=t_cb) ⟨p8,mJ,p9,gp,gn,i6,zZ,Em,eV,trivial⟩ Tryz.f14 h_cb (by kernel_rfl)
end Dx
namespace Go.Proofs.YtahfbeiobndhkaaGreat.fnDeskYes
open Go.ChangeShapes Go.WideShapes Go.ChangeAt Go.RowKit Dx
set_option linter.unusedVariables false
set_option maxRecDepth 100000
theorem own:ownKnob Tryz.prog.godebug=none:=by kernel_rfl
theorem params:Tryz.f14.params=#[22]:=by kernel_rfl
theorem results:Tryz.f14.resultTypes=#[4]:=by kernel_rfl
theorem t22:Tryz.prog.underlying 22=some (.slice 5):=by kernel_rfl
theorem t5:Tryz.prog.underlying 5=some (.int .u8):=by kernel_rfl
theorem t4:Tryz.prog.underlying 4=some .bool:=by kernel_rfl
theorem c5:Tryz.prog.cellsOf 5=1:=by kernel_rfl
theorem func:Tryz.prog.funcs[14]?=some Tryz.f14:=by kernel_rfl
theorem contract(H:Type)(enc:TypeId×Value → H)(W:World)(base:Nat)(args:Array Value)(ds gs:List (DataW H))(before:List MemPlace)
  (hval:∀(j:Nat) t v,Tryz.f14.params[j]?=some t → args[j]?=some v → Value.okWide Tryz.prog W .any base t v)
  (hW:DataW.Whole enc Tryz.prog Tryz.f14.params.toList Rows.fnDeskYesSpec.vars false W args.toList ds gs before) :
  Calls Tryz.prog 14 args W fun e W'=>∃ v,e=.returned v ∧ Rows.fnDeskYesSpec.post enc Tryz.prog Tryz.f14 false true false false W args v W':=by
 have hW':=hW
 obtain⟨p,q,hA0,hV,rfl,hfz,hnd⟩:=hW
 have hA:DataW.TrodAll enc Tryz.prog W 0 (fun _=>true) true Tryz.f14.params.toList args.toList ds p:=hA0
 rw[params]at hA hval
 obtain⟨v0,vs0,d0,ds0,p0,q0,hargs,rfl,rfl,h0,r0⟩:=trodAll_cons hA
 obtain⟨rfl,rfl,rfl⟩:=trodAll_nil r0
 obtain rfl:args=#[v0]:=by cases args;simp_all
 obtain⟨rfl,rfl⟩:=trodVars_none hV
 obtain⟨code,hb,hrep,hd,hshut⟩:=bA t22 t5 c5 (hval 0 22 v0 rfl rfl) h0
 have hlaw:φ_cb [.list (code.map cB)]=some [.bool true]:=by
  by_cases h:code.length ≤ 1048576
  ·exact law_DeskYes (by omega) hb
  ·unfold φ_cb t_cb
   exact mC (by rw[List.length_map];omega)
 refine(bU (vs:=[v0]) has_cb (by simp[dq]) ⟨[.list (code.map cB)],[],v0,[],[],[],rfl,rfl,rfl,cv hrep,rfl,rfl,rfl⟩ hlaw).mono ?_
 rintro e W' ⟨rfl,h1,h2,h3⟩
 refine⟨_,rfl,[d0],[],p0,[],p0,[],by simpa using hW',trodAll_cons_mk (shut_bool t4 _) trodAll_mk0,?_,rfl,de h1 h2 h3 _,fun h=>by cases h⟩
 rw[params]
 have:=trodAll_cons_mk (hshut W' h3) (trodAll_mk0 (enc:=enc) (P:=Tryz.prog) (w:=W') (base:=0) (spare:=fun b=>decide (b<W.heap.size)) (held:=true))
 rw[List.append_nil]at this
 exact this
set_option maxRecDepth 100000 in
theorem lifted(os:Os)(started:os.Started)(H:Type)(enc:TypeId×Value → H) :
  ReturnsInHanded {} Tryz.checked os 14 .any (Rows.fnDeskYesSpec.pre6 enc Tryz.prog Tryz.f14 Rows.fnDeskYesRow.domain false) (Rows.fnDeskYesSpec.post enc Tryz.prog Tryz.f14 false true false false):=by
 refine returnsInHanded_of_change (C:=Tryz.checked) own started (by kernel_rfl) func
  (ChangeSpec.witness6 (enc:=enc) (C:=Tryz.checked) false ⟨#[],#[.slice none 0 0],[]⟩ 8 (by kernel_rfl) (by kernel_rfl) (by kernel_rfl) (by kernel_rfl)) ?_
 intro W base args ds gs before hval hW _ _
 exact contract H enc W base args ds gs before hval hW
theorem proved:Rows.FnDeskYesSaid :=
 OpenClaim.holds_of_wide 14 Tryz.f14 rfl rfl rfl rfl rfl rfl rfl ⟨rfl,rfl,rfl,rfl,rfl⟩ rfl rfl rfl rfl rfl (by kernel_rfl) func (by kernel_rfl)
  (of_decide_eq_true (by kernel_rfl)) (by unfold Func.isWrapper;first|(rw[if_pos (by decide +kernel)];kernel_rfl)|(rw[if_neg (by decide +kernel)];exact⟨rfl,rfl⟩))
  (fun os started H enc _=>lifted os started H enc)
#print axioms proved
end Go.Proofs.YtahfbeiobndhkaaGreat.fnDeskYes
