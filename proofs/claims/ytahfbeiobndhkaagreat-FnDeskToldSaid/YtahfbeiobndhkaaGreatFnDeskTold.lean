/- PROVED: Rows.FnDeskToldSaid: whatever the input, laws.FnDeskTold returns true, and its arguments read as they did. No condition beyond the statement's own. -/
import Derived.Test.YtahfbeiobndhkaaGreatZb
import Derived.Test.YtahfbeiobndhkaaGreatHa
import Derived.Test.YtahfbeiobndhkaaGreatJa
import Derived.Test.YtahfbeiobndhkaaGreatRows
set_option linter.all false
namespace Dx
open Go Go.Proofs
def t_bs:Tree :=
 .letp .len [⟨.list,(.v 0)⟩]<|
 .letp .gtI [⟨(.int .i64),(.v 1)⟩,⟨(.int .i64),(.n 1048576)⟩]<|
 .ite (.v 2) (
 .ret [⟨.bool,(.b true)⟩])<|
 .call 0 [⟨.list,(.v 0)⟩] [.bool,.list,(.int .i64),.list,(.int .i64),(.int .i64),(.int .i64),(.int .i64)]<|
 .call 1 [⟨.bool,(.v 3)⟩,⟨.list,(.v 4)⟩,⟨(.int .i64),(.v 5)⟩,⟨.list,(.v 6)⟩,⟨(.int .i64),(.v 7)⟩,⟨(.int .i64),(.v 8)⟩,⟨(.int .i64),(.v 9)⟩,⟨(.int .i64),(.v 10)⟩] [.bool,.list,(.int .i64),.list]<|
 .call 2 [⟨.bool,(.v 3)⟩,⟨.list,(.v 4)⟩,⟨(.int .i64),(.v 5)⟩,⟨.list,(.v 6)⟩,⟨(.int .i64),(.v 7)⟩,⟨(.int .i64),(.v 8)⟩,⟨(.int .i64),(.v 9)⟩,⟨(.int .i64),(.v 10)⟩] [.bool,.list,(.int .i64),.list]<|
 .call 3 [⟨.bool,(.v 11)⟩,⟨.list,(.v 12)⟩,⟨(.int .i64),(.v 13)⟩,⟨.list,(.v 14)⟩,⟨.bool,(.v 15)⟩,⟨.list,(.v 16)⟩,⟨(.int .i64),(.v 17)⟩,⟨.list,(.v 18)⟩] [.bool]<|
 .letp .not [⟨.bool,(.v 19)⟩]<|
 .ite (.v 20) (
 .call 2 [⟨.bool,(.v 3)⟩,⟨.list,(.v 4)⟩,⟨(.int .i64),(.v 5)⟩,⟨.list,(.v 6)⟩,⟨(.int .i64),(.v 7)⟩,⟨(.int .i64),(.v 8)⟩,⟨(.int .i64),(.v 9)⟩,⟨(.int .i64),(.v 10)⟩] [.bool,.list,(.int .i64),.list]<|
 .call 3 [⟨.bool,(.v 11)⟩,⟨.list,(.v 12)⟩,⟨(.int .i64),(.v 13)⟩,⟨.list,(.v 14)⟩,⟨.bool,(.v 21)⟩,⟨.list,(.v 22)⟩,⟨(.int .i64),(.v 23)⟩,⟨.list,(.v 24)⟩] [.bool]<|
 .ret [⟨.bool,(.v 25)⟩])<|
 .call 4 [⟨.bool,(.v 3)⟩,⟨.list,(.v 4)⟩,⟨(.int .i64),(.v 5)⟩,⟨.list,(.v 6)⟩] [.bool]<|
 .letp .not [⟨.bool,(.v 21)⟩]<|
 .ite (.v 22) (
 .call 2 [⟨.bool,(.v 3)⟩,⟨.list,(.v 4)⟩,⟨(.int .i64),(.v 5)⟩,⟨.list,(.v 6)⟩,⟨(.int .i64),(.v 7)⟩,⟨(.int .i64),(.v 8)⟩,⟨(.int .i64),(.v 9)⟩,⟨(.int .i64),(.v 10)⟩] [.bool,.list,(.int .i64),.list]<|
 .call 3 [⟨.bool,(.v 11)⟩,⟨.list,(.v 12)⟩,⟨(.int .i64),(.v 13)⟩,⟨.list,(.v 14)⟩,⟨.bool,(.v 23)⟩,⟨.list,(.v 24)⟩,⟨(.int .i64),(.v 25)⟩,⟨.list,(.v 26)⟩] [.bool]<|
 .ret [⟨.bool,(.v 27)⟩])<|
 .letp .len [⟨.list,(.v 6)⟩]<|
 .letp .len [⟨.list,(.v 4)⟩]<|
 .letp .len [⟨.list,(.v 14)⟩]<|
 .letp .ltI [⟨(.int .i64),(.v 25)⟩,⟨(.int .i64),(.v 23)⟩]<|
 .ite (.v 26) (
 .ret [⟨.bool,(.b false)⟩])<|
 .letp .len [⟨.list,(.v 14)⟩]<|
 .letp (.add .i64) [⟨(.int .i64),(.v 23)⟩,⟨(.int .i64),(.n 1)⟩]<|
 .letp .gtI [⟨(.int .i64),(.v 27)⟩,⟨(.int .i64),(.v 28)⟩]<|
 .ite (.v 29) (
 .ret [⟨.bool,(.b false)⟩])<|
 .chk .upto [⟨(.int .i64),(.v 23)⟩,⟨.list,(.v 14)⟩]<|
 .letp .take [⟨.list,(.v 14)⟩,⟨(.int .i64),(.v 23)⟩]<|
 .call 5 [⟨.list,(.v 30)⟩,⟨.list,(.v 6)⟩] [.bool]<|
 .letp .not [⟨.bool,(.v 31)⟩]<|
 .ite (.v 32) (
 .ret [⟨.bool,(.b false)⟩])<|
 .letp .len [⟨.list,(.v 12)⟩]<|
 .letp (.add .i64) [⟨(.int .i64),(.v 24)⟩,⟨(.int .i64),(.n 1)⟩]<|
 .letp .gtI [⟨(.int .i64),(.v 33)⟩,⟨(.int .i64),(.v 34)⟩]<|
 .ite (.v 35) (
 .ret [⟨.bool,(.b false)⟩])<|
 .chk .upto [⟨(.int .i64),(.v 24)⟩,⟨.list,(.v 12)⟩]<|
 .letp .take [⟨.list,(.v 12)⟩,⟨(.int .i64),(.v 24)⟩]<|
 .call 6 [⟨.list,(.v 36)⟩,⟨.list,(.v 4)⟩] [.bool]<|
 .letp .not [⟨.bool,(.v 37)⟩]<|
 .ite (.v 38) (
 .ret [⟨.bool,(.b false)⟩])<|
 .letp .neI [⟨(.int .i64),(.v 13)⟩,⟨(.int .i64),(.v 5)⟩]<|
 .ite (.v 39) (
 .ret [⟨.bool,(.b false)⟩])<|
 .ite (.v 3) (
 .call 7 [⟨(.int .i64),(.v 7)⟩,⟨(.int .i64),(.v 8)⟩,⟨(.int .i64),(.v 9)⟩,⟨(.int .i64),(.v 10)⟩] [.bool]<|
 .ite (.v 40) (
 .letp .geI [⟨(.int .i64),(.v 7)⟩,⟨(.int .i64),(.n 4)⟩]<|
 .ite (.v 41) (
 .call 8 [⟨.bool,(.v 3)⟩,⟨.list,(.v 4)⟩,⟨(.int .i64),(.v 5)⟩,⟨.list,(.v 6)⟩,⟨.bool,(.b false)⟩] [.list]<|
 .letp .len [⟨.list,(.v 42)⟩]<|
 .letp .leI [⟨(.int .i64),(.v 9)⟩,⟨(.int .i64),(.v 43)⟩]<|
 .call 9 [⟨.list,(.v 14)⟩,⟨(.int .i64),(.v 7)⟩,⟨(.int .i64),(.v 8)⟩,⟨(.int .i64),(.v 9)⟩,⟨(.int .i64),(.v 10)⟩] [.bool]<|
 .letp .eqB [⟨.bool,(.v 44)⟩,⟨.bool,(.v 45)⟩]<|
 .ite (.v 46) (
 .ret [⟨.bool,(.b true)⟩])<|
 .call 9 [⟨.list,(.v 6)⟩,⟨(.int .i64),(.v 7)⟩,⟨(.int .i64),(.v 8)⟩,⟨(.int .i64),(.v 9)⟩,⟨(.int .i64),(.v 10)⟩] [.bool]<|
 .ret [⟨.bool,(.v 47)⟩])<|
 .call 9 [⟨.list,(.v 14)⟩,⟨(.int .i64),(.v 7)⟩,⟨(.int .i64),(.v 8)⟩,⟨(.int .i64),(.v 9)⟩,⟨(.int .i64),(.v 10)⟩] [.bool]<|
 .letp .eqB [⟨.bool,(.b false)⟩,⟨.bool,(.v 42)⟩]<|
 .ite (.v 43) (
 .ret [⟨.bool,(.b true)⟩])<|
 .call 9 [⟨.list,(.v 6)⟩,⟨(.int .i64),(.v 7)⟩,⟨(.int .i64),(.v 8)⟩,⟨(.int .i64),(.v 9)⟩,⟨(.int .i64),(.v 10)⟩] [.bool]<|
 .ret [⟨.bool,(.v 44)⟩])<|
 .call 9 [⟨.list,(.v 14)⟩,⟨(.int .i64),(.v 7)⟩,⟨(.int .i64),(.v 8)⟩,⟨(.int .i64),(.v 9)⟩,⟨(.int .i64),(.v 10)⟩] [.bool]<|
 .letp .eqB [⟨.bool,(.b false)⟩,⟨.bool,(.v 41)⟩]<|
 .ite (.v 42) (
 .ret [⟨.bool,(.b true)⟩])<|
 .call 9 [⟨.list,(.v 6)⟩,⟨(.int .i64),(.v 7)⟩,⟨(.int .i64),(.v 8)⟩,⟨(.int .i64),(.v 9)⟩,⟨(.int .i64),(.v 10)⟩] [.bool]<|
 .ret [⟨.bool,(.v 43)⟩])<|
 .call 9 [⟨.list,(.v 14)⟩,⟨(.int .i64),(.v 7)⟩,⟨(.int .i64),(.v 8)⟩,⟨(.int .i64),(.v 9)⟩,⟨(.int .i64),(.v 10)⟩] [.bool]<|
 .letp .eqB [⟨.bool,(.b false)⟩,⟨.bool,(.v 40)⟩]<|
 .ite (.v 41) (
 .ret [⟨.bool,(.b true)⟩])<|
 .call 9 [⟨.list,(.v 6)⟩,⟨(.int .i64),(.v 7)⟩,⟨(.int .i64),(.v 8)⟩,⟨(.int .i64),(.v 9)⟩,⟨(.int .i64),(.v 10)⟩] [.bool]<|
 .ret [⟨.bool,(.v 42)⟩]
noncomputable def Φ_bs:Phi:=fun n=>match n with
 | 0=>mp
 | 1=>gF
 | 2=>mq
 | 3=>cW
 | 4=>dU
 | 5=>iN
 | 6=>jp
 | 7=>hD
 | 8=>dh
 | 9=>mr
 | _=>fun _=>none
noncomputable def φ_bs(cs:List C):Option (List C):=aj (den Φ_bs t_bs cs)
end Dx
namespace Dx
open Go
section
variable {code:List Int}
set_option maxHeartbeats 4000000 in
theorem law_DeskTold(hl:code.length ≤ 1099511627776)(hc:fk code):φ_bs [.list (code.map eB)]=some [.bool true]:=by
 unfold φ_bs t_bs
 refine dm rfl rfl rfl rfl rfl hl hc fun d x ok=>?_
 have e5:Φ_bs 5=iN:=rfl
 have e6:Φ_bs 6=jp:=rfl
 have e7:Φ_bs 7=hD:=rfl
 have e8:Φ_bs 8=dh:=rfl
 have e9:Φ_bs 9=mr:=rfl
 have hS:DkS ⟨d.up,⟨d.lg.rs,d.lg.f⟩,d.td⟩:=ok.S
 have hok:aU d=true:=deskOk_iff.2 ok
 have pt:=aW hS (b:=false)
 simp only[eE,eG]at pt
 rw[if_pos hok]at pt
 obtain⟨⟨l1,r1,r2⟩,r3,⟨l2,r4,r5⟩,r6⟩:=Cq d x
 have hsaid:bd d x=true → (dhear d x).td.contains x=true:=xS
 have hnot:bd d x=false → dhear d x=d:=rj
 have oy:DkOk (dhear d x):=(ok.hear x).1
 have hdh:bd d x=(d.up && (bg x && (decide (x.k ≥ 4) && decide (x.t ≤ ((ah d.lg false).length:Nat))))):=rfl
 generalize dhear d x=y at *
 have htl:=ok.tdlen
 have hrl:=ok.S.lg.1
 have hrm:=ok.S.lg.2
 have sy:=t6 (td:=y.td) (k:=x.k) (h:=x.h) (t:=x.t) (m:=x.m) (by have:=oy.tdlen;omega)
 have sd:=t6 (td:=d.td) (k:=x.k) (h:=x.h) (t:=x.t) (m:=x.m) (by omega)
 simp only[nG]at sy sd
 have tk1:(y.td.map Word.e).take ((((d.td.map Word.e).length:Nat):Int)).toNat=d.td.map Word.e:=by
  rw[Int.toNat_natCast,r4,List.map_append,List.take_left]
 have tk2:(y.lg.rs.map Rec.e).take ((((d.lg.rs.map Rec.e).length:Nat):Int)).toNat=d.lg.rs.map Rec.e:=by
  rw[Int.toNat_natCast,r1,List.map_append,List.take_left]
 have len1:(y.td.map Word.e).length=(d.td.map Word.e).length+l2.length:=by rw[r4];simp
 have len2:(y.lg.rs.map Rec.e).length=(d.lg.rs.map Rec.e).length+l1.length:=by rw[r1];simp
 have lb1:(d.td.map Word.e).length ≤ 2000000:=by rw[List.length_map];omega
 have lb2:(d.lg.rs.map Rec.e).length ≤ 2000000:=by rw[List.length_map];omega
 have nw:iN [.list (d.td.map Word.e),.list (d.td.map Word.e)]=some [.bool true]:=by rw[nS (by omega)];simp
 have nr:jp [.list (d.lg.rs.map Rec.e),.list (d.lg.rs.map Rec.e)]=some [.bool true]:=by rw[zD (by omega) hrm];simp
 have b1:¬ ((((y.td.map Word.e).length:Nat):Int)<(((d.td.map Word.e).length:Nat):Int)):=by omega
 have w1:IntKind.wrap .i64 ((((d.td.map Word.e).length:Nat):Int)+1)=(((d.td.map Word.e).length+1:Nat):Int):=au (by omega)
 have w2:IntKind.wrap .i64 ((((d.lg.rs.map Rec.e).length:Nat):Int)+1)=(((d.lg.rs.map Rec.e).length+1:Nat):Int):=au (by omega)
 have b2:¬ ((((y.td.map Word.e).length:Nat):Int)>(((d.td.map Word.e).length+1:Nat):Int)):=by omega
 have b3:¬ ((((y.lg.rs.map Rec.e).length:Nat):Int)>(((d.lg.rs.map Rec.e).length+1:Nat):Int)):=by omega
 have c1:(decide ((0:Int) ≤ (((d.td.map Word.e).length:Nat):Int)) && decide ((((d.td.map Word.e).length:Nat):Int) ≤ (((y.td.map Word.e).length:Nat):Int)))=true:=by
  simp only[Bool.and_eq_true,decide_eq_true_eq];omega
 have c2:(decide ((0:Int) ≤ (((d.lg.rs.map Rec.e).length:Nat):Int)) && decide ((((d.lg.rs.map Rec.e).length:Nat):Int) ≤ (((y.lg.rs.map Rec.e).length:Nat):Int)))=true:=by
  simp only[Bool.and_eq_true,decide_eq_true_eq];omega
 have b4:(y.lg.f != d.lg.f)=false:=by rw[r3];simp
 unfold iZ
 refine sl rfl (sl rfl (sl rfl (sl (congrArg C.bool (decide_eq_false b1)) (sf rfl (sl rfl (sl (congrArg (C.int .i64) w1) (sl (congrArg C.bool (decide_eq_false b2)) (sf rfl (sk c1 (sl (congrArg C.list tk1) ?_))))))))))
 simp only[List.cons_append,List.nil_append]
 refine sc e5 nw rfl rfl (sl rfl (sf rfl (sl rfl (sl (congrArg (C.int .i64) w2) (sl (congrArg C.bool (decide_eq_false b3)) (sf rfl (sk c2 (sl (congrArg C.list tk2) ?_))))))))
 simp only[List.cons_append,List.nil_append]
 refine sc e6 nr rfl rfl (sl rfl (sf rfl (sl (congrArg C.bool b4) (sf rfl ?_))))
 simp only[List.cons_append,List.nil_append]
 have fin:∀ b:Bool,(b=true → y.td.contains x=true) → (b=false → y=d) → (b==y.td.contains x)=true ∨ ((b==y.td.contains x)=false ∧ d.td.contains x=true):=by
  intro b g1 g2
  cases b with
  | true=>left;rw[g1 rfl];rfl
  | false =>
   rw[g2 rfl]
   cases d.td.contains x with
   | true=>right;exact⟨rfl,rfl⟩
   | false=>left;rfl
 cases hu:d.up with
 | false =>
  rw[hu,Bool.false_and]at hdh
  refine sf rfl ?_
  rcases fin false (fun e=>by cases e) (fun _=>hnot hdh)with g|⟨g1,g2⟩
  ·exact sc e9 sy rfl rfl (sl (congrArg C.bool g) (st rfl (dR rfl)))
  ·rw[g2]at sd
   exact sc e9 sy rfl rfl (sl (congrArg C.bool g1) (sf rfl (sc e9 sd rfl rfl (dR rfl))))
 | true =>
  rw[hu,Bool.true_and]at hdh
  have pw:=iG (k:=x.k) (h:=x.h) (t:=x.t) (m:=x.m)
  simp only[nG]at pw
  rw[hu]at pt
  refine st rfl ?_
  cases hw:bg x with
  | false =>
   rw[hw]at pw
   rw[hw,Bool.false_and]at hdh
   refine sc e7 pw rfl rfl (sf rfl ?_)
   simp only[List.cons_append,List.nil_append]
   rcases fin false (fun e=>by cases e) (fun _=>hnot hdh)with g|⟨g1,g2⟩
   ·exact sc e9 sy rfl rfl (sl (congrArg C.bool g) (st rfl (dR rfl)))
   ·rw[g2]at sd
    exact sc e9 sy rfl rfl (sl (congrArg C.bool g1) (sf rfl (sc e9 sd rfl rfl (dR rfl))))
  | true =>
   rw[hw]at pw
   rw[hw,Bool.true_and]at hdh
   refine sc e7 pw rfl rfl (st rfl ?_)
   simp only[List.cons_append,List.nil_append]
   by_cases hk:x.k ≥ 4
   ·rw[decide_eq_true hk,Bool.true_and]at hdh
    have hb:decide (x.t ≤ (((ah d.lg false).map Trip.e).length:Nat))=bd d x:=by rw[hdh,List.length_map]
    refine sl (congrArg C.bool (decide_eq_true hk)) (st rfl (sc e8 pt rfl rfl (sl rfl (sl (congrArg C.bool hb) ?_))))
    simp only[List.cons_append,List.nil_append]
    rcases fin (bd d x) hsaid hnot with g|⟨g1,g2⟩
    ·exact sc e9 sy rfl rfl (sl (congrArg C.bool g) (st rfl (dR rfl)))
    ·rw[g2]at sd
     exact sc e9 sy rfl rfl (sl (congrArg C.bool g1) (sf rfl (sc e9 sd rfl rfl (dR rfl))))
   ·rw[decide_eq_false hk,Bool.false_and]at hdh
    refine sl (congrArg C.bool (decide_eq_false hk)) (sf rfl ?_)
    rcases fin false (fun e=>by cases e) (fun _=>hnot hdh)with g|⟨g1,g2⟩
    ·exact sc e9 sy rfl rfl (sl (congrArg C.bool g) (st rfl (dR rfl)))
    ·rw[g2]at sd
     exact sc e9 sy rfl rfl (sl (congrArg C.bool g1) (sf rfl (sc e9 sd rfl rfl (dR rfl))))
end
end Dx
namespace Dx
open Go Go.Proofs
def c_bs:Con:=⟨[.own false [.val] [.list] false],[⟨false,[.val],[.bool],false⟩]⟩
theorem has_bs:Has Tryz.prog 11 c_bs φ_bs:=fp (R:=[]) (tr:=false) (E:=[(33,0,Ek),(34,1,Cb),(35,2,El),(23,3,sM),(36,4,sL),(37,5,FC),(20,6,IB),(38,7,DV),(25,8,yq),(39,9,IF)]) (Φ:=Φ_bs) (t:=t_bs) ⟨p8,mJ,p9,gp,gn,uh,zV,pW,i6,zZ,trivial⟩ Tryz.f11 hE (by kernel_rfl)
end Dx
namespace Go.Proofs.YtahfbeiobndhkaaGreat.fnDeskTold
open Go.ChangeShapes Go.WideShapes Go.ChangeAt Go.RowKit Dx
set_option linter.unusedVariables false
set_option maxRecDepth 100000
theorem own:ownKnob Tryz.prog.godebug=none:=by kernel_rfl
theorem params:Tryz.f11.params=#[22]:=by kernel_rfl
theorem results:Tryz.f11.resultTypes=#[4]:=by kernel_rfl
theorem t22:Tryz.prog.underlying 22=some (.slice 5):=by kernel_rfl
theorem t5:Tryz.prog.underlying 5=some (.int .u8):=by kernel_rfl
theorem t4:Tryz.prog.underlying 4=some .bool:=by kernel_rfl
theorem c5:Tryz.prog.cellsOf 5=1:=by kernel_rfl
theorem func:Tryz.prog.funcs[11]?=some Tryz.f11:=by kernel_rfl
theorem contract(H:Type)(enc:TypeId×Value → H)(W:World)(base:Nat)(args:Array Value)(ds gs:List (DataW H))(before:List MemPlace)
  (hval:∀(j:Nat) t v,Tryz.f11.params[j]?=some t → args[j]?=some v → Value.okWide Tryz.prog W .any base t v)
  (hW:DataW.Whole enc Tryz.prog Tryz.f11.params.toList Rows.fnDeskToldSpec.vars false W args.toList ds gs before) :
  Calls Tryz.prog 11 args W fun e W'=>∃ v,e=.returned v ∧ Rows.fnDeskToldSpec.post enc Tryz.prog Tryz.f11 false true false false W args v W':=by
 have hW':=hW
 obtain⟨p,q,hA0,hV,rfl,hfz,hnd⟩:=hW
 have hA:DataW.TrodAll enc Tryz.prog W 0 (fun _=>true) true Tryz.f11.params.toList args.toList ds p:=hA0
 rw[params]at hA hval
 obtain⟨v0,vs0,d0,ds0,p0,q0,hargs,rfl,rfl,h0,r0⟩:=trodAll_cons hA
 obtain⟨rfl,rfl,rfl⟩:=trodAll_nil r0
 obtain rfl:args=#[v0]:=by cases args;simp_all
 obtain⟨rfl,rfl⟩:=trodVars_none hV
 obtain⟨code,hb,hrep,hd,hshut⟩:=bA t22 t5 c5 (hval 0 22 v0 rfl rfl) h0
 have hlaw:φ_bs [.list (code.map cB)]=some [.bool true]:=by
  by_cases h:code.length ≤ 1048576
  ·exact law_DeskTold (by omega) hb
  ·unfold φ_bs t_bs
   exact mC (by rw[List.length_map];omega)
 refine(bU (vs:=[v0]) has_bs (by simp[dq]) ⟨[.list (code.map cB)],[],v0,[],[],[],rfl,rfl,rfl,cv hrep,rfl,rfl,rfl⟩ hlaw).mono ?_
 rintro e W' ⟨rfl,h1,h2,h3⟩
 refine⟨_,rfl,[d0],[],p0,[],p0,[],by simpa using hW',trodAll_cons_mk (shut_bool t4 _) trodAll_mk0,?_,rfl,de h1 h2 h3 _,fun h=>by cases h⟩
 rw[params]
 have:=trodAll_cons_mk (hshut W' h3) (trodAll_mk0 (enc:=enc) (P:=Tryz.prog) (w:=W') (base:=0) (spare:=fun b=>decide (b<W.heap.size)) (held:=true))
 rw[List.append_nil]at this
 exact this
set_option maxRecDepth 100000 in
theorem lifted(os:Os)(started:os.Started)(H:Type)(enc:TypeId×Value → H) :
  ReturnsInHanded {} Tryz.checked os 11 .any (Rows.fnDeskToldSpec.pre6 enc Tryz.prog Tryz.f11 Rows.fnDeskToldRow.domain false) (Rows.fnDeskToldSpec.post enc Tryz.prog Tryz.f11 false true false false):=by
 refine returnsInHanded_of_change (C:=Tryz.checked) own started (by kernel_rfl) func
  (ChangeSpec.witness6 (enc:=enc) (C:=Tryz.checked) false ⟨#[],#[.slice none 0 0],[]⟩ 8 (by kernel_rfl) (by kernel_rfl) (by kernel_rfl) (by kernel_rfl)) ?_
 intro W base args ds gs before hval hW _ _
 exact contract H enc W base args ds gs before hval hW
theorem proved:Rows.FnDeskToldSaid :=
 OpenClaim.holds_of_wide 11 Tryz.f11 rfl rfl rfl rfl rfl rfl rfl ⟨rfl,rfl,rfl,rfl,rfl⟩ rfl rfl rfl rfl rfl (by kernel_rfl) func (by kernel_rfl)
  (of_decide_eq_true (by kernel_rfl)) (by unfold Func.isWrapper;first|(rw[if_pos (by decide +kernel)];kernel_rfl)|(rw[if_neg (by decide +kernel)];exact⟨rfl,rfl⟩))
  (fun os started H enc _=>lifted os started H enc)
#print axioms proved
end Go.Proofs.YtahfbeiobndhkaaGreat.fnDeskTold
