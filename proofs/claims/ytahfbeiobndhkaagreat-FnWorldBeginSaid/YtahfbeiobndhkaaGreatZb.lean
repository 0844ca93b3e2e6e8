import Derived.Test.YtahfbeiobndhkaaGreatZa
set_option linter.all false
namespace Dx
open Go
section
variable {room:Int} {hs:List Hold} {k h t m:Int} {ns:List Word} {w:Wd}
theorem rC(hL:ns.length<=1000):xh [.list (ns.map Word.e)]=some [.bool (ns.any fun x=>!bg x)]:=by
 have h1:∀ x:Word,xf [.int .i64 x.k,.int .i64 x.h,.int .i64 x.t,.int .i64 x.m]=some [.bool (!bg x)]:=fun x=>by
  rw[q_cp];simp (disch:=first|assumption|omega|(simp only[zL];omega)) only[F_cp,iG,Int.reduceEq,reduceIte,zU,zT,aa]
 have hi:xg [.list (ns.map Word.e)]=some [.int .i64 (mQ (fun x=>!bg x) 0 ns)]:=by
  rw[q_aj];unfold F_aj
  simp only[List.length_map]
  rw[gQ (l:=ns) (fun x=>!bg x)]
  ·rfl
  ·intro i x hx
   have hi:=(List.getElem?_eq_some_iff.1 hx).1
   have hi':(i:Int)<(ns.length:Nat):=by omega
   simp (disch:=first|assumption|omega|(simp only[zL];omega)) only[zk,gJ hx,Word.e,h1,au,hi',if_true,Int.reduceEq,reduceIte,zT,aa]
   cases bg x<;>simp[hi']
  ·have h:¬ ((ns.length:Int)<(ns.length:Nat)):=by omega
   simp (disch:=first|assumption|omega|(simp only[zL];omega)) only[zk,h,if_false,Int.reduceEq,reduceIte,zU,zT,aa]
 rw[q_ac]
 simp (disch:=first|assumption|omega|(simp only[zL];omega)) only[F_ac,hi,dZ,Bool.decide_eq_true,Int.reduceEq,reduceIte,zU,zT,aa]
theorem WOk.cells(ho:WOk w){i:Nat}{x:House}(hx:w.hs[i]?=some x):LgOk ⟨x.lg.rs,x.lg.f⟩/\cz ⟨x.id,x.up,x.room,⟨x.lg.rs,x.lg.f⟩⟩=true/\x.id=((i+1:Nat):Int) :=
 ⟨(ho.hs i x hx).1.lg,houseOk_iff.2 (ho.hs i x hx).1,by have:=(ho.hs i x hx).2;omega⟩
theorem rD(ho:WOk w):m7 [.bool w.dk.up,.list (w.dk.lg.rs.map Rec.e),.int .i64 w.dk.lg.f,.list (w.dk.td.map Word.e),.list (w.hs.map House.e),.list (w.ns.map Word.e)]=some [.bool true]:=by
 rw[q_ec]
 have hdS:DkS ⟨w.dk.up,⟨w.dk.lg.rs,w.dk.lg.f⟩,w.dk.td⟩:=ho.dk.S
 have hdo:aU ⟨w.dk.up,⟨w.dk.lg.rs,w.dk.lg.f⟩,w.dk.td⟩=true:=deskOk_iff.2 ho.dk
 have h3:=ho.len
 have hn:=ho.nlen
 have h3':((w.hs.length:Nat):Int)=3:=by omega
 have hn':¬ (((w.ns.length:Nat):Int)>14):=by omega
 have hw:(w.ns.any fun x=>!bg x)=false:=by
  rw[List.any_eq_false]
  intro x hx
  rw[wordOk_iff.2 (ho.ns x hx)];simp
 simp (disch:=first|assumption|omega|(simp only[zL];omega)) only[F_ec,bx,hdo,h3',hn',if_true,if_false,Int.reduceEq,reduceIte,zU,zT,aa]
 rw[sH (l:=w.hs) (o:=.ret [.bool true])]
 ·rfl
 ·intro i x hx
  have hi:=(List.getElem?_eq_some_iff.1 hx).1
  have hi':(i:Int)<3:=by omega
  obtain⟨c1,c2,c3⟩:=ho.cells hx
  have c2':cz ⟨((i+1:Nat):Int),x.up,x.room,x.lg⟩=true:=by rw[<-c3];exact c2
  simp (disch:=first|assumption|omega|(simp only[zL];omega)) only[mD,fO hx,House.e,eT c1.S,c2',c3,au,hi',if_true,Int.reduceEq,reduceIte,zU,zT,aa]
 ·have h:¬ ((3:Int)<3):=by omega
  simp (disch:=first|assumption|omega|(simp only[zL];omega)) only[mD,h3',if_false,rC,hw,Int.lt_irrefl,Int.reduceEq,reduceIte,zU,zT,aa]
  try rfl
theorem pM(ho:WOk w):xi [.bool w.dk.up,.list (w.dk.lg.rs.map Rec.e),.int .i64 w.dk.lg.f,.list (w.dk.td.map Word.e),.list (w.hs.map House.e),.list (w.ns.map Word.e)]=some w.e:=by
 rw[q_az]
 have hdS:DkS ⟨w.dk.up,⟨w.dk.lg.rs,w.dk.lg.f⟩,w.dk.td⟩:=ho.dk.S
 have h3:=ho.len
 have hn:=ho.nlen
 simp (disch:=first|assumption|omega|(simp only[zL];omega)) only[F_az,cG hdS,Desk.e,vo,Da,Int.reduceEq,reduceIte,zU,zT,aa]
 refine Eq.trans (congrArg aj (aC (l:=w.hs) (enc:=fun i (s:List House)=>[.int .i64 i,.list (s.map House.e)])
  (res:=fun xs _ s=>.ret [.bool w.dk.up,.list (w.dk.lg.rs.map Rec.e),.int .i64 w.dk.lg.f,.list (w.dk.td.map Word.e),.list ((s++xs).map House.e),.list (w.ns.map Word.e)]) (fun i s=>s.length=i) (s:=[]) rfl ?_ ?_)) rfl
 ·intro i x xs s hx hs
  have hi:=(List.getElem?_eq_some_iff.1 hx).1
  have hi':(i:Int)<(w.hs.length:Nat):=by omega
  obtain⟨c1,c2,c3⟩:=ho.cells hx
  have hc:s.length+1<=1099511627776:=by omega
  simp (disch:=first|assumption|omega|(simp only[zL];omega)) only[zm,fO hx,House.e,dE c1.S,au,hi',hc,if_true,Int.reduceEq,reduceIte,zU,zT,aa]
  exact .inl ⟨s++[x],by simp[House.e],by simp[hs],by simp⟩
 ·intro s hs
  have h:¬ ((w.hs.length:Int)<(w.hs.length:Nat)):=by omega
  simp (disch:=first|assumption|omega|(simp only[zL];omega)) only[zm,h,if_false,Int.reduceEq,reduceIte,zU,zT,aa]
  simp
theorem eU(ho:WOk w){e:Ev}(hm:e.m.length<=1099511627776) :
  ia [.bool w.dk.up,.list (w.dk.lg.rs.map Rec.e),.int .i64 w.dk.lg.f,.list (w.dk.td.map Word.e),.list (w.hs.map House.e),.list (w.ns.map Word.e),.int .i64 e.k,.int .i64 e.a,.int .i64 e.b,.list (e.m.map eI)]=some (wdo w e).e:=by
 rw[q_fc]
 unfold F_fc
 rw[rD ho]
 simp only[Ae,aa,C.toBool_bool,Bool.not_true,aH]
 rw[pM ho]
 simp only[Wd.e,dK,aa,C.toInt_int,C.toList_list,C.toBool_bool]
 rw[i_do' ho hm]
 simp only[Wd.e,dK,aa,C.toInt_int,C.toList_list,C.toBool_bool]
 rfl
end
end Dx
namespace Dx
open Go
section
variable {code:List Int}
end
end Dx
namespace Dx
open Go
section
variable {code more:List Int}
end
end Dx
namespace Dx
open Go
theorem rowN{m:List Int}(hm:m.length=3){h:Nat}(hh:h<3){kk:IntKind}{f:List C->Option Out}:aE (.list (m.map eI)) (.int kk (h:Int)) [.int .i64] f=f (eI (mAt m ((h+1:Nat):Int))):=by
 refine fC ?_
 have e:(((h+1:Nat):Int)-1).toNat=h:=by omega
 rw[mAt,e,List.getElem?_eq_getElem (by omega)];rfl
section
variable {code:List Int}
end
end Dx
namespace Dx
open Go
section
variable {code more:List Int}
end
end Dx
namespace Dx
open Go
section
variable {w:Wd}
end
end Dx
namespace Dx
open Go
section
variable {w:Wd}
end
end Dx
namespace Dx
open Go
theorem Dr(a b c:C):nZ 1 ((0+1+1+1) / 1) [a,b,c]=[[a],[b],[c]]:=rfl
end Dx
namespace Dx
open Go
structure WS (w:Wd):Prop where
 dk:DkS w.dk
 hs:∀ x∈w.hs,LgS x.lg
 hl:w.hs.length<=2000000
 nl:w.ns.length<=2000000
theorem WOk.ws{w:Wd}(h:WOk w):WS w:=⟨h.dk.S,fun x hx=>by
 obtain⟨i,hi⟩:=List.getElem?_of_mem hx
 exact(h.hs i x hi).1.lg.S,by have:=h.len;omega,by have:=h.nlen;omega⟩
section
variable {up b:Bool} {rs:List Rec} {f:Int} {td:List Word} {k h t m:Int} {id room:Int} {hs:List House} {ns:List Word} {w:Wd}
theorem Aq(hl:LgS ⟨rs,f⟩):qL [.list (rs.map Rec.e),.int .i64 f]=some [.bool (fX ⟨rs,f⟩)]:=by
 rw[q_gg]
 have h1:=hl.1
 simp only at h1
 unfold F_gg
 refine Eq.trans (congrArg aj (aC (l:=rs) (enc:=fun i (_:Unit)=>[.int .i64 i]) (res:=fun xs _ _=>.ret [.bool (xs.all aA && (decide (rs.length<=40) && in_ f 0 rs.length))]) (fun _ _=>True) (s:=()) trivial ?_ ?_)) rfl
 ·intro i x xs _ hx _
  have hi:=(List.getElem?_eq_some_iff.1 hx).1
  have hi':(i:Int)<(rs.length:Nat):=by omega
  have hm:x.m.length<=1099511627776:=hl.2 x (List.mem_of_getElem? hx)
  simp only[aa,C.toInt_int]
  unfold zp
  simp (disch:=first|assumption|omega|(simp only[zL];omega)) only[kE hx,Rec.e,hi',if_true,kU hm,au,Int.reduceEq,reduceIte,zU,zT,aa]
  cases hr:aA x with
  | true=>exact .inl ⟨(),rfl,trivial,by simp[hr]⟩
  | false=>exact .inr ⟨_,rfl,by simp[hr]⟩
 ·intro _ _
  have h:¬ ((rs.length:Int)<(rs.length:Nat)):=by omega
  simp only[aa,C.toInt_int]
  unfold zp
  by_cases h40:((rs.length:Nat):Int)<=40
  ·have h40':rs.length<=40:=by omega
   simp (disch:=first|assumption|omega|(simp only[zL];omega)) only[h,if_false,h40,h40',if_true,bG,decide_true,Bool.true_and,List.all_nil,Int.reduceEq,reduceIte,zU,zT,aa]
  ·have h40':¬ (rs.length<=40):=by omega
   simp (disch:=first|assumption|omega|(simp only[zL];omega)) only[h,if_false,h40,h40',decide_false,Bool.false_and,Bool.and_false,Int.reduceEq,reduceIte,zU,zT,aa]
theorem cM(hs:DkS ⟨up,⟨rs,f⟩,td⟩):dU [.bool up,.list (rs.map Rec.e),.int .i64 f,.list (td.map Word.e)]=some [.bool (aU ⟨up,⟨rs,f⟩,td⟩)]:=by
 rw[q_fk]
 have hS:LgS ⟨rs,f⟩:=hs.lg
 have htd:td.length<=2000000:=by have:=hs.td;simp only at this;omega
 have h12:=Ai (rs:=rs) hS.1 hS.2
 unfold aU
 simp only
 simp (disch:=first|assumption|omega|(simp only[zL];omega)) only[F_fk,h12,Aq hS,Int.reduceEq,reduceIte,zU,zT,aa]
 cases hlo:fX ⟨rs,f⟩with
 | false=>simp only[aH,Bool.false_and,aw]
 | true =>
  simp only[aG,Bool.true_and]
  cases htr:a8 rs with
  | none=>simp only[Option.isSome_none,aH,aw]
  | some l =>
   simp only[Option.isSome_some,aG,Option.getD_some]
   have hl6:l.length<=6:=(js htr).len
   refine Eq.trans (congrArg aj (aC (l:=td) (enc:=fun i (_:Unit)=>[.int .i64 i]) (res:=fun xs i _=>.ret [.bool (dp l.length (td.take i) xs && (up || td.isEmpty))]) (fun _ _=>True) (s:=()) trivial ?_ ?_)) rfl
   ·intro i x xs _ hx _
    have hi:=(List.getElem?_eq_some_iff.1 hx).1
    have hi':(i:Int)<(td.length:Nat):=by omega
    have hil:(i:Int)<=(td.length:Nat):=by omega
    have hi0:(0:Int)<=(i:Int):=by omega
    have htk:(td.map Word.e).take ((i:Int).toNat)=(td.take i).map Word.e:=by rw[Int.toNat_natCast,List.map_take]
    have htn:td.take (i+1)=td.take i++[x]:=by rw[List.take_add_one,hx];rfl
    have hl1:(td.take i).length<=1099511627775:=by rw[List.length_take];omega
    simp only[aa,C.toInt_int]
    unfold zq
    simp (disch:=first|assumption|omega|(simp only[zL];omega)) only[gJ hx,Word.e,hi',if_true,kG,hi0,hil,decide_true,Bool.and_self,htk,ga hl1,au,Int.reduceEq,reduceIte,zU,zT,aa]
    cases hw:bg x with
    | false =>
     refine .inr ⟨_,rfl,?_⟩
     simp[dp,hw]
    | true =>
     simp only[aG]
     by_cases h4:x.k<4
     ·refine .inr ⟨_,by simp only[h4,if_true];rfl,?_⟩
      have:¬ (4<=x.k):=by omega
      simp[dp,this]
     ·simp only[h4,if_false]
      by_cases htt:x.t>(l.length:Nat)
      ·refine .inr ⟨_,by simp only[htt,if_true];rfl,?_⟩
       have:¬ (x.t<=(l.length:Nat)):=by omega
       simp[dp,this]
      ·simp only[htt,if_false]
       cases hc:(td.take i).contains x with
       | true =>
        refine .inr ⟨_,rfl,?_⟩
        simp only[dp,hc,Bool.not_true,Bool.and_false,Bool.false_and]
       | false =>
        refine .inl ⟨(),rfl,trivial,?_⟩
        have g4:x.k>=4:=by omega
        have gt:x.t<=(l.length:Nat):=by omega
        simp only[dp,hw,hc,g4,gt,decide_true,Bool.and_true,Bool.not_false,Bool.true_and,htn]
   ·intro _ _
    have h:¬ ((td.length:Int)<(td.length:Nat)):=by omega
    simp only[aa,C.toInt_int]
    unfold zq
    have he:(((td.length:Nat):Int)==0)=td.isEmpty:=by cases td<;>simp;omega
    simp (disch:=first|assumption|omega|(simp only[zL];omega)) only[h,if_false,he,dp,Bool.true_and,Int.reduceEq,reduceIte,zU,zT,aa]
    cases up<;>rfl
theorem Bz(hl:LgS ⟨rs,f⟩):xA [.int .i64 id,.bool up,.int .i64 room,.list (rs.map Rec.e),.int .i64 f]=some [.bool (cz ⟨id,up,room,⟨rs,f⟩⟩)]:=by
 rw[q_ef]
 have h2:=Di (room:=room) (rs:=rs) hl.1 hl.2
 simp only[Stock.e,List.cons_append,List.nil_append]at h2
 unfold cz
 simp (disch:=first|assumption|omega|(simp only[zL];omega)) only[F_ef,h2,bG,Aq hl,Int.reduceEq,reduceIte,zU,zT,aa]
 cases in_ id 1 3 with
 | false=>rfl
 | true=>cases fX ⟨rs,f⟩<;>rfl
theorem BA(hL:ns.length<=2000000):aI (fun ps=>tP (ns.map Word.e) ((aa ps 0).toInt)) [.int .i64 0]=some (.ret [.bool (ns.all bg)]):=by
 refine aC (l:=ns) (enc:=fun i (_:Unit)=>[.int .i64 i]) (res:=fun xs _ _=>.ret [.bool (xs.all bg)]) (fun _ _=>True) (s:=()) trivial ?_ ?_
 ·intro i x xs _ hx _
  have hi:=(List.getElem?_eq_some_iff.1 hx).1
  have hi':(i:Int)<(ns.length:Nat):=by omega
  simp only[aa,C.toInt_int]
  unfold tP
  simp (disch:=first|assumption|omega|(simp only[zL];omega)) only[gJ hx,Word.e,hi',if_true,kG,au,Int.reduceEq,reduceIte,zU,zT,aa]
  cases hr:bg x with
  | true=>exact .inl ⟨(),rfl,trivial,by simp[hr]⟩
  | false=>exact .inr ⟨_,rfl,by simp[hr]⟩
 ·intro _ _
  have h:¬ ((ns.length:Int)<(ns.length:Nat)):=by omega
  simp only[aa,C.toInt_int]
  unfold tP
  simp (disch:=first|assumption|omega|(simp only[zL];omega)) only[h,if_false,Int.reduceEq,reduceIte,zU,zT,aa]
  rfl
theorem rE(hw:WS w):iL [.bool w.dk.up,.list (w.dk.lg.rs.map Rec.e),.int .i64 w.dk.lg.f,.list (w.dk.td.map Word.e),.list (w.hs.map House.e),.list (w.ns.map Word.e)]=some [.bool (cj w)]:=by
 rw[q_fe]
 obtain⟨⟨up,⟨rs,f⟩,td⟩,hs,ns⟩:=w
 have hd:DkS ⟨up,⟨rs,f⟩,td⟩:=hw.dk
 have hhs:=hw.hs
 have hhl:=hw.hl
 have hnl:=hw.nl
 simp only at hhs hhl hnl
 unfold cj
 simp only
 simp (disch:=first|assumption|omega|(simp only[zL];omega)) only[F_fe,cM hd,Int.reduceEq,reduceIte,zU,zT,aa]
 cases aU ⟨up,⟨rs,f⟩,td⟩with
 | false=>rfl
 | true =>
  simp only[aG,Bool.true_and]
  by_cases h3:((hs.length:Nat):Int)=3
  ·have h3':hs.length=3:=by omega
   have h3b:(hs.length==3)=true:=by simp[h3']
   simp only[h3,if_true,h3b,Bool.true_and]
   by_cases h14:((ns.length:Nat):Int)>14
   ·have h14':¬ (ns.length<=14):=by omega
    simp[h14,h14']
   ·have h14':ns.length<=14:=by omega
    simp only[h14,h14',if_false,decide_true,Bool.true_and]
    refine Eq.trans (congrArg aj (aC (l:=hs) (enc:=fun i (_:Unit)=>[.int .i64 i]) (res:=fun xs i _=>.ret [.bool (xs.all cz && ((xs.zipIdx (i+1)).all (fun p=>p.1.id==(p.2:Int)) && ns.all bg))]) (fun _ _=>True) (s:=()) trivial ?_ ?_)) rfl
    ·intro i x xs _ hx _
     have hi:=(List.getElem?_eq_some_iff.1 hx).1
     have hi':(i:Int)<((3:Nat):Int):=by omega
     have hxl:LgS ⟨x.lg.rs,x.lg.f⟩:=hhs x (List.mem_of_getElem? hx)
     simp only[aa,C.toInt_int]
     unfold zr
     simp (disch:=first|assumption|omega|(simp only[zL];omega)) only[fO hx,House.e,h3',h3,hi',if_true,Bz hxl,au,Int.reduceEq,reduceIte,zU,zT,aa]
     cases hr:cz x with
     | false=>exact .inr ⟨_,rfl,by simp[hr]⟩
     | true =>
      simp only[aG]
      by_cases hid:x.id=((i+1:Nat):Int)
      ·refine .inl ⟨(),by simp only[hid,if_true],trivial,?_⟩
       have:(x.id==((i+1:Nat):Int))=true:=by simpa using hid
       simp only[List.all_cons,hr,Bool.true_and,List.zipIdx_cons,this]
      ·refine .inr ⟨_,by simp only[hid,if_false];rfl,?_⟩
       have:(x.id==((i+1:Nat):Int))=false:=by simpa using hid
       simp only[List.all_cons,hr,Bool.true_and,List.zipIdx_cons,this,Bool.false_and,Bool.and_false]
    ·intro _ _
     have h:¬ ((hs.length:Int)<(hs.length:Nat)):=by omega
     simp only[aa,C.toInt_int]
     unfold zr
     simp (disch:=first|assumption|omega|(simp only[zL];omega)) only[h,if_false,BA hnl,Int.reduceEq,reduceIte,zU,zT,aa]
     simp
  ·have h3b:(hs.length==3)=false:=by simp;omega
   simp only[h3,if_false,aH,aG,h3b,Bool.false_and,aw]
end
end Dx
namespace Dx
open Go
section
variable {up b:Bool} {rs:List Rec} {f:Int} {td:List Word} {k h t m:Int} {id room:Int} {hs:List House} {ns:List Word} {w:Wd}
theorem yk(hw:WS w):m7 [.bool w.dk.up,.list (w.dk.lg.rs.map Rec.e),.int .i64 w.dk.lg.f,.list (w.dk.td.map Word.e),.list (w.hs.map House.e),.list (w.ns.map Word.e)]=some [.bool (cj w)]:=by
 rw[q_ec]
 obtain⟨⟨up,⟨rs,f⟩,td⟩,hs,ns⟩:=w
 have hd:DkS ⟨up,⟨rs,f⟩,td⟩:=hw.dk
 have hhs:=hw.hs
 have hhl:=hw.hl
 have hnl:=hw.nl
 simp only at hhs hhl hnl
 unfold cj
 simp only
 simp (disch:=first|assumption|omega|(simp only[zL];omega)) only[F_ec,bx hd,Int.reduceEq,reduceIte,zU,zT,aa]
 cases aU ⟨up,⟨rs,f⟩,td⟩with
 | false=>rfl
 | true =>
  simp only[aG,Bool.true_and]
  by_cases h3:((hs.length:Nat):Int)=3
  ·have h3':hs.length=3:=by omega
   have h3b:(hs.length==3)=true:=by simp[h3']
   simp only[h3,if_true,h3b,Bool.true_and]
   by_cases h14:((ns.length:Nat):Int)>14
   ·have h14':¬ (ns.length<=14):=by omega
    simp[h14,h14']
   ·have h14':ns.length<=14:=by omega
    simp only[h14,h14',if_false,decide_true,Bool.true_and]
    have key:=aC (l:=hs) (F:=fun ps=>mD (hs.map House.e) (ns.map Word.e) 3 ((aa ps 0).toInt)) (enc:=fun i (_:Unit)=>[.int .i64 i]) (res:=fun xs i _=>.ret [.bool (xs.all cz && ((xs.zipIdx (i+1)).all (fun p=>p.1.id==(p.2:Int)) && ns.all bg))]) (fun _ _=>True) (s:=()) trivial ?_ ?_
    ·refine Eq.trans (congrArg aj key) rfl
    ·intro i x xs _ hx _
     have hi:=(List.getElem?_eq_some_iff.1 hx).1
     have hi':(i:Int)<3:=by omega
     have hxl:LgS ⟨x.lg.rs,x.lg.f⟩:=hhs x (List.mem_of_getElem? hx)
     simp only[aa,C.toInt_int]
     unfold mD
     simp (disch:=first|assumption|omega|(simp only[zL];omega)) only[fO hx,House.e,hi',if_true,eT hxl,au,Int.reduceEq,reduceIte,zU,zT,aa]
     cases hr:cz x with
     | false=>exact .inr ⟨_,rfl,by simp[hr]⟩
     | true =>
      simp only[aG]
      by_cases hid:x.id=((i+1:Nat):Int)
      ·refine .inl ⟨(),by simp only[hid,if_true],trivial,?_⟩
       have:(x.id==((i+1:Nat):Int))=true:=by simpa using hid
       simp only[List.all_cons,hr,Bool.true_and,List.zipIdx_cons,this]
      ·refine .inr ⟨_,by simp only[hid,if_false];rfl,?_⟩
       have:(x.id==((i+1:Nat):Int))=false:=by simpa using hid
       simp only[List.all_cons,hr,Bool.true_and,List.zipIdx_cons,this,Bool.false_and,Bool.and_false]
    ·intro _ _
     have h:¬ ((3:Int)<3):=by omega
     have hall:(!(ns.any fun x=>!bg x))=ns.all bg:=by simp[List.all_eq_not_any_not]
     simp only[aa,C.toInt_int]
     unfold mD
     simp (disch:=first|assumption|omega|(simp only[zL];omega)) only[h3,h,if_false,rC,Int.reduceEq,reduceIte,zU,zT,aa]
     rw[<-hall];simp
  ·have h3b:(hs.length==3)=false:=by simp;omega
   simp only[h3,if_false,aH,aG,h3b,Bool.false_and,aw]
theorem ym(hw:WS w){e:Ev}(he:EvS e) :
  ia [.bool w.dk.up,.list (w.dk.lg.rs.map Rec.e),.int .i64 w.dk.lg.f,.list (w.dk.td.map Word.e),.list (w.hs.map House.e),.list (w.ns.map Word.e),.int .i64 e.k,.int .i64 e.a,.int .i64 e.b,.list (e.m.map eI)]=some (if cj w then wdo w e else wd0).e:=by
 cases hok:cj w with
 | true=>rw[if_pos rfl];exact eU (worldOk_iff.1 hok) (by unfold EvS at he;omega)
 | false =>
  rw[q_fc]
  unfold F_fc
  rw[yk hw,hok]
  rfl
theorem uS{ms:List Int}(hm:ms.length<=1099511627776):xB [.int .i64 k,.int .i64 t,.list (ms.map eI)]=some [.int .i64 k,.int .i64 t,.list (ms.map eI)]:=by
 rw[q_ca]
 simp (disch:=first|assumption|omega|(simp only[zL];omega)) only[F_ca,Int.reduceEq,reduceIte,zU,zT,aa]
theorem vr(hl:LgS ⟨rs,f⟩):qM [.list (rs.map Rec.e),.int .i64 f]=some [.list (rs.map Rec.e),.int .i64 f]:=by
 rw[q_fq]
 have h1:=hl.1
 simp only at h1
 unfold F_fq
 refine Eq.trans (congrArg aj (aC (l:=rs) (enc:=fun i (s:List Rec)=>[.int .i64 i,.list (s.map Rec.e)]) (res:=fun xs _ s=>.ret [.list ((s++xs).map Rec.e),.int .i64 f]) (fun i s=>s.length=i) (s:=[]) rfl ?_ ?_)) rfl
 ·intro i x xs s hx hs
  have hi:=(List.getElem?_eq_some_iff.1 hx).1
  have hi':(i:Int)<(rs.length:Nat):=by omega
  have hm:x.m.length<=1099511627776:=hl.2 x (List.mem_of_getElem? hx)
  have hc:s.length+1<=1099511627776:=by omega
  simp only[aa,C.toInt_int,C.toList_list]
  unfold zt
  simp (disch:=first|assumption|omega|(simp only[zL];omega)) only[kE hx,Rec.e,hi',if_true,uS hm,hc,au,Int.reduceEq,reduceIte,zU,zT,aa]
  refine .inl ⟨s++[x],?_,by simp[hs],by simp⟩
  simp[Rec.e]
 ·intro s _
  have h:¬ ((rs.length:Int)<(rs.length:Nat)):=by omega
  simp only[aa,C.toInt_int,C.toList_list]
  unfold zt
  simp (disch:=first|assumption|omega|(simp only[zL];omega)) only[h,if_false,Int.reduceEq,reduceIte,zU,zT,aa]
  simp
theorem BB(hl:LgS ⟨rs,f⟩):xC [.int .i64 id,.bool up,.int .i64 room,.list (rs.map Rec.e),.int .i64 f]=some [.int .i64 id,.bool up,.int .i64 room,.list (rs.map Rec.e),.int .i64 f]:=by
 rw[q_eg]
 simp (disch:=first|assumption|omega|(simp only[zL];omega)) only[F_eg,vr hl,Int.reduceEq,reduceIte,zU,zT,aa]
theorem ll(hd:DkS ⟨up,⟨rs,f⟩,td⟩):mo [.bool up,.list (rs.map Rec.e),.int .i64 f,.list (td.map Word.e)]=some [.bool up,.list (rs.map Rec.e),.int .i64 f,.list (td.map Word.e)]:=by
 rw[q_en]
 have htd:td.length<=1099511627776:=by have:=hd.td;simp only at this;omega
 have hl:LgS ⟨rs,f⟩:=hd.lg
 simp (disch:=first|assumption|omega|(simp only[zL];omega)) only[F_en,vr hl,htd,Int.reduceEq,reduceIte,zU,zT,aa]
theorem BC(hw:WS w):xD [.bool w.dk.up,.list (w.dk.lg.rs.map Rec.e),.int .i64 w.dk.lg.f,.list (w.dk.td.map Word.e),.list (w.hs.map House.e),.list (w.ns.map Word.e)]=some w.e:=by
 rw[q_et]
 have hd:DkS ⟨w.dk.up,⟨w.dk.lg.rs,w.dk.lg.f⟩,w.dk.td⟩:=hw.dk
 have hnl:=hw.nl
 have hhl:=hw.hl
 simp (disch:=first|assumption|omega|(simp only[zL];omega)) only[F_et,ll hd,Db,Int.reduceEq,reduceIte,zU,zT,aa]
 have key:=aC (l:=w.hs) (F:=fun ps=>tQ (w.hs.map House.e) w.dk.up w.dk.lg.f (w.dk.lg.rs.map Rec.e) (w.dk.td.map Word.e) (w.ns.map Word.e) ((aa ps 0).toInt) ((aa ps 1).toList)) (enc:=fun i (s:List House)=>[.int .i64 i,.list (s.map House.e)])
  (res:=fun xs _ s=>.ret [.bool w.dk.up,.list (w.dk.lg.rs.map Rec.e),.int .i64 w.dk.lg.f,.list (w.dk.td.map Word.e),.list ((s++xs).map House.e),.list (w.ns.map Word.e)]) (fun i s=>s.length=i) (s:=[]) rfl ?_ ?_
 ·have key:aI _ [C.int .i64 0,C.list []]=_:=key
  rw[key];rfl
 ·intro i x xs s hx hs
  have hi:=(List.getElem?_eq_some_iff.1 hx).1
  have hi':(i:Int)<(w.hs.length:Nat):=by omega
  have hxl:LgS ⟨x.lg.rs,x.lg.f⟩:=hw.hs x (List.mem_of_getElem? hx)
  have hc:s.length+1<=1099511627776:=by omega
  simp (disch:=first|assumption|omega|(simp only[zL];omega)) only[tQ,fO hx,House.e,BB hxl,au,hi',hc,if_true,Int.reduceEq,reduceIte,zU,zT,aa]
  exact .inl ⟨s++[x],by simp[House.e],by simp[hs],by simp⟩
 ·intro s hs
  have h:¬ ((w.hs.length:Int)<(w.hs.length:Nat)):=by omega
  simp (disch:=first|assumption|omega|(simp only[zL];omega)) only[tQ,h,if_false,Int.reduceEq,reduceIte,zU,zT,aa]
  simp
theorem jA(hw:WS w){e:Ev}(he:EvS e) :
  iM [.bool w.dk.up,.list (w.dk.lg.rs.map Rec.e),.int .i64 w.dk.lg.f,.list (w.dk.td.map Word.e),.list (w.hs.map House.e),.list (w.ns.map Word.e),.int .i64 e.k,.int .i64 e.a,.int .i64 e.b,.list (e.m.map eI)]=some (if cj w then wdo w e else wd0).e:=by
 rw[q_dz]
 unfold F_dz
 rw[rE hw]
 cases hok:cj w with
 | false=>rfl
 | true =>
  simp only[Ae,aa,C.toBool_bool,Bool.not_true,aH,if_true]
  rw[BC hw]
  simp only[Wd.e,dK,aa,C.toInt_int,C.toList_list,C.toBool_bool]
  rw[o6 (worldOk_iff.1 hok) he]
  simp only[Wd.e,dK,aa,C.toInt_int,C.toList_list,C.toBool_bool]
  rfl
end
end Dx
namespace Dx
open Go
section
variable {w:Wd}
end
end Dx
namespace Dx
open Go
section
variable {bs:List Int}
def WOut(bs:List Int)(p:Int)(r:Option (List C)):Prop:=∃(x:Word) (p':Int),r=some (x.e++[.list (bs.map eB),.int .i64 p'])/\p<=p'/\p'<=p+10
theorem WOut.ite{p:Int}{c:Prop}[Decidable c]{a b:Option (List C)}(ha:WOut bs p a)(hb:WOut bs p b):WOut bs p (if c then a else b):=by split<;>assumption
theorem Fq{p p' k h t m:Int}(h1:p<=p')(h2:p'<=p+10):WOut bs p (some [.int .i64 k,.int .i64 h,.int .i64 t,.int .i64 m,.list (bs.map eB),.int .i64 p']):=⟨⟨k,h,t,m⟩,p',rfl,h1,h2⟩
theorem lm(hb:Rd bs){p:Int}(h0:0<=p)(h1:p<=800000000):WOut bs p (ku [.list (bs.map eB),.int .i64 p]):=by
 rw[q_fb]
 obtain⟨pk,hpk⟩:=fj hb
 have q:=fun p n h0 h1 h2=>(hpk p n h0 h1 h2).1
 have j:∀(k h t m p':Int),p<=p'->p'<=p+5->WOut bs p (aj (za k h t m (bs.map eB) p')):=by
  intro k h t m p' g1 g2
  unfold za
  simp (disch:=first|assumption|omega|(simp only[zL];omega)) only[q,Int.reduceEq,reduceIte,zU,zT,aa]
  exact WOut.ite (Fq (by omega) (by omega)) (WOut.ite (Fq (by omega) (by omega)) (WOut.ite (Fq (by omega) (by omega)) (WOut.ite (Fq (by omega) (by omega)) (Fq (by omega) (by omega)))))
 simp (disch:=first|assumption|omega|(simp only[zL];omega)) only[F_fb,q,Int.reduceEq,reduceIte,zU,zT,aa]
 split
 ·exact j _ _ _ _ _ (by omega) (by omega)
 ·exact j _ _ _ _ _ (by omega) (by omega)
def MOut(bs:List Int)(p:Int)(r:Option (List C)):Prop:=∃(m:List Int) (p':Int),r=some [.list (m.map eI),.list (bs.map eB),.int .i64 p']/\p<=p'/\p'<=p+10/\m.length<=3
theorem MOut.ite{p:Int}{c:Prop}[Decidable c]{a b:Option (List C)}(ha:MOut bs p a)(hb:MOut bs p b):MOut bs p (if c then a else b):=by split<;>assumption
theorem In{a b c i:Int}(h0:0<=i)(h3:i<3){kk:IntKind}:∃ x,(∀ f:List C->Option Out,aE (.list [[.int .i64 a],[.int .i64 b],[.int .i64 c]]) (.int kk i) [.int .i64] f=f [.int .i64 x]):=by
 obtain⟨n,rfl⟩:=Int.eq_ofNat_of_zero_le h0
 rcases (show n=0\/n=1\/n=2 by omega)with e|e|e<;>subst e
 ·exact⟨a,fun _=>rfl⟩
 ·exact⟨b,fun _=>rfl⟩
 ·exact⟨c,fun _=>rfl⟩
theorem set3{a b c i x:Int}(h0:0<=i)(h3:i<3):∃ m:List Int,setRow 0 [[C.int .i64 a],[.int .i64 b],[.int .i64 c]] (Int.toNat i) [.int .i64 x]=m.map eI/\m.length=3:=by
 obtain⟨n,rfl⟩:=Int.eq_ofNat_of_zero_le h0
 rcases (show n=0\/n=1\/n=2 by omega)with e|e|e<;>subst e
 ·exact⟨[x,b,c],rfl,rfl⟩
 ·exact⟨[a,x,c],rfl,rfl⟩
 ·exact⟨[a,b,x],rfl,rfl⟩
theorem setN{m:List Int}{i x:Int}(h0:0<=i)(h3:i<m.length):∃ m':List Int,setRow 0 (m.map eI) (Int.toNat i) [.int .i64 x]=m'.map eI/\m'.length=m.length:=by
 have hx:m[i.toNat]?=some (m[i.toNat]'(by omega)):=List.getElem?_eq_getElem (by omega)
 exact⟨m.set i.toNat x,cY hx rfl,by simp⟩
theorem nT(hb:Rd bs){p p':Int}{m:List Int}(h0:0<=p)(h1:p<=800000000)(g1:p<=p')(g2:p'<=p+5)(hm:m.length=3):MOut bs p (aj (zc (m.map eI) (bs.map eB) p')):=by
 obtain⟨pk,hpk⟩:=fj hb
 have q:=fun p n h0 h1 h2=>(hpk p n h0 h1 h2).1
 unfold zc
 simp (disch:=first|assumption|omega|(simp only[zL];omega)) only[q,List.length_map,hm,Int.reduceEq,reduceIte,zU,zT,aa]
 have k1:=hpk (p'+1) 3 (by omega) (by omega) (by omega)
 have k2:=hpk (p'+1+1) 3 (by omega) (by omega) (by omega)
 have u1:=k1.2.2.1 (by omega)
 have u2:=k2.2.2.1 (by omega)
 refine MOut.ite ?_ (MOut.ite ?_ (MOut.ite ?_ ?_))
 ·obtain⟨x,e1⟩:=In (a:=-1) (b:=3) (c:=4) (kk:=.i64) k2.2.1 u2
  obtain⟨m',s1,s2⟩:=setN (m:=m) (x:=x) k1.2.1 (by omega)
  rw[bt (by simp only[Bool.and_eq_true,decide_eq_true_eq];omega),e1,bt (by simp only[Bool.and_eq_true,decide_eq_true_eq];omega)]
  simp only[aa,C.toInt_int,s1]
  exact⟨m',p'+1+1+1,rfl,by omega,by omega,by omega⟩
 ·exact⟨m.drop 1,p'+1,by simp,by omega,by omega,by simp;omega⟩
 ·exact⟨[0,0,0],p'+1,rfl,by omega,by omega,by simp⟩
 ·exact⟨m,p'+1,rfl,by omega,by omega,by omega⟩
theorem row3a{a b c:Int}{f:List C->Option Out}:aE (.list [[.int .i64 a],[.int .i64 b],[.int .i64 c]]) (.int .i64 0) [.int .i64] f=f [.int .i64 a]:=rfl
theorem row3b{a b c:Int}{f:List C->Option Out}:aE (.list [[.int .i64 a],[.int .i64 b],[.int .i64 c]]) (.int .i64 1) [.int .i64] f=f [.int .i64 b]:=rfl
theorem row3c{a b c:Int}{f:List C->Option Out}:aE (.list [[.int .i64 a],[.int .i64 b],[.int .i64 c]]) (.int .i64 2) [.int .i64] f=f [.int .i64 c]:=rfl
theorem ln(hb:Rd bs){p:Int}(h0:0<=p)(h1:p<=800000000):MOut bs p (mj [.list (bs.map eB),.int .i64 p]):=by
 rw[q_fg]
 obtain⟨pk,hpk⟩:=fj hb
 have q:=fun p n h0 h1 h2=>(hpk p n h0 h1 h2).1
 have a1:=hpk p 3 (by omega) (by omega) (by omega)
 have a2:=hpk (p+1) 3 (by omega) (by omega) (by omega)
 have a3:=hpk (p+1+1) 3 (by omega) (by omega) (by omega)
 have a4:=hpk (p+1+1+1) 3 (by omega) (by omega) (by omega)
 have u1:=a1.2.2.1 (by omega)
 have u2:=a2.2.2.1 (by omega)
 have u3:=a3.2.2.1 (by omega)
 have u4:=a4.2.2.1 (by omega)
 have v1:=a1.2.1
 have v2:=a2.2.1
 have v3:=a3.2.1
 have v4:=a4.2.1
 simp (disch:=first|assumption|omega|(simp only[zL];omega)) only[F_fg,q,row3a,row3b,row3c,az,Int.reduceEq,reduceIte,zU,zT,aa]
 simp only[dB,eS,bc,aa,C.toInt_int,C.toList_list,dL]
 have e3:∀ a b c:Int,[[C.int .i64 a],[C.int .i64 b],[C.int .i64 c]]=[a,b,c].map eI:=fun _ _ _=>rfl
 refine MOut.ite ?_ ?_
 ·obtain⟨m',s1,s2⟩:=set3 (a:=pk p 3) (b:=pk (p+1) 3) (c:=pk (p+1+1) 3) (x:=1) v4 u4
  rw[s1]
  exact nT hb (p:=p) h0 h1 (by omega) (by omega) s2
 ·rw[e3]
  exact nT hb (p:=p) h0 h1 (by omega) (by omega) rfl
theorem lp(a b c d:Int)(l:List (List C))(e:Int)(f:List C->Option Out):ac (some [.int .i64 a,.int .i64 b,.int .i64 c,.int .i64 d,.list l,.int .i64 e]) [.int .i64,.int .i64,.int .i64,.int .i64,.list,.int .i64] f=f [.int .i64 a,.int .i64 b,.int .i64 c,.int .i64 d,.list l,.int .i64 e]:=bO rfl
theorem CG(a:Bool)(l:List (List C))(b:Int)(m n o q:List (List C))(e:Int)(f:List C->Option Out):ac (some [.bool a,.list l,.int .i64 b,.list m,.list n,.list o,.list q,.int .i64 e]) [.bool,.list,.int .i64,.list,.list,.list,.list,.int .i64] f=f [.bool a,.list l,.int .i64 b,.list m,.list n,.list o,.list q,.int .i64 e]:=bO rfl
structure WdS (w:Wd):Prop extends WS w where
 bare:DkOk ⟨w.dk.up,⟨w.dk.lg.rs,w.dk.lg.f⟩,[]⟩
 tl:w.dk.td.length<=1000
 ns5:w.ns.length<=1000
theorem WOk.wds{w:Wd}(h:WOk w):WdS w:={h.ws with bare:=h.dk.bare,tl:=by have:=h.dk.tdlen;omega,ns5:=by have:=h.nlen;omega}
def WdOut(bs:List Int)(r:Option (List C)):Prop:=∃(w:Wd) (p':Int),r=some (w.e++[.list (bs.map eB),.int .i64 p'])/\0<=p'/\p'<=5000/\WdS w
theorem WdOut.ite{c:Prop}[Decidable c]{a b:Option (List C)}(ha:WdOut bs a)(hb:WdOut bs b):WdOut bs (if c then a else b):=by split<;>assumption
theorem CH(m:List House):(m.map House.e).all (ak [.int .i64,.bool,.int .i64,.list,.int .i64])=true:=by
 rw[List.all_map,List.all_eq_true];intro x _;rfl
theorem yo(hb:Rd bs){p:Int}(h0:0<=p)(h1:p<=100):WdOut bs (wJ [.list (bs.map eB),.int .i64 p]):=by
 rw[q_dm]
 obtain⟨pk,hpk⟩:=fj hb
 have q:=fun p n h0 h1 h2=>(hpk p n h0 h1 h2).1
 obtain⟨a,b,c,w0,es,w,p',hp,_,_,_,_,_,_,hw0,hd,hp0,hp1⟩:=ru hb (p:=p) (by omega) (by omega)
 simp only[Wd.e,List.cons_append,List.nil_append]at hp
 have ow:WOk w:=by rw[hd.play];exact(ir hw0).plays es
 have hds:=ow.wds
 have h3:=ow.len
 have hnl:=ow.nlen
 have htd:=ow.dk.tdlen
 obtain⟨x,px,hx,hx1,hx2⟩:=lm hb (p:=p'+1) (by omega) (by omega)
 simp only[Word.e,List.cons_append,List.nil_append]at hx
 have hc1:w.ns.length+1<=1099511627776:=by omega
 have hc2:w.dk.td.length+1<=1099511627776:=by omega
 have k1:(1:Int)<=((w.hs.length:Nat):Int):=by omega
 have k0:(0:Int)<((w.hs.length:Nat):Int):=by omega
 obtain⟨y,ys,hys⟩:∃ y ys,w.hs=y::ys:=by
  match hq:w.hs,h3 with
  | y::ys,_=>exact⟨y,ys,rfl⟩
 have hrow:∀ f:List C->Option Out,aE (.list (w.hs.map House.e)) (.int .i64 0) [.int .i64,.bool,.int .i64,.list,.int .i64] f=f y.e:=fun f=>by rw[hys];rfl
 simp (disch:=first|assumption|omega|(simp only[zL];omega)) only[F_dm,hp,q,hx,lp,CH,k1,k0,hrow,House.e,hc1,hc2,Int.reduceLE,decide_true,Bool.and_self,Int.reduceEq,reduceIte,zU,zT,aa]
 refine WdOut.ite ?_ (WdOut.ite ?_ (WdOut.ite ?_ (WdOut.ite ?_ (WdOut.ite ?_ ?_))))
 ·refine⟨⟨w.dk,w.hs.drop 1,w.ns⟩,p'+1,by simp[Wd.e],by omega,by omega,{hds with hs:=fun x hx=>hds.hs x (List.mem_of_mem_drop hx),hl:=by simp;omega}⟩
 ·refine⟨⟨w.dk,w.hs,w.ns++[x]⟩,px,by simp[Wd.e,Word.e],by omega,by omega,{hds with nl:=by simp;omega,ns5:=by simp;omega}⟩
 ·have r:=hpk (p'+1) 3 (by omega) (by omega) (by omega)
  refine⟨⟨w.dk,⟨y.id,y.up,pk (p'+1) 3,y.lg⟩::ys,w.ns⟩,p'+1+1,by rw[hys];rfl,by omega,by omega,{hds with hs:=fun x hx=>?_,hl:=by have:=h3;rw[hys,List.length_cons]at this;show ys.length+1<=2000000;omega}⟩
  rcases List.mem_cons.1 hx with e|hx
  ·subst e;exact hds.hs y (by rw[hys];simp)
  ·exact hds.hs x (by rw[hys];simp[hx])
 ·refine⟨⟨⟨w.dk.up,w.dk.lg,w.dk.td++[x]⟩,w.hs,w.ns⟩,px,by simp[Wd.e,Word.e],by omega,by omega,{hds with dk:=⟨hds.dk.lg,by simp;omega⟩,tl:=by simp;omega}⟩
 ·have key:=sE (F:=fun ps=>zb w.dk.up (w.dk.lg.rs.map Rec.e) w.dk.lg.f (w.dk.td.map Word.e) (w.hs.map House.e) (bs.map eB) (p'+1) ((aa ps 0).toList))
   (I:=fun k ps=>∃ ns:List Word,ps=[.list (ns.map Word.e)]/\ns.length+k=15)
   (Q:=fun o=>∃ ns:List Word,o=.ret ([.bool w.dk.up,.list (w.dk.lg.rs.map Rec.e),.int .i64 w.dk.lg.f,.list (w.dk.td.map Word.e),.list (w.hs.map House.e),.list (ns.map Word.e)]++[.list (bs.map eB),.int .i64 (p'+1+1)])/\ns.length<=15) ?_ (15-w.ns.length) _ ⟨w.ns,rfl,by omega⟩
  ·obtain⟨o,g1,ns,rfl,g2⟩:=key
   refine⟨⟨w.dk,w.hs,ns⟩,p'+1+1,by rw[g1];rfl,by omega,by omega,{hds with nl:=by simp only;omega,ns5:=by simp only;omega}⟩
  ·rintro k ps ⟨ns,rfl,hk⟩
   simp only[aa,C.toList_list]
   unfold zb
   have r:=hpk (p'+1) 2 (by omega) (by omega) (by omega)
   have r1:=r.2.2.1 (by omega)
   have r0:=r.2.1
   by_cases h14:((ns.length:Nat):Int)<=14
   ·left
    have hc:ns.length+1<=1099511627776:=by omega
    simp (disch:=first|assumption|omega|(simp only[zL];omega)) only[h14,hc,if_true,Int.reduceEq,reduceIte,zU,zT,aa]
    exact⟨_,k-1,by omega,rfl,ns++[⟨3,1,1,0⟩],by simp[Word.e],by simp;omega⟩
   ·right
    have hw1:IntKind.wrap .i64 (14+pk (p'+1) 2)=14+pk (p'+1) 2:=az (by omega) (by omega)
    have hu1:(0:Int)<=14+pk (p'+1) 2:=by omega
    have hu2:14+pk (p'+1) 2<=((ns.length:Nat):Int):=by omega
    simp (disch:=first|assumption|omega|(simp only[zL];omega)) only[h14,if_false,q,hw1,hu1,hu2,decide_true,Bool.and_self,Int.reduceEq,reduceIte,zU,zT,aa]
    refine⟨_,rfl,ns.take (14+pk (p'+1) 2).toNat,by simp,by simp;omega⟩
 ·exact⟨w,p'+1,rfl,by omega,by omega,hds⟩
theorem pN{code:List Int}(hl:code.length<=1099511627776)(hc:∀ b∈code,0<=b/\b<=255) :
  ∃(w:Wd) (e:Ev),kv [.list (code.map eB)]=some (w.e++e.e)/\WS w/\EvS e:=by
 rw[q_bh]
 obtain⟨bs,hb,ho⟩:=o5 hl hc
 obtain⟨pk,hpk⟩:=fj hb
 have q:=fun p n h0 h1 h2=>(hpk p n h0 h1 h2).1
 obtain⟨w,p,hw,hp0,hp1,hws⟩:=yo hb (p:=0) (by omega) (by omega)
 simp only[Wd.e,List.cons_append,List.nil_append]at hw
 obtain⟨e,p2,he,he1,he2,he3⟩:=lP hb hp0 (by omega) hws.bare hws.tl hws.ns5
 simp only[Ev.e,List.cons_append,List.nil_append]at he
 obtain⟨m,p3,hm,hm1,hm2,hm3⟩:=ln hb (p:=p2+1) (by omega) (by omega)
 have r:=hpk (p2+1) 3 (by omega) (by omega) (by omega)
 have r1:=r.2.2.1 (by omega)
 have r0:=r.2.1
 obtain⟨x,ex⟩:=In (a:=0) (b:=10) (c:=-1) (kk:=.i64) r0 r1
 obtain⟨y,ey⟩:=In (a:=-1) (b:=4) (c:=20) (kk:=.i64) r0 r1
 have r1':pk (p2+1) 3<((0+1+1+1:Nat):Int):=by omega
 simp (disch:=first|assumption|omega|(simp only[zL];omega)) only[F_bh,ho,hw,he,hm,q,CG,ex,ey,r0,r1',decide_true,Bool.and_self,Int.reduceEq,reduceIte,zU,zT,aa]
 have wout:∀(k a b:Int) (m:List Int),m.length<=2000000->∃(w':Wd) (e':Ev),(some [C.bool w.dk.up,C.list (w.dk.lg.rs.map Rec.e),C.int .i64 w.dk.lg.f,C.list (w.dk.td.map Word.e),C.list (w.hs.map House.e),C.list (w.ns.map Word.e),C.int .i64 k,C.int .i64 a,C.int .i64 b,C.list (m.map eI)]:Option (List C))=some (w'.e++e'.e)/\WS w'/\EvS e' :=
  fun k a b m hm=>⟨w,⟨k,a,b,m⟩,rfl,hws.toWS,hm⟩
 by_cases c0:pk p2 20=0
 ·simp only[c0,if_true];exact wout _ _ _ _ he3
 ·simp only[c0,if_false]
  by_cases c1:pk p2 20=1
  ·simp only[c1,if_true];exact wout _ _ _ _ he3
  ·simp only[c1,if_false]
   by_cases c2:pk p2 20=2
   ·simp only[c2,if_true];exact wout _ _ _ _ (by omega)
   ·simp only[c2,if_false];exact wout _ _ _ _ he3
end
end Dx
namespace Dx
open Go
theorem pO{x:Wd}(hx:WS x):fW (x.e++x.e)=some [.bool true]:=by
 have:=Ap (w:=x) (w':=x) hx.dk hx.hs hx.hl hx.nl
 simp only[decide_true]at this
 exact this
theorem Ds{code:List Int}(hl:code.length<=1099511627776)(hc:fk code):∃(w:Wd) (e:Ev),WS w/\EvS e ∧
  kv [.list (code.map eB)]=some [.bool w.dk.up,.list (w.dk.lg.rs.map Rec.e),.int .i64 w.dk.lg.f,.list (w.dk.td.map Word.e),.list (w.hs.map House.e),.list (w.ns.map Word.e),.int .i64 e.k,.int .i64 e.a,.int .i64 e.b,.list (e.m.map eI)] ∧
  iL [.bool w.dk.up,.list (w.dk.lg.rs.map Rec.e),.int .i64 w.dk.lg.f,.list (w.dk.td.map Word.e),.list (w.hs.map House.e),.list (w.ns.map Word.e)]=some [.bool (cj w)]/\∃ x:Wd,WS x/\(cj w=false->x=wd0)/\(cj w=true->x=wdo w e) ∧
  ia [.bool w.dk.up,.list (w.dk.lg.rs.map Rec.e),.int .i64 w.dk.lg.f,.list (w.dk.td.map Word.e),.list (w.hs.map House.e),.list (w.ns.map Word.e),.int .i64 e.k,.int .i64 e.a,.int .i64 e.b,.list (e.m.map eI)]=some x.e ∧
  iM [.bool w.dk.up,.list (w.dk.lg.rs.map Rec.e),.int .i64 w.dk.lg.f,.list (w.dk.td.map Word.e),.list (w.hs.map House.e),.list (w.ns.map Word.e),.int .i64 e.k,.int .i64 e.a,.int .i64 e.b,.list (e.m.map eI)]=some x.e ∧
  fW (x.e++x.e)=some [.bool true]:=by
 obtain⟨w,e,hd,hw,he⟩:=pN hl hc
 have hx:WS (if cj w then wdo w e else wd0):=by
  split
  ·rename_i h;exact((worldOk_iff.1 h).do_ e).ws
  ·exact⟨⟨⟨by simp[wd0],by simp[wd0]⟩,by simp[wd0]⟩,by simp[wd0],by simp[wd0],by simp[wd0]⟩
 refine⟨w,e,hw,he,hd,rE hw,_,hx,fun h=>by rw[h];rfl,fun h=>by rw[h];rfl,ym hw he,jA hw he,pO hx⟩
def Dt(t:Tree):Tree :=
 .letp .len [⟨.list,(.v 0)⟩]<|
 .letp .gtI [⟨(.int .i64),(.v 1)⟩,⟨(.int .i64),(.n 1048576)⟩]<|
 .ite (.v 2) (
 .ret [⟨.bool,(.b true)⟩])<|
 .call 0 [⟨.list,(.v 0)⟩] [.bool,.list,(.int .i64),.list,.list,.list,(.int .i64),(.int .i64),(.int .i64),.list]<|
 .call 1 [⟨.bool,(.v 3)⟩,⟨.list,(.v 4)⟩,⟨(.int .i64),(.v 5)⟩,⟨.list,(.v 6)⟩,⟨.list,(.v 7)⟩,⟨.list,(.v 8)⟩,⟨(.int .i64),(.v 9)⟩,⟨(.int .i64),(.v 10)⟩,⟨(.int .i64),(.v 11)⟩,⟨.list,(.v 12)⟩] [.bool,.list,(.int .i64),.list,.list,.list]<|
 .call 2 [⟨.bool,(.v 3)⟩,⟨.list,(.v 4)⟩,⟨(.int .i64),(.v 5)⟩,⟨.list,(.v 6)⟩,⟨.list,(.v 7)⟩,⟨.list,(.v 8)⟩,⟨(.int .i64),(.v 9)⟩,⟨(.int .i64),(.v 10)⟩,⟨(.int .i64),(.v 11)⟩,⟨.list,(.v 12)⟩] [.bool,.list,(.int .i64),.list,.list,.list]<|
 .call 3 [⟨.bool,(.v 13)⟩,⟨.list,(.v 14)⟩,⟨(.int .i64),(.v 15)⟩,⟨.list,(.v 16)⟩,⟨.list,(.v 17)⟩,⟨.list,(.v 18)⟩,⟨.bool,(.v 19)⟩,⟨.list,(.v 20)⟩,⟨(.int .i64),(.v 21)⟩,⟨.list,(.v 22)⟩,⟨.list,(.v 23)⟩,⟨.list,(.v 24)⟩] [.bool]<|
 .letp .not [⟨.bool,(.v 25)⟩]<|
 .ite (.v 26) (
 .call 2 [⟨.bool,(.v 3)⟩,⟨.list,(.v 4)⟩,⟨(.int .i64),(.v 5)⟩,⟨.list,(.v 6)⟩,⟨.list,(.v 7)⟩,⟨.list,(.v 8)⟩,⟨(.int .i64),(.v 9)⟩,⟨(.int .i64),(.v 10)⟩,⟨(.int .i64),(.v 11)⟩,⟨.list,(.v 12)⟩] [.bool,.list,(.int .i64),.list,.list,.list]<|
 .call 3 [⟨.bool,(.v 13)⟩,⟨.list,(.v 14)⟩,⟨(.int .i64),(.v 15)⟩,⟨.list,(.v 16)⟩,⟨.list,(.v 17)⟩,⟨.list,(.v 18)⟩,⟨.bool,(.v 27)⟩,⟨.list,(.v 28)⟩,⟨(.int .i64),(.v 29)⟩,⟨.list,(.v 30)⟩,⟨.list,(.v 31)⟩,⟨.list,(.v 32)⟩] [.bool]<|
 .ret [⟨.bool,(.v 33)⟩])<|
 .call 4 [⟨.bool,(.v 3)⟩,⟨.list,(.v 4)⟩,⟨(.int .i64),(.v 5)⟩,⟨.list,(.v 6)⟩,⟨.list,(.v 7)⟩,⟨.list,(.v 8)⟩] [.bool]<|
 .letp .not [⟨.bool,(.v 27)⟩]<|
 .ite (.v 28) (
 .call 2 [⟨.bool,(.v 3)⟩,⟨.list,(.v 4)⟩,⟨(.int .i64),(.v 5)⟩,⟨.list,(.v 6)⟩,⟨.list,(.v 7)⟩,⟨.list,(.v 8)⟩,⟨(.int .i64),(.v 9)⟩,⟨(.int .i64),(.v 10)⟩,⟨(.int .i64),(.v 11)⟩,⟨.list,(.v 12)⟩] [.bool,.list,(.int .i64),.list,.list,.list]<|
 .call 3 [⟨.bool,(.v 13)⟩,⟨.list,(.v 14)⟩,⟨(.int .i64),(.v 15)⟩,⟨.list,(.v 16)⟩,⟨.list,(.v 17)⟩,⟨.list,(.v 18)⟩,⟨.bool,(.v 29)⟩,⟨.list,(.v 30)⟩,⟨(.int .i64),(.v 31)⟩,⟨.list,(.v 32)⟩,⟨.list,(.v 33)⟩,⟨.list,(.v 34)⟩] [.bool]<|
 .ret [⟨.bool,(.v 35)⟩]) t
def Ar(t:Tree):Tree :=
 .letp .len [⟨.list,(.v 0)⟩]<|
 .letp .gtI [⟨(.int .i64),(.v 2)⟩,⟨(.int .i64),(.n 1048576)⟩]<|
 .ite (.v 3) (
 .ret [⟨.bool,(.b true)⟩])<|
 .letp .len [⟨.list,(.v 1)⟩]<|
 .letp .gtI [⟨(.int .i64),(.v 4)⟩,⟨(.int .i64),(.n 1048576)⟩]<|
 .ite (.v 5) (
 .ret [⟨.bool,(.b true)⟩])<|
 .call 0 [⟨.list,(.v 0)⟩] [.bool,.list,(.int .i64),.list,.list,.list,(.int .i64),(.int .i64),(.int .i64),.list]<|
 .call 1 [⟨.bool,(.v 6)⟩,⟨.list,(.v 7)⟩,⟨(.int .i64),(.v 8)⟩,⟨.list,(.v 9)⟩,⟨.list,(.v 10)⟩,⟨.list,(.v 11)⟩,⟨(.int .i64),(.v 12)⟩,⟨(.int .i64),(.v 13)⟩,⟨(.int .i64),(.v 14)⟩,⟨.list,(.v 15)⟩] [.bool,.list,(.int .i64),.list,.list,.list]<|
 .call 2 [⟨.bool,(.v 6)⟩,⟨.list,(.v 7)⟩,⟨(.int .i64),(.v 8)⟩,⟨.list,(.v 9)⟩,⟨.list,(.v 10)⟩,⟨.list,(.v 11)⟩,⟨(.int .i64),(.v 12)⟩,⟨(.int .i64),(.v 13)⟩,⟨(.int .i64),(.v 14)⟩,⟨.list,(.v 15)⟩] [.bool,.list,(.int .i64),.list,.list,.list]<|
 .call 3 [⟨.bool,(.v 16)⟩,⟨.list,(.v 17)⟩,⟨(.int .i64),(.v 18)⟩,⟨.list,(.v 19)⟩,⟨.list,(.v 20)⟩,⟨.list,(.v 21)⟩,⟨.bool,(.v 22)⟩,⟨.list,(.v 23)⟩,⟨(.int .i64),(.v 24)⟩,⟨.list,(.v 25)⟩,⟨.list,(.v 26)⟩,⟨.list,(.v 27)⟩] [.bool]<|
 .letp .not [⟨.bool,(.v 28)⟩]<|
 .ite (.v 29) (
 .call 2 [⟨.bool,(.v 6)⟩,⟨.list,(.v 7)⟩,⟨(.int .i64),(.v 8)⟩,⟨.list,(.v 9)⟩,⟨.list,(.v 10)⟩,⟨.list,(.v 11)⟩,⟨(.int .i64),(.v 12)⟩,⟨(.int .i64),(.v 13)⟩,⟨(.int .i64),(.v 14)⟩,⟨.list,(.v 15)⟩] [.bool,.list,(.int .i64),.list,.list,.list]<|
 .call 3 [⟨.bool,(.v 16)⟩,⟨.list,(.v 17)⟩,⟨(.int .i64),(.v 18)⟩,⟨.list,(.v 19)⟩,⟨.list,(.v 20)⟩,⟨.list,(.v 21)⟩,⟨.bool,(.v 30)⟩,⟨.list,(.v 31)⟩,⟨(.int .i64),(.v 32)⟩,⟨.list,(.v 33)⟩,⟨.list,(.v 34)⟩,⟨.list,(.v 35)⟩] [.bool]<|
 .ret [⟨.bool,(.v 36)⟩])<|
 .call 4 [⟨.bool,(.v 6)⟩,⟨.list,(.v 7)⟩,⟨(.int .i64),(.v 8)⟩,⟨.list,(.v 9)⟩,⟨.list,(.v 10)⟩,⟨.list,(.v 11)⟩] [.bool]<|
 .letp .not [⟨.bool,(.v 30)⟩]<|
 .ite (.v 31) (
 .call 2 [⟨.bool,(.v 6)⟩,⟨.list,(.v 7)⟩,⟨(.int .i64),(.v 8)⟩,⟨.list,(.v 9)⟩,⟨.list,(.v 10)⟩,⟨.list,(.v 11)⟩,⟨(.int .i64),(.v 12)⟩,⟨(.int .i64),(.v 13)⟩,⟨(.int .i64),(.v 14)⟩,⟨.list,(.v 15)⟩] [.bool,.list,(.int .i64),.list,.list,.list]<|
 .call 3 [⟨.bool,(.v 16)⟩,⟨.list,(.v 17)⟩,⟨(.int .i64),(.v 18)⟩,⟨.list,(.v 19)⟩,⟨.list,(.v 20)⟩,⟨.list,(.v 21)⟩,⟨.bool,(.v 32)⟩,⟨.list,(.v 33)⟩,⟨(.int .i64),(.v 34)⟩,⟨.list,(.v 35)⟩,⟨.list,(.v 36)⟩,⟨.list,(.v 37)⟩] [.bool]<|
 .ret [⟨.bool,(.v 38)⟩]) t
section
variable {Φ:Phi} {f:Nat} {xs:List Cell} {ks:List CK} {t e b:Tree} {env r cs:List C} {F:List C->Option (List C)} {X:Option (List C)} {a:At} {p:Prim} {v:C}
theorem sc(hΦ:Φ f=F)(h:F cs=some r)(ha:aK env xs=cs)(hk:ak ks r=true)(g:aj (den Φ t (env++r))=X):aj (den Φ (.call f xs ks t) env)=X:=by
 rw[d8,hΦ,ha,h,bO hk];exact g
theorem st(h:(a.den env).toBool=true)(g:aj (den Φ t env)=X):aj (den Φ (.ite a t e) env)=X:=by rw[ec,h];exact g
theorem sf(h:(a.den env).toBool=false)(g:aj (den Φ e env)=X):aj (den Φ (.ite a t e) env)=X:=by rw[ec,h];exact g
theorem sl(h:p.den (aK env xs)=v)(g:aj (den Φ t (env++[v]))=X):aj (den Φ (.letp p xs t) env)=X:=by rw[d9,h];exact g
theorem sk(h:(p.den (aK env xs)).toBool=true)(g:aj (den Φ t env)=X):aj (den Φ (.chk p xs t) env)=X:=by rw[gR,h];exact g
theorem dc{Y:Option Out}(hΦ:Φ f=F)(h:F cs=some r)(ha:aK env xs=cs)(hk:ak ks r=true)(g:den Φ t (env++r)=Y):den Φ (.call f xs ks t) env=Y:=by
 rw[d8,hΦ,ha,h,bO hk];exact g
theorem dl{Y:Option Out}(h:p.den (aK env xs)=v)(g:den Φ t (env++[v])=Y):den Φ (.letp p xs t) env=Y:=by rw[d9,h];exact g
theorem dj(h:aK env xs=cs):den Φ (.jump xs) env=some (.jump cs):=by rw[fw,h]
theorem dR(h:aK env xs=cs):aj (den Φ (.ret xs) env)=some cs:=by rw[fS,h];rfl
end
def EJ(code:List Int)(w:Wd)(e:Ev)(x:Wd):List C :=
 [.list (code.map eB),.int .i64 ((code.map eB).length:Nat),.bool false,
  .bool w.dk.up,.list (w.dk.lg.rs.map Rec.e),.int .i64 w.dk.lg.f,.list (w.dk.td.map Word.e),.list (w.hs.map House.e),.list (w.ns.map Word.e),
  .int .i64 e.k,.int .i64 e.a,.int .i64 e.b,.list (e.m.map eI),
  .bool x.dk.up,.list (x.dk.lg.rs.map Rec.e),.int .i64 x.dk.lg.f,.list (x.dk.td.map Word.e),.list (x.hs.map House.e),.list (x.ns.map Word.e),
  .bool x.dk.up,.list (x.dk.lg.rs.map Rec.e),.int .i64 x.dk.lg.f,.list (x.dk.td.map Word.e),.list (x.hs.map House.e),.list (x.ns.map Word.e),.bool true,.bool false,.bool true,.bool false]
def zF(code more:List Int)(w:Wd)(e:Ev)(x:Wd):List C :=
 [.list (code.map eB),.list (more.map eB),.int .i64 ((code.map eB).length:Nat),.bool false,.int .i64 ((more.map eB).length:Nat),.bool false,
  .bool w.dk.up,.list (w.dk.lg.rs.map Rec.e),.int .i64 w.dk.lg.f,.list (w.dk.td.map Word.e),.list (w.hs.map House.e),.list (w.ns.map Word.e),
  .int .i64 e.k,.int .i64 e.a,.int .i64 e.b,.list (e.m.map eI),
  .bool x.dk.up,.list (x.dk.lg.rs.map Rec.e),.int .i64 x.dk.lg.f,.list (x.dk.td.map Word.e),.list (x.hs.map House.e),.list (x.ns.map Word.e),
  .bool x.dk.up,.list (x.dk.lg.rs.map Rec.e),.int .i64 x.dk.lg.f,.list (x.dk.td.map Word.e),.list (x.hs.map House.e),.list (x.ns.map Word.e),.bool true,.bool false,.bool true,.bool false]
section
variable {Φ:Phi} {t:Tree} {code more:List Int}
theorem nU(h0:Φ 0=kv)(h1:Φ 1=ia)(h2:Φ 2=iM)(h3:Φ 3=fW)(h4:Φ 4=iL)
  (hl:code.length<=1099511627776) (hc:fk code)
  (ht:∀(w:Wd) (e:Ev) (x:Wd),WOk w->EvS e->x=wdo w e->aj (den Φ t (EJ code w e x))=some [.bool true]) :
  aj (den Φ (Dt t) [.list (code.map eB)])=some [.bool true]:=by
 obtain⟨w,e,hw,he,hd,hok,x,hx,x0,x1,p1,p2,hn⟩:=Ds hl hc
 simp only[Wd.e,List.cons_append,List.nil_append]at p1 p2 hn
 unfold Dt
 refine sl rfl ?_
 by_cases hbig:(((code.map eB).length:Nat):Int)>1048576
 ·exact sl (congrArg C.bool (decide_eq_true hbig)) (st rfl (dR rfl))
 refine sl (congrArg C.bool (decide_eq_false hbig)) (sf rfl (sc h0 hd rfl rfl (sc h1 p1 rfl rfl (sc h2 p2 rfl rfl (sc h3 hn rfl rfl (sl rfl (sf rfl ?_)))))))
 cases hwo:cj w with
 | false =>
  rw[hwo]at hok
  exact sc h4 hok rfl rfl (sl rfl (st rfl (sc h2 p2 rfl rfl (sc h3 hn rfl rfl (dR rfl)))))
 | true =>
  rw[hwo]at hok
  exact sc h4 hok rfl rfl (sl rfl (sf rfl (ht w e x (worldOk_iff.1 hwo) he (x1 hwo))))
set_option maxHeartbeats 2000000 in
theorem lR(h0:Φ 0=kv)(h1:Φ 1=ia)(h2:Φ 2=iM)(h3:Φ 3=fW)(h4:Φ 4=iL)
  (hl:code.length<=1099511627776) (hc:fk code)
  (ht:∀(w:Wd) (e:Ev) (x:Wd),more.length<=1048576->WOk w->EvS e->x=wdo w e->aj (den Φ t (zF code more w e x))=some [.bool true]) :
  aj (den Φ (Ar t) [.list (code.map eB),.list (more.map eB)])=some [.bool true]:=by
 obtain⟨w,e,hw,he,hd,hok,x,hx,x0,x1,p1,p2,hn⟩:=Ds hl hc
 simp only[Wd.e,List.cons_append,List.nil_append]at p1 p2 hn
 unfold Ar
 refine sl rfl ?_
 by_cases hbig:(((code.map eB).length:Nat):Int)>1048576
 ·exact sl (congrArg C.bool (decide_eq_true hbig)) (st rfl (dR rfl))
 refine sl (congrArg C.bool (decide_eq_false hbig)) (sf rfl (sl rfl ?_))
 by_cases hbig2:(((more.map eB).length:Nat):Int)>1048576
 ·exact sl (congrArg C.bool (decide_eq_true hbig2)) (st rfl (dR rfl))
 refine sl (congrArg C.bool (decide_eq_false hbig2)) (sf rfl (sc h0 hd rfl rfl (sc h1 p1 rfl rfl (sc h2 p2 rfl rfl (sc h3 hn rfl rfl (sl rfl (sf rfl ?_)))))))
 rw[List.length_map]at hbig2
 cases hwo:cj w with
 | false =>
  rw[hwo]at hok
  exact sc h4 hok rfl rfl (sl rfl (st rfl (sc h2 p2 rfl rfl (sc h3 hn rfl rfl (dR rfl)))))
 | true =>
  rw[hwo]at hok
  exact sc h4 hok rfl rfl (sl rfl (sf rfl (ht w e x (by omega) (worldOk_iff.1 hwo) he (x1 hwo))))
end
end Dx
namespace Dx
open Go
section
variable {bs:List Int}
def ROut(bs:List Int)(p:Int)(r:Option (List C)):Prop:=∃(x:Rec) (p':Int),r=some (x.e++[.list (bs.map eB),.int .i64 p'])/\p<=p'/\p'<=p+30/\x.m.length<=1000
theorem ROut.ite{p:Int}{c:Prop}[Decidable c]{a b:Option (List C)}(ha:ROut bs p a)(hb:ROut bs p b):ROut bs p (if c then a else b):=by split<;>assumption
theorem Io{p p' k t:Int}{m:List Int}(h1:p<=p')(h2:p'<=p+30)(h3:m.length<=1000):ROut bs p (some [.int .i64 k,.int .i64 t,.list (m.map eI),.list (bs.map eB),.int .i64 p']):=⟨⟨k,t,m⟩,p',rfl,h1,h2,h3⟩
theorem lq(hb:Rd bs){p p' k t:Int}{b:Bool}{m:List Int}(h0:0<=p)(h1:p<=800000000)(g1:p<=p')(g2:p'<=p+15)(hm:m.length<=3) :
  ROut bs p (aj (zz k t b (bs.map eB) p' (m.map eI))):=by
 obtain⟨pk,hpk⟩:=fj hb
 have q:=fun p n h0 h1 h2=>(hpk p n h0 h1 h2).1
 have k2:=hpk (p'+1) 3 (by omega) (by omega) (by omega)
 have u2:=k2.2.2.1 (by omega)
 obtain⟨x,e1⟩:=In (a:=0) (b:=6) (c:=7) (kk:=.i64) k2.2.1 u2
 have u3:pk (p'+1) 3<((0+1+1+1:Nat):Int):=by omega
 have u0:=k2.2.1
 have hc:m.length+1<=1099511627776:=by omega
 unfold zz
 simp (disch:=first|assumption|omega|(simp only[zL];omega)) only[q,e1,u0,u3,hc,decide_true,Bool.and_self,Int.reduceEq,reduceIte,zU,zT,aa]
 refine ROut.ite (Io (by omega) (by omega) (by omega)) (ROut.ite (Io (by omega) (by omega) (by omega)) (ROut.ite ?_ (Io (by omega) (by omega) (by omega))))
 have:=Io (bs:=bs) (p:=p) (p':=p'+1+1) (k:=k) (t:=t) (m:=m++[pk (p'+1) 5]) (by omega) (by omega) (by simp;omega)
 simpa [eI] using this
theorem CI(hb:Rd bs){p:Int}(h0:0<=p)(h1:p<=700000000):ROut bs p (xF [.list (bs.map eB),.int .i64 p]):=by
 rw[q_fp]
 obtain⟨pk,hpk⟩:=fj hb
 have q:=fun p n h0 h1 h2=>(hpk p n h0 h1 h2).1
 have a1:=hpk p 7 (by omega) (by omega) (by omega)
 have a2:=hpk (p+1) 4 (by omega) (by omega) (by omega)
 have a3:=hpk (p+1+1) 3 (by omega) (by omega) (by omega)
 have u1:=a1.2.2.1 (by omega)
 have u2:=a2.2.2.1 (by omega)
 have u3:=a3.2.2.1 (by omega)
 have v1:=a1.2.1
 have v2:=a2.2.1
 have v3:=a3.2.1
 obtain⟨m,p3,hm,hm1,hm2,hm3⟩:=ln hb (p:=p+1+1) (by omega) (by omega)
 simp (disch:=first|assumption|omega|(simp only[zL];omega)) only[F_fp,q,hm,az,Int.reduceEq,reduceIte,zU,zT,aa]
 refine ROut.ite ?_ (ROut.ite ?_ ?_)
 ·have:=lq hb (p:=p) (p':=p+1+1+1) (k:=1+pk p 7) (t:=1+pk (p+1) 4) (b:=true) (m:=[1+pk (p+1+1) 3]) h0 (by omega) (by omega) (by omega) (by simp)
  exact this
 ·exact lq hb (p:=p) h0 (by omega) (by omega) (by omega) hm3
 ·have:=lq hb (p:=p) (p':=p+1+1) (k:=1+pk p 7) (t:=1+pk (p+1) 4) (b:=false) (m:=[]) h0 (by omega) (by omega) (by omega) (by simp)
  exact this
theorem CJ(a b:Int)(l m:List (List C))(e:Int)(f:List C->Option Out):ac (some [.int .i64 a,.int .i64 b,.list l,.list m,.int .i64 e]) [.int .i64,.int .i64,.list,.list,.int .i64] f=f [.int .i64 a,.int .i64 b,.list l,.list m,.int .i64 e]:=bO rfl
theorem Du(a:Bool)(l:List (List C))(b:Int)(m:List (List C))(a':Bool)(b':Int)(n o q:List (List C))(e:Int)(f:List C->Option Out) :
  ac (some [.bool a,.list l,.int .i64 b,.list m,.bool a',.hole,.int .i64 b',.hole,.list n,.list o,.list q,.int .i64 e]) [.bool,.list,.int .i64,.list,.bool,.hole,.int .i64,.hole,.list,.list,.list,.int .i64] f =
   f [.bool a,.list l,.int .i64 b,.list m,.bool a',.hole,.int .i64 b',.hole,.list n,.list o,.list q,.int .i64 e]:=bO rfl
def DOut(bs:List Int)(r:Option (List C)):Prop:=∃(d:Desk) (u:Bool) (f:Int) (hs:List (List C)) (ns:List Word) (p':Int),r=some (d.e++[.bool u,.hole,.int .i64 f,.hole,.list hs,.list (ns.map Word.e),.list (bs.map eB),.int .i64 p'])/\0<=p'/\p'<=5000/\DkS d/\ns.length<=1000
theorem DOut.ite{c:Prop}[Decidable c]{a b:Option (List C)}(ha:DOut bs a)(hb:DOut bs b):DOut bs (if c then a else b):=by split<;>assumption
theorem Fs{d:Desk}{u:Bool}{f:Int}{hs:List (List C)}{ns:List Word}{p':Int}(h0:0<=p')(h1:p'<=5000)(hd:DkS d)(hn:ns.length<=1000) :
  DOut bs (some [.bool d.up,.list (d.lg.rs.map Rec.e),.int .i64 d.lg.f,.list (d.td.map Word.e),.bool u,.hole,.int .i64 f,.hole,.list hs,.list (ns.map Word.e),.list (bs.map eB),.int .i64 p']):=⟨d,u,f,hs,ns,p',rfl,h0,h1,hd,hn⟩
theorem rF(hb:Rd bs){p:Int}(h0:0<=p)(h1:p<=100):DOut bs (qQ [.list (bs.map eB),.int .i64 p]):=by
 rw[q_ff]
 obtain⟨pk,hpk⟩:=fj hb
 have q:=fun p n h0 h1 h2=>(hpk p n h0 h1 h2).1
 obtain⟨a,b,c,w0,es,w,p',hp,_,_,_,_,_,_,hw0,hd,hp0,hp1⟩:=ru hb (p:=p) (by omega) (by omega)
 simp only[Wd.e,List.cons_append,List.nil_append]at hp
 have ow:WOk w:=by rw[hd.play];exact(ir hw0).plays es
 have hnl:=ow.nlen
 have htd:=ow.dk.tdlen
 have hS:=ow.dk.S
 have hrl:=hS.lg.1
 have hrm:=hS.lg.2
 have hrs:w.dk.lg.rs.length<=40:=ow.dk.lg.len
 obtain⟨x,px,hx,hx1,hx2⟩:=lm hb (p:=p'+1) (by omega) (by omega)
 simp only[Word.e,List.cons_append,List.nil_append]at hx
 obtain⟨r,pr,hr,hr1,hr2,hr3⟩:=CI hb (p:=p'+1) (by omega) (by omega)
 simp only[Rec.e,List.cons_append,List.nil_append]at hr
 have hc1:w.dk.lg.rs.length+1<=1099511627776:=by omega
 have hc2:w.dk.td.length+1<=1099511627776:=by omega
 simp (disch:=first|assumption|omega|(simp only[zL];omega)) only[F_ff,hp,q,hx,hr,lp,CJ,hc1,hc2,Int.reduceEq,reduceIte,zU,zT,aa]
 refine DOut.ite ?_ (DOut.ite ?_ (DOut.ite ?_ (DOut.ite ?_ ?_)))
 ·have:=Fs (bs:=bs) (d:=⟨w.dk.up,⟨w.dk.lg.rs++[r],w.dk.lg.f⟩,w.dk.td⟩) (u:=w.dk.up) (f:=w.dk.lg.f) (hs:=w.hs.map House.e) (ns:=w.ns) (p':=pr) (by omega) (by omega) ⟨⟨by simp;omega,fun y hy=>?_⟩,hS.td⟩ (by omega)
  ·simpa [Rec.e] using this
  ·rcases List.mem_append.1 hy with hy|hy
   ·exact hrm y hy
   ·rw[List.mem_singleton.1 hy];omega
 ·have:=Fs (bs:=bs) (d:=⟨w.dk.up,w.dk.lg,w.dk.td++[x]⟩) (u:=w.dk.up) (f:=w.dk.lg.f) (hs:=w.hs.map House.e) (ns:=w.ns) (p':=px) (by omega) (by omega) ⟨hS.lg,by simp;omega⟩ (by omega)
  simpa [Word.e] using this
 ·exact Fs (d:=⟨!w.dk.up,w.dk.lg,w.dk.td⟩) (ns:=w.ns) (by omega) (by omega) ⟨hS.lg,hS.td⟩ (by omega)
 ·exact Fs (d:=⟨w.dk.up,⟨w.dk.lg.rs,IntKind.wrap .i64 (w.dk.lg.f+1)⟩,w.dk.td⟩) (ns:=w.ns) (by omega) (by omega) ⟨⟨hrl,hrm⟩,hS.td⟩ (by omega)
 ·exact Fs (d:=w.dk) (ns:=w.ns) (by omega) (by omega) hS (by omega)
theorem my{code:List Int}(hl:code.length<=1099511627776)(hc:∀ b∈code,0<=b/\b<=255) :
  ∃(d:Desk) (m:List Int),kx [.list (code.map eB)]=some (d.e++[.list (m.map eI)])/\DkS d/\m.length<=3:=by
 rw[q_av]
 obtain⟨bs,hb,ho⟩:=o5 hl hc
 obtain⟨d,u,f,hs,ns,p,hp,hp0,hp1,hd,hn⟩:=rF hb (p:=0) (by omega) (by omega)
 simp only[Desk.e,List.cons_append,List.nil_append]at hp
 obtain⟨m,p3,hm,hm1,hm2,hm3⟩:=ln hb (p:=p) (by omega) (by omega)
 simp (disch:=first|assumption|omega|(simp only[zL];omega)) only[F_av,ho,hp,hm,Du,Int.reduceEq,reduceIte,zU,zT,aa]
 exact⟨d,m,rfl,hd,hm3⟩
end
section
variable {up b:Bool} {rs:List Rec} {f:Int} {td:List Word} {k h t m:Int} {ms:List Int}
theorem lS(hs:DkS ⟨up,⟨rs,f⟩,td⟩):xG [.bool up,.list (rs.map Rec.e),.int .i64 f,.list (td.map Word.e),.bool b]=some [.list ((if aU ⟨up,⟨rs,f⟩,td⟩ then ah ⟨rs,f⟩ b else []).map Trip.e)]:=by
 rw[q_cw]
 cases ho:aU ⟨up,⟨rs,f⟩,td⟩with
 | false=>simp (disch:=first|assumption|omega|(simp only[zL];omega)) only[F_cw,cM,ho,Int.reduceEq,reduceIte,zU,zT,aa];rfl
 | true =>
  have hd:=deskOk_iff.1 ho
  have hlg:LgOk ⟨rs,f⟩:=hd.lg
  have h1:=jx (up:=up) (b:=b) hlg.S (fun _=>⟨hlg.lo,hlg.hi⟩) (tl:=td.map Word.e)
  simp (disch:=first|assumption|omega|(simp only[zL];omega)) only[F_cw,cM,ho,h1,Int.reduceEq,reduceIte,zU,zT,aa]
theorem uT(hs:DkS ⟨up,⟨rs,f⟩,td⟩):xH [.bool up,.list (rs.map Rec.e),.int .i64 f,.list (td.map Word.e)]=some [.list ((if aU ⟨up,⟨rs,f⟩,td⟩ then aN ⟨up,⟨rs,f⟩,td⟩ else []).map Word.e)]:=by
 rw[q_cn]
 cases ho:aU ⟨up,⟨rs,f⟩,td⟩with
 | false=>simp (disch:=first|assumption|omega|(simp only[zL];omega)) only[F_cn,cM,ho,Int.reduceEq,reduceIte,zU,zT,aa];rfl
 | true =>
  have hd:=deskOk_iff.1 ho
  have h1:=nJ hd (by have:=hs.td;simp only at this;omega)
  simp (disch:=first|assumption|omega|(simp only[zL];omega)) only[F_cn,cM,ho,h1,Int.reduceEq,reduceIte,zU,zT,aa]
theorem yp(hs:DkS ⟨up,⟨rs,f⟩,td⟩) :
  mq [.bool up,.list (rs.map Rec.e),.int .i64 f,.list (td.map Word.e),.int .i64 k,.int .i64 h,.int .i64 t,.int .i64 m]=some (if aU ⟨up,⟨rs,f⟩,td⟩ then dhear ⟨up,⟨rs,f⟩,td⟩ ⟨k,h,t,m⟩ else dz).e:=by
 rw[q_dk]
 cases ho:aU ⟨up,⟨rs,f⟩,td⟩with
 | false=>simp (disch:=first|assumption|omega|(simp only[zL];omega)) only[F_dk,cM,ho,Int.reduceEq,reduceIte,zU,zT,aa];rfl
 | true =>
  have hd:=deskOk_iff.1 ho
  have h1:=rr hd (by have:=hs.td;simp only at this;omega) (k:=k) (h:=h) (t:=t) (m:=m)
  simp only[Desk.e]at h1
  simp (disch:=first|assumption|omega|(simp only[zL];omega)) only[F_dk,cM,ho,ll,h1,Desk.e,Int.reduceEq,reduceIte,zU,zT,aa]
theorem uU(hs:DkS ⟨up,⟨rs,f⟩,td⟩)(hm:ms.length<=2000000) :
  kA [.bool up,.list (rs.map Rec.e),.int .i64 f,.list (td.map Word.e),.list (ms.map eI)] =
   some (if aU ⟨up,⟨rs,f⟩,td⟩ && aA (aV ⟨up,⟨rs,f⟩,td⟩ ms) then(aQ ⟨up,⟨rs,f⟩,td⟩ (aV ⟨up,⟨rs,f⟩,td⟩ ms)).e++[.bool (cA ⟨up,⟨rs,f⟩,td⟩ (aV ⟨up,⟨rs,f⟩,td⟩ ms))] else dz.e++[.bool false]):=by
 rw[q_ci]
 have hm2:ms.length<=1099511627776:=by omega
 cases ho:aU ⟨up,⟨rs,f⟩,td⟩with
 | false =>
  have h2:=lS (b:=false) hs
  simp only[ho,if_neg Bool.false_ne_true]at h2
  simp (disch:=first|assumption|omega|(simp only[zL];omega)) only[H8,cM,ho,h2,iY,hm2,Int.reduceEq,reduceIte,zU,zT,aa]
  rfl
 | true =>
  have hd:=deskOk_iff.1 ho
  have h2:=lS (b:=false) hs
  simp only[ho,if_true]at h2
  have hl6:(ah ⟨rs,f⟩ false).length<=6:=(hd.trOk false).len
  have hw:IntKind.wrap .i64 ((((ah ⟨rs,f⟩ false).length:Nat):Int)+1)=(((ah ⟨rs,f⟩ false).length:Nat):Int)+1:=az (by omega) (by omega)
  have hr:=kU (k:=4) (t:=((ah ⟨rs,f⟩ false).length:Nat)+1) (m:=ms) hm2
  have e0:aV ⟨up,⟨rs,f⟩,td⟩ ms=⟨4,((ah ⟨rs,f⟩ false).length:Nat)+1,ms⟩:=rfl
  rw[e0]
  cases hro:aA ⟨4,((ah ⟨rs,f⟩ false).length:Nat)+1,ms⟩with
  | false =>
   rw[hro]at hr
   simp (disch:=first|assumption|omega|(simp only[zL];omega)) only[H8,cM,ho,h2,hw,hr,iY,hm2,Bool.and_false,Int.reduceEq,reduceIte,zU,zT,aa]
   rfl
  | true =>
   rw[hro]at hr
   have h3:=dC hd hro
   simp only[Desk.e,List.cons_append,List.nil_append]at h3
   simp (disch:=first|assumption|omega|(simp only[zL];omega)) only[H8,cM,ho,h2,hw,hr,h3,ll,iY,hm2,Bool.and_true,Desk.e,Int.reduceEq,reduceIte,zU,zT,aa]
   rfl
end
end Dx
namespace Dx
open Go
section
variable {bs:List Int}
def HOut(r:Option (List C))(d:Desk):Prop:=∃ x:Word,r=some (d.e++x.e)
theorem HOut.ite{d:Desk}{c:Prop}[Decidable c]{a b:Option (List C)}(ha:HOut a d)(hb:HOut b d):HOut (if c then a else b) d:=by split<;>assumption
theorem Dv{d:Desk}{k h t m:Int}:HOut (some [.bool d.up,.list (d.lg.rs.map Rec.e),.int .i64 d.lg.f,.list (d.td.map Word.e),.int .i64 k,.int .i64 h,.int .i64 t,.int .i64 m]) d:=⟨⟨k,h,t,m⟩,rfl⟩
theorem row4i{a b c d i:Int}(h0:0<=i)(h3:i<4){kk:IntKind}:∃ x,(∀ f:List C->Option Out,aE (.list [[.int .i64 a],[.int .i64 b],[.int .i64 c],[.int .i64 d]]) (.int kk i) [.int .i64] f=f [.int .i64 x]):=by
 obtain⟨n,rfl⟩:=Int.eq_ofNat_of_zero_le h0
 rcases (show n=0\/n=1\/n=2\/n=3 by omega)with e|e|e|e<;>subst e
 ·exact⟨a,fun _=>rfl⟩
 ·exact⟨b,fun _=>rfl⟩
 ·exact⟨c,fun _=>rfl⟩
 ·exact⟨d,fun _=>rfl⟩
theorem BD(hb:Rd bs){p:Int}{d:Desk}{ws ns:List Word}{x:Word}{b:Bool}(h0:0<=p)(h1:p<=800000000)(hw:∀ y∈ws,0<=y.k/\y.k<=3)(hwl:ws.length<=1000)(hbw:b=true->ws≠[])(hnl:ns.length<=1000) :
  HOut (aj (tS d.up (d.lg.rs.map Rec.e) d.lg.f (d.td.map Word.e) (ns.map Word.e) x.k x.h x.t x.m (ws.map Word.e) b (bs.map eB) p)) d:=by
 obtain⟨pk,hpk⟩:=fj hb
 have q:=fun p n h0 h1 h2=>(hpk p n h0 h1 h2).1
 unfold tS
 have rest:HOut (aj (ae (decide (((ns.map Word.e).length:Nat)>(0:Int))) (
   ac (aL [C.list (bs.map eB),C.int .i64 p,C.int .i64 2]) [(.int .i64),.list,(.int .i64)] fun r27 =>
   ae ((aa r27 0).toInt==0) (
    ac (aL [C.list (aa r27 1).toList,C.int .i64 (aa r27 2).toInt,C.int .i64 ((ns.map Word.e).length:Nat)]) [(.int .i64),.list,(.int .i64)] fun r32 =>
    aE (.list (ns.map Word.e)) (.int .i64 (aa r32 0).toInt) [(.int .i64),(.int .i64),(.int .i64),(.int .i64)] fun r35 =>
    some (.ret [C.bool d.up,C.list (d.lg.rs.map Rec.e),C.int .i64 d.lg.f,C.list (d.td.map Word.e),C.int .i64 (aa r35 0).toInt,C.int .i64 (aa r35 1).toInt,C.int .i64 (aa r35 2).toInt,C.int .i64 (aa r35 3).toInt]))<|
   some (.ret [C.bool d.up,C.list (d.lg.rs.map Rec.e),C.int .i64 d.lg.f,C.list (d.td.map Word.e),C.int .i64 x.k,C.int .i64 x.h,C.int .i64 x.t,C.int .i64 x.m]))<|
   some (.ret [C.bool d.up,C.list (d.lg.rs.map Rec.e),C.int .i64 d.lg.f,C.list (d.td.map Word.e),C.int .i64 x.k,C.int .i64 x.h,C.int .i64 x.t,C.int .i64 x.m]))) d:=by
  by_cases hn:0<ns.length
  ·have hn':(0:Int)<((ns.length:Nat):Int):=by omega
   have r:=hpk (p+1) ((ns.length:Nat):Int) (by omega) (by omega) (by omega)
   have r1:=r.2.2.1 (by omega)
   have r0:=r.2.1
   have hy:ns[(pk (p+1) ((ns.length:Nat):Int)).toNat]?=some (ns[(pk (p+1) ((ns.length:Nat):Int)).toNat]'(by omega)):=List.getElem?_eq_getElem (by omega)
   generalize ns[(pk (p+1) ((ns.length:Nat):Int)).toNat]'(by omega)=y at hy
   have hrow:∀ f:List C->Option Out,aE (.list (ns.map Word.e)) (.int .i64 (pk (p+1) ((ns.length:Nat):Int))) [.int .i64,.int .i64,.int .i64,.int .i64] f=f y.e:=fun f=>tY (by omega) hy
   simp (disch:=first|assumption|omega|(simp only[zL];omega)) only[q,hn',if_true,hrow,Word.e,Int.reduceEq,reduceIte,zU,zT,aa]
   exact HOut.ite Dv Dv
  ·have hn':¬ ((0:Int)<((ns.length:Nat):Int)):=by omega
   simp (disch:=first|assumption|omega|(simp only[zL];omega)) only[q,hn',if_false,Int.reduceEq,reduceIte,zU,zT,aa]
   exact Dv
 cases b with
 | false=>exact rest
 | true =>
  have hne:=hbw rfl
  have hpos:0<ws.length:=List.length_pos_iff.2 hne
  have r:=hpk p ((ws.length:Nat):Int) (by omega) (by omega) (by omega)
  have r1:=r.2.2.1 (by omega)
  have r0:=r.2.1
  have hy:ws[(pk p ((ws.length:Nat):Int)).toNat]?=some (ws[(pk p ((ws.length:Nat):Int)).toNat]'(by omega)):=List.getElem?_eq_getElem (by omega)
  have hk:=hw _ (List.mem_of_getElem? hy)
  generalize ws[(pk p ((ws.length:Nat):Int)).toNat]'(by omega)=y at hy hk
  have hrow:∀ f:List C->Option Out,aE (.list (ws.map Word.e)) (.int .i64 (pk p ((ws.length:Nat):Int))) [.int .i64,.int .i64,.int .i64,.int .i64] f=f y.e:=fun f=>tY (by omega) hy
  obtain⟨z,ez⟩:=row4i (a:=0) (b:=4) (c:=6) (d:=7) (kk:=.i64) hk.1 (by omega)
  have k1:y.k<((0+1+1+1+1:Nat):Int):=by omega
  have k0:=hk.1
  simp (disch:=first|assumption|omega|(simp only[zL];omega)) only[q,hrow,Word.e,ez,k0,k1,decide_true,Bool.and_self,Int.reduceEq,reduceIte,zU,zT,aa]
  exact HOut.ite (HOut.ite Dv Dv) Dv
theorem mU{code:List Int}(hl:code.length<=1099511627776)(hc:∀ b∈code,0<=b/\b<=255) :
  ∃(d:Desk) (x:Word),mp [.list (code.map eB)]=some (d.e++x.e)/\DkS d:=by
 rw[q_ay]
 obtain⟨bs,hb,ho⟩:=o5 hl hc
 obtain⟨pk,hpk⟩:=fj hb
 have q:=fun p n h0 h1 h2=>(hpk p n h0 h1 h2).1
 obtain⟨d,u,f,hs,ns,p,hp,hp0,hp1,hd,hn⟩:=rF hb (p:=0) (by omega) (by omega)
 simp only[Desk.e,List.cons_append,List.nil_append]at hp
 obtain⟨x,px,hx,hx1,hx2⟩:=lm hb (p:=p) (by omega) (by omega)
 simp only[Word.e,List.cons_append,List.nil_append]at hx
 have hd':DkS ⟨d.up,⟨d.lg.rs,d.lg.f⟩,d.td⟩:=hd
 have hw:=uT hd'
 simp only[eE,eG]at hw
 obtain⟨ws,hws⟩:∃ ws,ws=(if aU d then aN d else []):=⟨_,rfl⟩
 rw[<-hws]at hw
 have hwk:(∀ y∈ws,0<=y.k/\y.k<=3)/\ws.length<=1000:=by
  rw[hws];split
  ·rename_i ho
   have ok:=deskOk_iff.1 ho
   refine⟨fun y hy=>?_,by have:=gH ok;omega⟩
   have:=fe ok hy
   have h1:=this.1.k.1
   exact⟨by omega,this.2.1⟩
  ·exact⟨by simp,by simp⟩
 simp (disch:=first|assumption|omega|(simp only[zL];omega)) only[F_ay,ho,hp,hx,hw,q,Du,lp,Int.reduceEq,reduceIte,zU,zT,aa]
 have key:∀(b:Bool) (p':Int),px<=p'->p'<=px+10->(b=true->ws≠[])->∃(d':Desk) (x':Word),aj (tS d.up (d.lg.rs.map Rec.e) d.lg.f (d.td.map Word.e) (ns.map Word.e) x.k x.h x.t x.m (ws.map Word.e) b (bs.map eB) p')=some (d'.e++x'.e)/\DkS d':=by
  intro b p' g1 g2 g3
  obtain⟨y,hy⟩:=BD hb (p:=p') (d:=d) (ws:=ws) (ns:=ns) (x:=x) (b:=b) (by omega) (by omega) hwk.1 hwk.2 g3 hn
  exact⟨d,y,hy,hd⟩
 by_cases hpos:(0:Int)<((ws.length:Nat):Int)
 ·simp only[hpos,if_true]
  exact key _ _ (by omega) (by omega) (fun _ e=>by rw[e]at hpos;simp at hpos)
 ·simp only[hpos,if_false]
  exact key _ _ (by omega) (by omega) (fun e=>by cases e)
end
def vu(t:Tree):Tree :=
 .letp .len [⟨.list,(.v 0)⟩]<|
 .letp .gtI [⟨(.int .i64),(.v 1)⟩,⟨(.int .i64),(.n 1048576)⟩]<|
 .ite (.v 2) (
 .ret [⟨.bool,(.b true)⟩])<|
 .call 0 [⟨.list,(.v 0)⟩] [.bool,.list,(.int .i64),.list,(.int .i64),(.int .i64),(.int .i64),(.int .i64)]<|
 .call 1 [⟨.bool,(.v 3)⟩,⟨.list,(.v 4)⟩,⟨(.int .i64),(.v 5)⟩,⟨.list,(.v 6)⟩,⟨(.int .i64),(.v 7)⟩,⟨(.int .i64),(.v 8)⟩,⟨(.int .i64),(.v 9)⟩,⟨(.int .i64),(.v 10)⟩] [.bool,.list,(.int .i64),.list]<|
 .call 2 [⟨.bool,(.v 3)⟩,⟨.list,(.v 4)⟩,⟨(.int .i64),(.v 5)⟩,⟨.list,(.v 6)⟩,⟨(.int .i64),(.v 7)⟩,⟨(.int .i64),(.v 8)⟩,⟨(.int .i64),(.v 9)⟩,⟨(.int .i64),(.v 10)⟩] [.bool,.list,(.int .i64),.list]<|
 .call 3 [⟨.bool,(.v 11)⟩,⟨.list,(.v 12)⟩,⟨(.int .i64),(.v 13)⟩,⟨.list,(.v 14)⟩,⟨.bool,(.v 15)⟩,⟨.list,(.v 16)⟩,⟨(.int .i64),(.v 17)⟩,⟨.list,(.v 18)⟩] [.bool]<|
 .letp .not [⟨.bool,(.v 19)⟩]<|
 .ite (.v 20) (
 .call 2 [⟨.bool,(.v 3)⟩,⟨.list,(.v 4)⟩,⟨(.int .i64),(.v 5)⟩,⟨.list,(.v 6)⟩,⟨(.int .i64),(.v 7)⟩,⟨(.int .i64),(.v 8)⟩,⟨(.int .i64),(.v 9)⟩,⟨(.int .i64),(.v 10)⟩] [.bool,.list,(.int .i64),.list]<|
 .call 3 [⟨.bool,(.v 11)⟩,⟨.list,(.v 12)⟩,⟨(.int .i64),(.v 13)⟩,⟨.list,(.v 14)⟩,⟨.bool,(.v 21)⟩,⟨.list,(.v 22)⟩,⟨(.int .i64),(.v 23)⟩,⟨.list,(.v 24)⟩] [.bool]<|
 .ret [⟨.bool,(.v 25)⟩])<|
 .call 4 [⟨.bool,(.v 3)⟩,⟨.list,(.v 4)⟩,⟨(.int .i64),(.v 5)⟩,⟨.list,(.v 6)⟩] [.bool]<|
 .letp .not [⟨.bool,(.v 21)⟩]<|
 .ite (.v 22) (
 .call 2 [⟨.bool,(.v 3)⟩,⟨.list,(.v 4)⟩,⟨(.int .i64),(.v 5)⟩,⟨.list,(.v 6)⟩,⟨(.int .i64),(.v 7)⟩,⟨(.int .i64),(.v 8)⟩,⟨(.int .i64),(.v 9)⟩,⟨(.int .i64),(.v 10)⟩] [.bool,.list,(.int .i64),.list]<|
 .call 3 [⟨.bool,(.v 11)⟩,⟨.list,(.v 12)⟩,⟨(.int .i64),(.v 13)⟩,⟨.list,(.v 14)⟩,⟨.bool,(.v 23)⟩,⟨.list,(.v 24)⟩,⟨(.int .i64),(.v 25)⟩,⟨.list,(.v 26)⟩] [.bool]<|
 .ret [⟨.bool,(.v 27)⟩]) t
def iZ(code:List Int)(d:Desk)(x:Word)(d':Desk):List C :=
 [.list (code.map eB),.int .i64 ((code.map eB).length:Nat),.bool false,
  .bool d.up,.list (d.lg.rs.map Rec.e),.int .i64 d.lg.f,.list (d.td.map Word.e),.int .i64 x.k,.int .i64 x.h,.int .i64 x.t,.int .i64 x.m,
  .bool d'.up,.list (d'.lg.rs.map Rec.e),.int .i64 d'.lg.f,.list (d'.td.map Word.e),
  .bool d'.up,.list (d'.lg.rs.map Rec.e),.int .i64 d'.lg.f,.list (d'.td.map Word.e),.bool true,.bool false,.bool true,.bool false]
theorem kh{d:Desk}(h:DkS d):cW [.bool d.up,.list (d.lg.rs.map Rec.e),.int .i64 d.lg.f,.list (d.td.map Word.e),.bool d.up,.list (d.lg.rs.map Rec.e),.int .i64 d.lg.f,.list (d.td.map Word.e)]=some [.bool true]:=by
 have hS:DkS ⟨d.up,⟨d.lg.rs,d.lg.f⟩,d.td⟩:=h
 rw[zE hS];simp
theorem dz_S:DkS dz:=⟨⟨by simp[dz],by simp[dz]⟩,by simp[dz]⟩
section
variable {Φ:Phi} {t:Tree} {code:List Int}
set_option maxHeartbeats 2000000 in
theorem dm(h0:Φ 0=mp)(h1:Φ 1=gF)(h2:Φ 2=mq)(h3:Φ 3=cW)(h4:Φ 4=dU)
  (hl:code.length<=1099511627776) (hc:fk code)
  (ht:∀(d:Desk) (x:Word),DkOk d->aj (den Φ t (iZ code d x (dhear d x)))=some [.bool true]) :
  aj (den Φ (vu t) [.list (code.map eB)])=some [.bool true]:=by
 obtain⟨d,x,hd,hs⟩:=mU hl hc
 have hs':DkS ⟨d.up,⟨d.lg.rs,d.lg.f⟩,d.td⟩:=hs
 have p1:=dD hs' (k:=x.k) (h:=x.h) (t:=x.t) (m:=x.m)
 have p2:=yp hs' (k:=x.k) (h:=x.h) (t:=x.t) (m:=x.m)
 have hok:=cM hs'
 simp only[eE,eG,nG]at p1 p2 hok
 obtain⟨y,hy⟩:∃ y,y=(if aU d then dhear d x else dz):=⟨_,rfl⟩
 rw[<-hy]at p1 p2
 have hyS:DkS y:=by
  rw[hy];split
  ·rename_i h;exact((deskOk_iff.1 h).hear x).1.S
  ·exact dz_S
 have hn:=kh hyS
 simp only[Desk.e,Word.e,List.cons_append,List.nil_append]at p1 p2 hn hd
 unfold vu
 refine sl rfl ?_
 by_cases hbig:(((code.map eB).length:Nat):Int)>1048576
 ·exact sl (congrArg C.bool (decide_eq_true hbig)) (st rfl (dR rfl))
 refine sl (congrArg C.bool (decide_eq_false hbig)) (sf rfl (sc h0 hd rfl rfl (sc h1 p1 rfl rfl (sc h2 p2 rfl rfl (sc h3 hn rfl rfl (sl rfl (sf rfl ?_)))))))
 cases hwo:aU d with
 | false =>
  rw[hwo]at hok
  exact sc h4 hok rfl rfl (sl rfl (st rfl (sc h2 p2 rfl rfl (sc h3 hn rfl rfl (dR rfl)))))
 | true =>
  rw[hwo]at hok
  rw[hwo,if_pos rfl]at hy
  have:=ht d x (deskOk_iff.1 hwo)
  rw[<-hy]at this
  exact sc h4 hok rfl rfl (sl rfl (sf rfl this))
end
end Dx
namespace Dx
open Go
theorem t6{td:List Word}(hL:td.length<=1099511627775){k h t m:Int} :
  mr [.list (td.map Word.e),.int .i64 k,.int .i64 h,.int .i64 t,.int .i64 m]=some [.bool (td.contains ⟨k,h,t,m⟩)]:=by
 rw[q_fr];unfold F_fr
 have key:=aC (l:=td) (F:=fun ps=>tT (td.map Word.e) k h t m ((aa ps 0).toInt)) (enc:=fun i (_:Unit)=>[.int .i64 i])
  (res:=fun xs _ _=>.ret [.bool (xs.contains ⟨k,h,t,m⟩)]) (fun _ _=>True) (s:=()) trivial ?_ ?_
 ·have key:aI _ [C.int .i64 0]=_:=key
  rw[key];rfl
 ·intro i x xs s hx _
  have hi:=(List.getElem?_eq_some_iff.1 hx).1
  have hi':(i:Int)<(td.length:Nat):=by omega
  have hw:=kF x ⟨k,h,t,m⟩
  simp only at hw
  simp (disch:=first|assumption|omega|(simp only[zL];omega)) only[tT,gJ hx,Word.e,au,hi',if_true,hw,Int.reduceEq,reduceIte,zU,zT,aa]
  by_cases e:x=⟨k,h,t,m⟩
  ·exact .inr ⟨_,by rw[if_pos e],by simp[e]⟩
  ·exact .inl ⟨(),by rw[if_neg e],trivial,by simp[Ne.symm e]⟩
 ·intro s _
  have h:¬ ((td.length:Int)<(td.length:Nat)):=by omega
  simp only[tT,h,if_false,Int.reduceEq,reduceIte,zU,zT,aa]
  rfl
theorem Ip{td:List Word}(hL:td.length<=1099511627775){t k:Int}{m:List Int}(hm:m.length<=1000) :
  qR [.list (td.map Word.e),.int .i64 t,.list (m.map eI),.int .i64 k]=some [.bool (al td t k 1 m)]:=by
 rw[q_gj];unfold F_gj
 have key:=aC (l:=m) (F:=fun ps=>tU (td.map Word.e) t (m.map eI) k ((aa ps 0).toInt)) (enc:=fun i (_:Unit)=>[.int .i64 i])
  (res:=fun xs i _=>.ret [.bool (al td t k ((i+1:Nat):Int) xs)]) (fun _ _=>True) (s:=()) trivial ?_ ?_
 ·have key:aI _ [C.int .i64 0]=_:=key
  rw[key];rfl
 ·intro i x xs s hx _
  have hi:=(List.getElem?_eq_some_iff.1 hx).1
  have hi':(i:Int)<(m.length:Nat):=by omega
  simp (disch:=first|assumption|omega|(simp only[zL];omega)) only[tU,fC hx,eI,au,hi',if_true,t6,Int.reduceEq,reduceIte,zU,zT,aa]
  have e1:((i+1:Nat):Int)+1=((i+1+1:Nat):Int):=by omega
  by_cases hx0:x>0
  ·simp only[hx0,if_true]
   cases hc:td.contains ⟨k,((i+1:Nat):Int),t,0⟩with
   | true=>exact .inl ⟨(),rfl,trivial,by simp only[al,hx0,hc,e1,Bool.or_true,Bool.true_and]⟩
   | false=>exact .inr ⟨_,rfl,by simp only[al,hx0,hc,decide_true,Bool.not_true,Bool.or_self,Bool.false_and]⟩
  ·simp only[hx0,if_false]
   exact .inl ⟨(),by first|rfl|trivial,trivial,by simp only[al,hx0,e1,decide_false,Bool.not_false,Bool.true_or,Bool.true_and]⟩
 ·intro s _
  have h:¬ ((m.length:Int)<(m.length:Nat)):=by omega
  simp only[tU,h,if_false,Int.reduceEq,reduceIte,zU,zT,aa]
  rfl
theorem sJ{a b:List Trip}(ha:a.length<=1099511627776)(hm:∀ t∈a,t.m.length<=1099511627776):qP [.list (a.map Trip.e),.list (b.map Trip.e)]=some [.bool (decide (a=b))]:=by
 rw[q_fi];unfold F_fi
 simp only[List.length_map]
 by_cases hl:a.length=b.length
 ·have e:(((a.length:Nat):Int) != ((b.length:Nat):Int))=false:=by simp[hl]
  simp only[e,aH]
  rw[pL hl]
  ·rfl
  ·intro i x y hx hy
   have hi:=(List.getElem?_eq_some_iff.1 hx).1
   have hi':(i:Int)<(a.length:Nat):=by omega
   have hxm:=hm x (List.mem_of_getElem? hx)
   simp (disch:=first|assumption|omega|(simp only[zL];omega)) only[zy,cX hx,cX hy,Trip.e,tZ hxm,au,hi',if_true,Int.reduceEq,reduceIte,zU,zT,aa]
   obtain⟨m,s⟩:=x
   obtain⟨m',s'⟩:=y
   by_cases e1:s=s'<;>by_cases e2:m=m'<;>simp[e1,e2]
  ·have h:¬ ((a.length:Int)<(a.length:Nat)):=by omega
   simp (disch:=first|assumption|omega|(simp only[zL];omega)) only[zy,h,if_false,Int.reduceEq,reduceIte,zU,zT,aa]
 ·have e:(((a.length:Nat):Int) != ((b.length:Nat):Int))=true:=by simp;omega
  have:a≠b:=fun h=>hl (by rw[h])
  simp[e,this]
section
variable {Φ:Phi} {ks:List CK} {t:Tree} {env r:List C} {X:Option (List C)} {a i:At} {l:List (List C)} {j:Int}
theorem sr(hl:a.den env=.list l)(hi:i.den env=.int .i64 j)(h:∀ f:List C->Option Out,aE (.list l) (.int .i64 j) ks f=f r)(g:aj (den Φ t (env++r))=X):aj (den Φ (.row a i ks t) env)=X:=by
 rw[fT,hl,hi,h];exact g
end
section
variable {Φ:Phi} {f:Nat} {xs:List Cell} {ks:List CK} {t e:Tree} {env r cs:List C} {F:List C->Option (List C)} {Y:Option Out} {a i:At} {p:Prim} {v:C} {l:List (List C)} {j:Int} {o:Out}
theorem yt(h:(a.den env).toBool=true)(g:den Φ t env=Y):den Φ (.ite a t e) env=Y:=by rw[ec,h];exact g
theorem yf(h:(a.den env).toBool=false)(g:den Φ e env=Y):den Φ (.ite a t e) env=Y:=by rw[ec,h];exact g
theorem yr(hl:a.den env=.list l)(hi:i.den env=.int .i64 j)(h:∀ f:List C->Option Out,aE (.list l) (.int .i64 j) ks f=f r)(g:den Φ t (env++r)=Y):den Φ (.row a i ks t) env=Y:=by
 rw[fT,hl,hi,h];exact g
theorem yu(g:den Φ t env=some o):den Φ (.up t) env=some (.up o):=by rw[kg,g];rfl
theorem yret(h:aK env xs=cs):den Φ (.ret xs) env=some (.ret cs):=by rw[fS,h]
end
theorem Dw{l:List Trip}{i:Int}{x:Trip}(h0:0<=i)(h:l[i.toNat]?=some x){kk:IntKind}{f:List C->Option Out}:aE (.list (l.map Trip.e)) (.int kk i) [.list,.int .i64] f=f x.e:=db h0 h rfl
theorem vv{F:List C->Option Out}{I:Nat->List C->Prop}{o:Out}{ps:List C}(h:∀ n ps,I n ps->(∃ ps' n',n'<n/\F ps=some (.jump ps')/\I n' ps')\/F ps=some (.up o))(n:Nat)(h0:I n ps):aI F ps=some o:=by
 obtain⟨o',h1,rfl⟩:=sE (F:=F) (I:=I) (Q:=fun o'=>o'=o) (fun n ps hI=>(h n ps hI).imp id fun e=>⟨o,e,rfl⟩) n ps h0
 exact h1
theorem lr{F:List C->Option Out}{I:Nat->List C->Prop}{o:Out}{ps:List C}{X:Option (List C)}(n:Nat)(h0:I n ps)(h:∀ n ps,I n ps->(∃ ps' n',n'<n/\F ps=some (.jump ps')/\I n' ps')\/F ps=some (.up o))(hX:aj (some o)=X):aj (aI F ps)=X:=by
 rw[vv h n h0];exact hX
section
variable {code:List Int}
theorem lu(hl:code.length<=1099511627776)(hc:fk code):∃(d:Desk) (m:List Int) (y:Desk) (b:Bool),kx [.list (code.map eB)]=some (d.e++[.list (m.map eI)])/\DkS d/\m.length<=3/\DkS y ∧
  kA [.bool d.up,.list (d.lg.rs.map Rec.e),.int .i64 d.lg.f,.list (d.td.map Word.e),.list (m.map eI)]=some (y.e++[.bool b]) ∧
  hU [.bool d.up,.list (d.lg.rs.map Rec.e),.int .i64 d.lg.f,.list (d.td.map Word.e),.list (m.map eI)]=some (y.e++[.bool b]) ∧
  (b=true->DkOk d/\DkOk y/\bV m=true/\(af d false).length<=5/\y=aQ d (aV d m)/\d.up=true/\bW (af d false) (aV d m)=true/\aA (aV d m)=true):=by
 obtain⟨d,m,hd,hs,hm⟩:=my hl hc
 have hs':DkS ⟨d.up,⟨d.lg.rs,d.lg.f⟩,d.td⟩:=hs
 have p1:=iy hs' (ms:=m) (by omega)
 have p2:=uU hs' (ms:=m) (by omega)
 simp only[eE,eG]at p1 p2
 refine⟨d,m,if aU d && aA (aV d m) then aQ d (aV d m) else dz,if aU d && aA (aV d m) then cA d (aV d m) else false,hd,hs,hm,?_,?_,?_,?_⟩
 ·split
  ·rename_i h
   simp only[Bool.and_eq_true]at h
   exact((deskOk_iff.1 h.1).write h.2).1.S
  ·exact dz_S
 ·rw[p2];split<;>rfl
 ·rw[p1];split<;>rfl
 ·intro h
  split at h
  case isFalse=>cases h
  rename_i h1
  rw[if_pos h1]
  simp only[Bool.and_eq_true]at h1
  have ok:=deskOk_iff.1 h1.1
  simp only[cA,Bool.and_eq_true]at h
  have ht:=(cd h1.2).2
  have hmo:bV m=true:=by
   have:=h1.2
   simp only[aA,aV,Bool.and_eq_true]at this
   simpa using this.2
  exact⟨ok,(ok.write h1.2).1,hmo,by unfold aV at ht;simp only at ht;omega,rfl,h.1,h.2.1,h1.2⟩
end
end Dx
namespace Dx
open Go
section
variable {Φ:Phi} {ks:List CK} {t b:Tree} {env cs:List C} {Y:Option Out}
theorem yn(h:den Φ b env=some (.jump cs))(hk:ak ks cs=true)(g:den Φ t (env++cs)=Y):den Φ (.join ks b t) env=Y:=by
 rw[fx,h];simp only[bc,gU hk];exact g
end
theorem pP{l:List Trip}{i:Nat}{x:Trip}(h:l[i]?=some x):tAt l ((i+1:Nat):Int)=x:=by
 unfold tAt
 rw[show (((i+1:Nat):Int)-1).toNat=i by omega,h];rfl
end Dx
