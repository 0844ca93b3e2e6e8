import Derived.Test.YtkpnlbinfagpcaaGreatZa
set_option linter.all false
namespace Dx
open Go
structure WS (w:Wd):Prop where
 dk:DkS w.dk
 hs:∀ x∈w.hs,LgS x.lg
 hl:w.hs.length<=2000000
 nl:w.ns.length<=2000000
theorem WOk.ws{w:Wd}(h:WOk w):WS w:=⟨h.dk.S,fun x hx=>by
 obtain⟨i,hi⟩:=List.getElem?_of_mem hx
 exact(h.hs i x hi).1.lg.S,by have:=h.len;omega,by have:=h.nlen;omega⟩
section
variable {up b:Bool} {rs:List Rec} {f:Int} {td:List Word} {k h t m:Int} {id room:Int} {hs:List House} {ns:List Word} {w:Wd}
theorem z9(hl:LgS ⟨rs,f⟩):pq [.list (rs.map Rec.e),.int .i64 f]=some [.bool (fB ⟨rs,f⟩)]:=by
 rw[q_gy]
 have h1:=hl.1
 simp only at h1
 unfold F_gy
 refine Eq.trans (congrArg ah (ak (l:=rs) (enc:=fun i (_:Unit)=>[.int .i64 i]) (res:=fun xs _ _=>.ret [.bool (xs.all aD && (decide (rs.length<=40) && in_ f 0 rs.length))]) (fun _ _=>True) (s:=()) trivial ?_ ?_)) rfl
 ·intro i x xs _ hx _
  have hi:=(List.getElem?_eq_some_iff.1 hx).1
  have hi':(i:Int)<(rs.length:Nat):=by omega
  have hm:x.m.length<=1099511627776:=hl.2 x (List.mem_of_getElem? hx)
  simp only[aa,C.toInt_int]
  unfold yB
  simp (disch:=first|assumption|omega|(simp only[zL];omega)) only[fE hx,Rec.e,hi',if_true,mC hm,ap,Int.reduceEq,reduceIte,zU,zT,aa]
  cases hr:aD x with
  | true=>exact .inl ⟨(),rfl,trivial,by simp[hr]⟩
  | false=>exact .inr ⟨_,rfl,by simp[hr]⟩
 ·intro _ _
  have h:¬ ((rs.length:Int)<(rs.length:Nat)):=by omega
  simp only[aa,C.toInt_int]
  unfold yB
  by_cases h40:((rs.length:Nat):Int)<=40
  ·have h40':rs.length<=40:=by omega
   simp (disch:=first|assumption|omega|(simp only[zL];omega)) only[h,if_false,h40,h40',if_true,bC,decide_true,Bool.true_and,List.all_nil,Int.reduceEq,reduceIte,zU,zT,aa]
  ·have h40':¬ (rs.length<=40):=by omega
   simp (disch:=first|assumption|omega|(simp only[zL];omega)) only[h,if_false,h40,h40',decide_false,Bool.false_and,Bool.and_false,Int.reduceEq,reduceIte,zU,zT,aa]
theorem CO(hs:DkS ⟨up,⟨rs,f⟩,td⟩):vG [.bool up,.list (rs.map Rec.e),.int .i64 f,.list (td.map Word.e)]=some [.bool (du ⟨up,⟨rs,f⟩,td⟩)]:=by
 rw[q_gi]
 have hS:LgS ⟨rs,f⟩:=hs.lg
 have htd:td.length<=2000000:=by have:=hs.td;simp only at this;omega
 have h12:=zW (rs:=rs) hS.1 hS.2
 unfold du
 simp only
 simp (disch:=first|assumption|omega|(simp only[zL];omega)) only[F_gi,h12,z9 hS,Int.reduceEq,reduceIte,zU,zT,aa]
 cases hlo:fB ⟨rs,f⟩with
 | false=>simp only[aF,Bool.false_and,aG]
 | true =>
  simp only[aI,Bool.true_and]
  cases htr:aS rs with
  | none=>simp only[Option.isSome_none,aF,aG]
  | some l =>
   simp only[Option.isSome_some,aI,Option.getD_some]
   have hl6:l.length<=6:=(iR htr).len
   refine Eq.trans (congrArg ah (ak (l:=td) (enc:=fun i (_:Unit)=>[.int .i64 i]) (res:=fun xs i _=>.ret [.bool (di l.length (td.take i) xs && (up || td.isEmpty))]) (fun _ _=>True) (s:=()) trivial ?_ ?_)) rfl
   ·intro i x xs _ hx _
    have hi:=(List.getElem?_eq_some_iff.1 hx).1
    have hi':(i:Int)<(td.length:Nat):=by omega
    have hil:(i:Int)<=(td.length:Nat):=by omega
    have hi0:(0:Int)<=(i:Int):=by omega
    have htk:(td.map Word.e).take ((i:Int).toNat)=(td.take i).map Word.e:=by rw[Int.toNat_natCast,List.map_take]
    have htn:td.take (i+1)=td.take i++[x]:=by rw[List.take_add_one,hx];rfl
    have hl1:(td.take i).length<=1099511627775:=by rw[List.length_take];omega
    simp only[aa,C.toInt_int]
    unfold yC
    simp (disch:=first|assumption|omega|(simp only[zL];omega)) only[gG hx,Word.e,hi',if_true,jJ,hi0,hil,decide_true,Bool.and_self,htk,fH hl1,ap,Int.reduceEq,reduceIte,zU,zT,aa]
    cases hw:bj x with
    | false =>
     refine .inr ⟨_,rfl,?_⟩
     simp[di,hw]
    | true =>
     simp only[aI]
     by_cases h4:x.k<4
     ·refine .inr ⟨_,by simp only[h4,if_true];rfl,?_⟩
      have:¬ (4<=x.k):=by omega
      simp[di,this]
     ·simp only[h4,if_false]
      by_cases htt:x.t>(l.length:Nat)
      ·refine .inr ⟨_,by simp only[htt,if_true];rfl,?_⟩
       have:¬ (x.t<=(l.length:Nat)):=by omega
       simp[di,this]
      ·simp only[htt,if_false]
       cases hc:(td.take i).contains x with
       | true =>
        refine .inr ⟨_,rfl,?_⟩
        simp only[di,hc,Bool.not_true,Bool.and_false,Bool.false_and]
       | false =>
        refine .inl ⟨(),rfl,trivial,?_⟩
        have g4:x.k>=4:=by omega
        have gt:x.t<=(l.length:Nat):=by omega
        simp only[di,hw,hc,g4,gt,decide_true,Bool.and_true,Bool.not_false,Bool.true_and,htn]
   ·intro _ _
    have h:¬ ((td.length:Int)<(td.length:Nat)):=by omega
    simp only[aa,C.toInt_int]
    unfold yC
    have he:(((td.length:Nat):Int)==0)=td.isEmpty:=by cases td<;>simp;omega
    simp (disch:=first|assumption|omega|(simp only[zL];omega)) only[h,if_false,he,di,Bool.true_and,Int.reduceEq,reduceIte,zU,zT,aa]
    cases up<;>rfl
theorem BB(hl:LgS ⟨rs,f⟩):vJ [.int .i64 id,.bool up,.int .i64 room,.list (rs.map Rec.e),.int .i64 f]=some [.bool (cD ⟨id,up,room,⟨rs,f⟩⟩)]:=by
 rw[q_et]
 have h2:=Dv (room:=room) (rs:=rs) hl.1 hl.2
 simp only[Stock.e,List.cons_append,List.nil_append]at h2
 unfold cD
 simp (disch:=first|assumption|omega|(simp only[zL];omega)) only[F_et,h2,bC,z9 hl,Int.reduceEq,reduceIte,zU,zT,aa]
 cases in_ id 1 3 with
 | false=>rfl
 | true=>cases fB ⟨rs,f⟩<;>rfl
theorem BC(hL:ns.length<=2000000):am (fun ps=>sn (ns.map Word.e) ((aa ps 0).toInt)) [.int .i64 0]=some (.ret [.bool (ns.all bj)]):=by
 refine ak (l:=ns) (enc:=fun i (_:Unit)=>[.int .i64 i]) (res:=fun xs _ _=>.ret [.bool (xs.all bj)]) (fun _ _=>True) (s:=()) trivial ?_ ?_
 ·intro i x xs _ hx _
  have hi:=(List.getElem?_eq_some_iff.1 hx).1
  have hi':(i:Int)<(ns.length:Nat):=by omega
  simp only[aa,C.toInt_int]
  unfold sn
  simp (disch:=first|assumption|omega|(simp only[zL];omega)) only[gG hx,Word.e,hi',if_true,jJ,ap,Int.reduceEq,reduceIte,zU,zT,aa]
  cases hr:bj x with
  | true=>exact .inl ⟨(),rfl,trivial,by simp[hr]⟩
  | false=>exact .inr ⟨_,rfl,by simp[hr]⟩
 ·intro _ _
  have h:¬ ((ns.length:Int)<(ns.length:Nat)):=by omega
  simp only[aa,C.toInt_int]
  unfold sn
  simp (disch:=first|assumption|omega|(simp only[zL];omega)) only[h,if_false,Int.reduceEq,reduceIte,zU,zT,aa]
  rfl
theorem qC(hw:WS w):pv [.bool w.dk.up,.list (w.dk.lg.rs.map Rec.e),.int .i64 w.dk.lg.f,.list (w.dk.td.map Word.e),.list (w.hs.map House.e),.list (w.ns.map Word.e)]=some [.bool (bV w)]:=by
 rw[q_ex]
 obtain⟨⟨up,⟨rs,f⟩,td⟩,hs,ns⟩:=w
 have hd:DkS ⟨up,⟨rs,f⟩,td⟩:=hw.dk
 have hhs:=hw.hs
 have hhl:=hw.hl
 have hnl:=hw.nl
 simp only at hhs hhl hnl
 unfold bV
 simp only
 simp (disch:=first|assumption|omega|(simp only[zL];omega)) only[F_ex,CO hd,Int.reduceEq,reduceIte,zU,zT,aa]
 cases du ⟨up,⟨rs,f⟩,td⟩with
 | false=>rfl
 | true =>
  simp only[aI,Bool.true_and]
  by_cases h3:((hs.length:Nat):Int)=3
  ·have h3':hs.length=3:=by omega
   have h3b:(hs.length==3)=true:=by simp[h3']
   simp only[h3,if_true,h3b,Bool.true_and]
   by_cases h14:((ns.length:Nat):Int)>14
   ·have h14':¬ (ns.length<=14):=by omega
    simp[h14,h14']
   ·have h14':ns.length<=14:=by omega
    simp only[h14,h14',if_false,decide_true,Bool.true_and]
    refine Eq.trans (congrArg ah (ak (l:=hs) (enc:=fun i (_:Unit)=>[.int .i64 i]) (res:=fun xs i _=>.ret [.bool (xs.all cD && ((xs.zipIdx (i+1)).all (fun p=>p.1.id==(p.2:Int)) && ns.all bj))]) (fun _ _=>True) (s:=()) trivial ?_ ?_)) rfl
    ·intro i x xs _ hx _
     have hi:=(List.getElem?_eq_some_iff.1 hx).1
     have hi':(i:Int)<((3:Nat):Int):=by omega
     have hxl:LgS ⟨x.lg.rs,x.lg.f⟩:=hhs x (List.mem_of_getElem? hx)
     simp only[aa,C.toInt_int]
     unfold yD
     simp (disch:=first|assumption|omega|(simp only[zL];omega)) only[dU hx,House.e,h3',h3,hi',if_true,BB hxl,ap,Int.reduceEq,reduceIte,zU,zT,aa]
     cases hr:cD x with
     | false=>exact .inr ⟨_,rfl,by simp[hr]⟩
     | true =>
      simp only[aI]
      by_cases hid:x.id=((i+1:Nat):Int)
      ·refine .inl ⟨(),by simp only[hid,if_true],trivial,?_⟩
       have:(x.id==((i+1:Nat):Int))=true:=by simpa using hid
       simp only[List.all_cons,hr,Bool.true_and,List.zipIdx_cons,this]
      ·refine .inr ⟨_,by simp only[hid,if_false];rfl,?_⟩
       have:(x.id==((i+1:Nat):Int))=false:=by simpa using hid
       simp only[List.all_cons,hr,Bool.true_and,List.zipIdx_cons,this,Bool.false_and,Bool.and_false]
    ·intro _ _
     have h:¬ ((hs.length:Int)<(hs.length:Nat)):=by omega
     simp only[aa,C.toInt_int]
     unfold yD
     simp (disch:=first|assumption|omega|(simp only[zL];omega)) only[h,if_false,BC hnl,Int.reduceEq,reduceIte,zU,zT,aa]
     simp
  ·have h3b:(hs.length==3)=false:=by simp;omega
   simp only[h3,if_false,aF,aI,h3b,Bool.false_and,aG]
end
end Dx
namespace Dx
open Go
section
variable {up b:Bool} {rs:List Rec} {f:Int} {td:List Word} {k h t m:Int} {id room:Int} {hs:List House} {ns:List Word} {w:Wd}
theorem iW(hw:WS w):mg [.bool w.dk.up,.list (w.dk.lg.rs.map Rec.e),.int .i64 w.dk.lg.f,.list (w.dk.td.map Word.e),.list (w.hs.map House.e),.list (w.ns.map Word.e)]=some [.bool (bV w)]:=by
 rw[q_ei]
 obtain⟨⟨up,⟨rs,f⟩,td⟩,hs,ns⟩:=w
 have hd:DkS ⟨up,⟨rs,f⟩,td⟩:=hw.dk
 have hhs:=hw.hs
 have hhl:=hw.hl
 have hnl:=hw.nl
 simp only at hhs hhl hnl
 unfold bV
 simp only
 simp (disch:=first|assumption|omega|(simp only[zL];omega)) only[F_ei,dp hd,Int.reduceEq,reduceIte,zU,zT,aa]
 cases du ⟨up,⟨rs,f⟩,td⟩with
 | false=>rfl
 | true =>
  simp only[aI,Bool.true_and]
  by_cases h3:((hs.length:Nat):Int)=3
  ·have h3':hs.length=3:=by omega
   have h3b:(hs.length==3)=true:=by simp[h3']
   simp only[h3,if_true,h3b,Bool.true_and]
   by_cases h14:((ns.length:Nat):Int)>14
   ·have h14':¬ (ns.length<=14):=by omega
    simp[h14,h14']
   ·have h14':ns.length<=14:=by omega
    simp only[h14,h14',if_false,decide_true,Bool.true_and]
    have key:=ak (l:=hs) (F:=fun ps=>lK (hs.map House.e) (ns.map Word.e) 3 ((aa ps 0).toInt)) (enc:=fun i (_:Unit)=>[.int .i64 i]) (res:=fun xs i _=>.ret [.bool (xs.all cD && ((xs.zipIdx (i+1)).all (fun p=>p.1.id==(p.2:Int)) && ns.all bj))]) (fun _ _=>True) (s:=()) trivial ?_ ?_
    ·refine Eq.trans (congrArg ah key) rfl
    ·intro i x xs _ hx _
     have hi:=(List.getElem?_eq_some_iff.1 hx).1
     have hi':(i:Int)<3:=by omega
     have hxl:LgS ⟨x.lg.rs,x.lg.f⟩:=hhs x (List.mem_of_getElem? hx)
     simp only[aa,C.toInt_int]
     unfold lK
     simp (disch:=first|assumption|omega|(simp only[zL];omega)) only[dU hx,House.e,hi',if_true,ei hxl,ap,Int.reduceEq,reduceIte,zU,zT,aa]
     cases hr:cD x with
     | false=>exact .inr ⟨_,rfl,by simp[hr]⟩
     | true =>
      simp only[aI]
      by_cases hid:x.id=((i+1:Nat):Int)
      ·refine .inl ⟨(),by simp only[hid,if_true],trivial,?_⟩
       have:(x.id==((i+1:Nat):Int))=true:=by simpa using hid
       simp only[List.all_cons,hr,Bool.true_and,List.zipIdx_cons,this]
      ·refine .inr ⟨_,by simp only[hid,if_false];rfl,?_⟩
       have:(x.id==((i+1:Nat):Int))=false:=by simpa using hid
       simp only[List.all_cons,hr,Bool.true_and,List.zipIdx_cons,this,Bool.false_and,Bool.and_false]
    ·intro _ _
     have h:¬ ((3:Int)<3):=by omega
     have hall:(!(ns.any fun x=>!bj x))=ns.all bj:=by simp[List.all_eq_not_any_not]
     simp only[aa,C.toInt_int]
     unfold lK
     simp (disch:=first|assumption|omega|(simp only[zL];omega)) only[h3,h,if_false,qy,Int.reduceEq,reduceIte,zU,zT,aa]
     rw[<-hall];simp
  ·have h3b:(hs.length==3)=false:=by simp;omega
   simp only[h3,if_false,aF,aI,h3b,Bool.false_and,aG]
theorem xU(hw:WS w){e:Ev}(he:EvS e) :
  sO [.bool w.dk.up,.list (w.dk.lg.rs.map Rec.e),.int .i64 w.dk.lg.f,.list (w.dk.td.map Word.e),.list (w.hs.map House.e),.list (w.ns.map Word.e),.int .i64 e.k,.int .i64 e.a,.int .i64 e.b,.list (e.m.map eI)]=some (if bV w then wdo w e else wd0).e:=by
 cases hok:bV w with
 | true=>rw[if_pos rfl];exact BA (worldOk_iff.1 hok) (by unfold EvS at he;omega)
 | false =>
  rw[q_ep]
  unfold F_ep
  rw[iW hw,hok]
  rfl
theorem rf(hw:WS w){r:Int} :
  sY [.bool w.dk.up,.list (w.dk.lg.rs.map Rec.e),.int .i64 w.dk.lg.f,.list (w.dk.td.map Word.e),.list (w.hs.map House.e),.list (w.ns.map Word.e),.int .i64 r]=some (if bV w && in_ r 0 9 then iP w r.toNat else wd0).e:=by
 cases hok:bV w with
 | true =>
  cases hr:in_ r 0 9 with
  | true=>exact ud (worldOk_iff.1 hok) (in_iff.1 hr)
  | false =>
   rw[q_ck]
   unfold Je
   rw[iW hw,hok]
   simp only[ru,aa,C.toBool_bool,Bool.not_true,aF,jY,hr]
   rfl
 | false =>
  rw[q_ck]
  unfold Je
  rw[iW hw,hok]
  rfl
theorem ue{ms:List Int}(hm:ms.length<=1099511627776):vK [.int .i64 k,.int .i64 t,.list (ms.map eI)]=some [.int .i64 k,.int .i64 t,.list (ms.map eI)]:=by
 rw[q_cu]
 simp (disch:=first|assumption|omega|(simp only[zL];omega)) only[F_cu,Int.reduceEq,reduceIte,zU,zT,aa]
theorem uK(hl:LgS ⟨rs,f⟩):pw [.list (rs.map Rec.e),.int .i64 f]=some [.list (rs.map Rec.e),.int .i64 f]:=by
 rw[q_gu]
 have h1:=hl.1
 simp only at h1
 unfold F_gu
 refine Eq.trans (congrArg ah (ak (l:=rs) (enc:=fun i (s:List Rec)=>[.int .i64 i,.list (s.map Rec.e)]) (res:=fun xs _ s=>.ret [.list ((s++xs).map Rec.e),.int .i64 f]) (fun i s=>s.length=i) (s:=[]) rfl ?_ ?_)) rfl
 ·intro i x xs s hx hs
  have hi:=(List.getElem?_eq_some_iff.1 hx).1
  have hi':(i:Int)<(rs.length:Nat):=by omega
  have hm:x.m.length<=1099511627776:=hl.2 x (List.mem_of_getElem? hx)
  have hc:s.length+1<=1099511627776:=by omega
  simp only[aa,C.toInt_int,C.toList_list]
  unfold yE
  simp (disch:=first|assumption|omega|(simp only[zL];omega)) only[fE hx,Rec.e,hi',if_true,ue hm,hc,ap,Int.reduceEq,reduceIte,zU,zT,aa]
  refine .inl ⟨s++[x],?_,by simp[hs],by simp⟩
  simp[Rec.e]
 ·intro s _
  have h:¬ ((rs.length:Int)<(rs.length:Nat)):=by omega
  simp only[aa,C.toInt_int,C.toList_list]
  unfold yE
  simp (disch:=first|assumption|omega|(simp only[zL];omega)) only[h,if_false,Int.reduceEq,reduceIte,zU,zT,aa]
  simp
theorem BD(hl:LgS ⟨rs,f⟩):vN [.int .i64 id,.bool up,.int .i64 room,.list (rs.map Rec.e),.int .i64 f]=some [.int .i64 id,.bool up,.int .i64 room,.list (rs.map Rec.e),.int .i64 f]:=by
 rw[q_fm]
 simp (disch:=first|assumption|omega|(simp only[zL];omega)) only[F_fm,uK hl,Int.reduceEq,reduceIte,zU,zT,aa]
theorem BE(hd:DkS ⟨up,⟨rs,f⟩,td⟩):vM [.bool up,.list (rs.map Rec.e),.int .i64 f,.list (td.map Word.e)]=some [.bool up,.list (rs.map Rec.e),.int .i64 f,.list (td.map Word.e)]:=by
 rw[q_ft]
 have htd:td.length<=1099511627776:=by have:=hd.td;simp only at this;omega
 have hl:LgS ⟨rs,f⟩:=hd.lg
 simp (disch:=first|assumption|omega|(simp only[zL];omega)) only[F_ft,uK hl,htd,Int.reduceEq,reduceIte,zU,zT,aa]
theorem qD(hw:WS w):px [.bool w.dk.up,.list (w.dk.lg.rs.map Rec.e),.int .i64 w.dk.lg.f,.list (w.dk.td.map Word.e),.list (w.hs.map House.e),.list (w.ns.map Word.e)]=some w.e:=by
 rw[q_fv]
 have hd:DkS ⟨w.dk.up,⟨w.dk.lg.rs,w.dk.lg.f⟩,w.dk.td⟩:=hw.dk
 have hnl:=hw.nl
 have hhl:=hw.hl
 simp (disch:=first|assumption|omega|(simp only[zL];omega)) only[F_fv,BE hd,Dm,Int.reduceEq,reduceIte,zU,zT,aa]
 have key:=ak (l:=w.hs) (F:=fun ps=>sq (w.hs.map House.e) w.dk.up w.dk.lg.f (w.dk.lg.rs.map Rec.e) (w.dk.td.map Word.e) (w.ns.map Word.e) ((aa ps 0).toInt) ((aa ps 1).toList)) (enc:=fun i (s:List House)=>[.int .i64 i,.list (s.map House.e)])
  (res:=fun xs _ s=>.ret [.bool w.dk.up,.list (w.dk.lg.rs.map Rec.e),.int .i64 w.dk.lg.f,.list (w.dk.td.map Word.e),.list ((s++xs).map House.e),.list (w.ns.map Word.e)]) (fun i s=>s.length=i) (s:=[]) rfl ?_ ?_
 ·have key:am _ [C.int .i64 0,C.list []]=_:=key
  rw[key];rfl
 ·intro i x xs s hx hs
  have hi:=(List.getElem?_eq_some_iff.1 hx).1
  have hi':(i:Int)<(w.hs.length:Nat):=by omega
  have hxl:LgS ⟨x.lg.rs,x.lg.f⟩:=hw.hs x (List.mem_of_getElem? hx)
  have hc:s.length+1<=1099511627776:=by omega
  simp (disch:=first|assumption|omega|(simp only[zL];omega)) only[sq,dU hx,House.e,BD hxl,ap,hi',hc,if_true,Int.reduceEq,reduceIte,zU,zT,aa]
  exact .inl ⟨s++[x],by simp[House.e],by simp[hs],by simp⟩
 ·intro s hs
  have h:¬ ((w.hs.length:Int)<(w.hs.length:Nat)):=by omega
  simp (disch:=first|assumption|omega|(simp only[zL];omega)) only[sq,h,if_false,Int.reduceEq,reduceIte,zU,zT,aa]
  simp
theorem xV(hw:WS w){e:Ev}(he:EvS e) :
  vU [.bool w.dk.up,.list (w.dk.lg.rs.map Rec.e),.int .i64 w.dk.lg.f,.list (w.dk.td.map Word.e),.list (w.hs.map House.e),.list (w.ns.map Word.e),.int .i64 e.k,.int .i64 e.a,.int .i64 e.b,.list (e.m.map eI)]=some (if bV w then wdo w e else wd0).e:=by
 rw[q_fc]
 unfold F_fc
 rw[qC hw]
 cases hok:bV w with
 | false=>rfl
 | true =>
  simp only[ru,aa,C.toBool_bool,Bool.not_true,aF,if_true]
  rw[qD hw]
  simp only[Wd.e,bE,aa,C.toInt_int,C.toList_list,C.toBool_bool]
  rw[uF (worldOk_iff.1 hok) he]
  simp only[Wd.e,bE,aa,C.toInt_int,C.toList_list,C.toBool_bool]
  rfl
end
end Dx
namespace Dx
open Go
section
variable {w:Wd}
theorem BF(ho:WOk w) :
  w9 [.bool w.dk.up,.list (w.dk.lg.rs.map Rec.e),.int .i64 w.dk.lg.f,.list (w.dk.td.map Word.e),.list (w.hs.map House.e),.list (w.ns.map Word.e)]=some (cZ w).e:=by
 rw[q_fj]
 unfold F_fj
 have L0:∀ w:Wd,WOk w->am (fun ps=>sU ((aa ps 0).toInt) ((aa ps 1).toBool) ((aa ps 2).toInt) ((aa ps 3).toList) ((aa ps 4).toList) ((aa ps 5).toList) ((aa ps 6).toList))
   [.int .i64 0,.bool w.dk.up,.int .i64 w.dk.lg.f,.list (w.dk.lg.rs.map Rec.e),.list (w.dk.td.map Word.e),.list (w.hs.map House.e),.list (w.ns.map Word.e)]=some (.ret (aR w).e):=by
  intro w ow
  rw[<-qB ow]
  refine ak (l:=([0,1,2,3]:List Int)) (enc:=fun i (w:Wd)=>[.int .i64 i,.bool w.dk.up,.int .i64 w.dk.lg.f,.list (w.dk.lg.rs.map Rec.e),.list (w.dk.td.map Word.e),.list (w.hs.map House.e),.list (w.ns.map Word.e)]) (res:=fun xs _ w=>.ret (xs.foldl ct w).e) (fun _ w=>WOk w) (s:=w) ow ?_ ?_
  ·intro i x xs w hx ow
   have hi:(i:Int)<=3/\x=(i:Int):=by
    have:=(List.getElem?_eq_some_iff.1 hx).1
    simp at this
    have h4:i=0\/i=1\/i=2\/i=3:=by omega
    rcases h4 with e|e|e|e<;>subst e<;>simp at hx<;>subst hx<;>simp
   obtain⟨hi,rfl⟩:=hi
   have he:=mL (up:=w.dk.up) (rs:=w.dk.lg.rs) (f:=w.dk.lg.f) (td:=w.dk.td) (hs:=w.hs) (ns:=w.ns) ow.len (fun x hx=>by have:=(ow.ws.hs x hx).1;exact this) (i:=(i:Int)) ⟨by omega,hi⟩
   refine .inl ⟨ct w i,?_,ow.forceEv _,rfl⟩
   simp only[aa,C.toInt_int,C.toBool_bool,C.toList_list]
   unfold sU
   simp only[aK,hi,if_true,he]
   simp only[jG,jH,iu]
   simp only[Wd.e,bE,aa,C.toInt_int,C.toList_list,C.toBool_bool]
   rw[ap (by omega)]
  ·intro w ow
   have h:¬ (((4:Nat):Int)<=3):=by omega
   simp only[List.length_cons,List.length_nil,Wd.e,aa,C.toInt_int,C.toBool_bool,C.toList_list]
   unfold sU
   simp only[aK,h,if_false]
   rfl
 have L1:∀(l:List Word) (w:Wd),l.length<=1000->WOk w->(∀ x∈l,WdOk x)->am (fun ps=>sV (l.map Word.e) ((aa ps 0).toInt) ((aa ps 1).toBool) ((aa ps 2).toInt) ((aa ps 3).toList) ((aa ps 4).toList) ((aa ps 5).toList) ((aa ps 6).toList))
   [.int .i64 0,.bool w.dk.up,.int .i64 w.dk.lg.f,.list (w.dk.lg.rs.map Rec.e),.list (w.dk.td.map Word.e),.list (w.hs.map House.e),.list (w.ns.map Word.e)]=some (.ret (aR (cf w l)).e):=by
  intro l w hl ow hw
  refine ak (l:=l) (enc:=fun i (w:Wd)=>[.int .i64 i,.bool w.dk.up,.int .i64 w.dk.lg.f,.list (w.dk.lg.rs.map Rec.e),.list (w.dk.td.map Word.e),.list (w.hs.map House.e),.list (w.ns.map Word.e)]) (res:=fun xs _ w=>.ret (aR (cf w xs)).e) (fun _ w=>WOk w) (s:=w) ow ?_ ?_
  ·intro i x xs w hx ow
   have hi:=(List.getElem?_eq_some_iff.1 hx).1
   have hi':(i:Int)<(l.length:Nat):=by omega
   have hxo:=hw x (List.mem_of_getElem? hx)
   have htd:∀ {v:Wd},WOk v->v.dk.td.length<=1099511627774:=fun h=>by have:=h.dk.tdlen;omega
   have hhe:=kx (up:=w.dk.up) (rs:=w.dk.lg.rs) (f:=w.dk.lg.f) (td:=w.dk.td) (hs:=w.hs) (ns:=w.ns) (k:=x.k) (h:=x.h) (t:=x.t) (m:=x.m) ow (htd ow) hxo
   have o2:=ow.hear hxo
   refine .inl ⟨aX w x,?_,ow.hear2 hxo,rfl⟩
   simp only[aa,C.toInt_int,C.toBool_bool,C.toList_list]
   unfold sV
   have hd:(decide ((0:Int)<=(i:Int)) && decide ((i:Int)<(((l.map Word.e).length:Nat):Int)))=true:=by simp;omega
   rw[zf (by omega) (by simpa using hx)]
   simp only[List.length_map]at hd
   simp only[List.length_map,aK,hi',if_true,hd,dO,Word.e,aa,C.toInt_int,hhe]
   simp only[jG,jH,iu,te]
   unfold aX
   generalize ba w x=q at o2 ⊢
   obtain⟨q1,q2⟩:=q
   rw[ap (by omega)]
   cases q2 with
   | none =>
    simp only[oW,Word.e,Wd.e,List.cons_append,List.nil_append,Option.isSome_none]
    rw[bB rfl]
    rfl
   | some y =>
    have hq:WOk q1:=o2.1
    have hyo:=(o2.2 y rfl).1
    have h4:=(o2.2 y rfl).2
    have hy:=kx (up:=q1.dk.up) (rs:=q1.dk.lg.rs) (f:=q1.dk.lg.f) (td:=q1.dk.td) (hs:=q1.hs) (ns:=q1.ns) (k:=y.k) (h:=y.h) (t:=y.t) (m:=y.m) hq (htd hq) hyo
    simp only[oW,Word.e,Wd.e,List.cons_append,List.nil_append,Option.isSome_some,Option.getD_some]
    rw[bB rfl]
    simp only[aa,C.toBool_bool,C.toList_list,C.toInt_int,aI,hy]
    simp only[jG,jH,te,iu]
    generalize ba q1 y=r
    obtain⟨r1,r2⟩:=r
    simp only[Word.e,Wd.e,List.cons_append,List.nil_append]
    rw[bB rfl]
    rfl
  ·intro w ow
   have h:¬ ((l.length:Int)<(l.length:Nat)):=by omega
   simp only[aa,C.toInt_int,C.toBool_bool,C.toList_list]
   unfold sV
   simp only[List.length_map,aK,h,if_false]
   exact congrArg upD (L0 w ow)
 have or:=uw ho
 have hnl:=ho.nlen
 refine Eq.trans (congrArg ah (ak (l:=w.hs) (enc:=fun i (s:List House)=>[.int .i64 i,.list ((s++w.hs.drop i).map House.e)]) (res:=fun xs _ s=>.ret (aR (cf ⟨dK w.dk,s++xs.map eU,[]⟩ (w.ns++aW (dK w.dk)))).e) (fun i s=>s=(w.hs.take i).map eU) (s:=[]) (by simp) ?_ ?_)) ?_
 ·intro i x xs s hx hs
  have hi:=(List.getElem?_eq_some_iff.1 hx).1
  have hsl:s.length=i:=by rw[hs];simp;omega
  have hi':(i:Int)<((s++w.hs.drop i).length:Nat):=by rw[List.length_append,List.length_drop];omega
  have hxr:(s++w.hs.drop i)[i]?=some x:=by
   rw[List.getElem?_append_right (by omega),hsl,Nat.sub_self,List.getElem?_drop,Nat.add_zero];exact hx
  have hd:(decide ((0:Int)<=(i:Int)) && decide ((i:Int)<((s++w.hs.drop i).length:Nat)))=true:=by simp only[Bool.and_eq_true,decide_eq_true_eq];omega
  refine .inl ⟨s++[eU x],?_,?_,by simp⟩
  ·simp only[aa,C.toInt_int,C.toList_list]
   unfold y6
   rw[dU hxr]
   simp only[List.length_map,aK,hi',if_true,hd,dO,House.e,aa,C.toInt_int,C.toBool_bool,C.toList_list,BEq.rfl]
   have h3:=ho.len
   rw[ap (by omega)]
   have hset:((s++w.hs.drop i).map House.e).set (Int.toNat (i:Int)) [.int .i64 x.id,.bool true,.int .i64 x.room,.list (x.lg.rs.map Rec.e),.int .i64 x.lg.f]=((s++[eU x])++w.hs.drop (i+1)).map House.e:=by
    rw[show [C.int .i64 x.id,C.bool true,C.int .i64 x.room,C.list (x.lg.rs.map Rec.e),C.int .i64 x.lg.f]=(eU x).e from rfl,<-List.map_set,Int.toNat_natCast,List.set_append_right _ _ (by omega),hsl,Nat.sub_self,List.drop_eq_getElem_cons hi]
    simp only[List.set_cons_zero,List.map_append,List.map_cons,List.append_assoc,List.cons_append,List.nil_append,List.map_nil]
   rw[hset]
   simp
  ·rw[hs,List.take_add_one,hx];simp
 ·intro s hs
  have hs':s=w.hs.map eU:=by rw[hs,List.take_length]
  have h:¬ ((w.hs.length:Int)<(w.hs.length:Nat)):=by omega
  simp only[List.drop_length,List.append_nil,aa,C.toInt_int,C.toList_list]
  unfold y6
  have hsl:s.length=w.hs.length:=by rw[hs'];simp
  simp only[List.length_map,hsl,aK,h,if_false]
  have hdw:=gc or.dk
  have htd:=ho.dk.tdlen
  have hdr:DkOk ⟨true,⟨w.dk.lg.rs,w.dk.lg.f⟩,w.dk.td⟩:=ho.dk.rise
  have hwd:=mJ hdr (by omega)
  have hdd:(aW (dK w.dk)).length<=18:=hdw
  have e1:(⟨true,⟨w.dk.lg.rs,w.dk.lg.f⟩,w.dk.td⟩:Desk)=dK w.dk:=rfl
  rw[e1]at hwd
  have hc1:w.ns.length<=1099511627776:=by omega
  have hc2:w.ns.length+(aW (dK w.dk)).length<=1099511627776:=by omega
  simp (disch:=first|assumption|omega|(simp only[zL];omega)) only[hwd,hc1,hc2,Int.reduceEq,reduceIte,zU,zT,aa]
  rw[<-List.map_append]
  have o3:WOk ⟨dK w.dk,s,[]⟩:=by rw[hs'];exact⟨or.dk,or.len,or.hs,by simp,by simp⟩
  have:=L1 (w.ns++aW (dK w.dk)) ⟨dK w.dk,s,[]⟩ (by rw[List.length_append];omega) o3 (fun x hx=>by
   rcases List.mem_append.1 hx with h|h
   ·exact ho.ns x h
   ·exact(dx or.dk h).1)
  simp only[List.map_nil]at this
  have hle:w.ns.length+(aW (dK w.dk)).length<=1099511627776:=hc2
  simp only[decide_true,dO,List.map_nil,List.append_nil]
  exact congrArg upD this
 ·rfl
theorem rg(hw:WS w){r:Int} :
  xa [.bool w.dk.up,.list (w.dk.lg.rs.map Rec.e),.int .i64 w.dk.lg.f,.list (w.dk.td.map Word.e),.list (w.hs.map House.e),.list (w.ns.map Word.e),.int .i64 r]=some (if bV w && in_ r 0 9 then iP w r.toNat else wd0).e:=by
 rw[q_cn]
 unfold F_cn
 rw[qC hw]
 cases hok:bV w with
 | false=>rfl
 | true =>
  have ho:=worldOk_iff.1 hok
  simp only[ru,aa,C.toBool_bool,Bool.not_true,aF,bC]
  cases hr:in_ r 0 9 with
  | false=>rfl
  | true =>
   have hr:=in_iff.1 hr
   simp only[Bool.not_true,aF,Bool.and_self,if_true]
   rw[qD hw]
   obtain⟨n,rfl⟩:∃ n:Nat,r=n:=⟨r.toNat,by omega⟩
   simp only[Wd.e,bE,aa,C.toInt_int,C.toList_list,C.toBool_bool]
   refine Eq.trans (congrArg ah (ak (l:=List.replicate n ()) (enc:=fun i (w:Wd)=>[.int .i64 i,.bool w.dk.up,.int .i64 w.dk.lg.f,.list (w.dk.lg.rs.map Rec.e),.list (w.dk.td.map Word.e),.list (w.hs.map House.e),.list (w.ns.map Word.e)]) (res:=fun xs _ v=>.ret (iP v xs.length).e) (fun _ v=>WOk v) (s:=w) ho ?_ ?_)) ?_
   ·intro i x xs w hx ow
    have hi:=(List.getElem?_eq_some_iff.1 hx).1
    rw[List.length_replicate]at hi
    have hi':(i:Int)<(n:Nat):=by omega
    refine .inl ⟨cZ w,?_,ow.round,rfl⟩
    simp only[aa,C.toInt_int,C.toBool_bool,C.toList_list]
    unfold y7
    simp only[aK,hi',if_true,BF ow]
    simp only[Wd.e,bE,aa,C.toInt_int,C.toList_list,C.toBool_bool]
    rw[ap (by omega)]
   ·intro v ow
    have h:¬ ((n:Int)<(n:Nat)):=by omega
    simp only[List.length_replicate,Wd.e,aa,C.toInt_int,C.toBool_bool,C.toList_list]
    unfold y7
    simp only[aK,h,if_false]
    rfl
   ·rw[List.length_replicate];rfl
end
end Dx
namespace Dx
open Go
def lft(l:Int)(n:Nat):Int:=if(n:Int)<=l then l-n else -1
theorem eK(l:Int)(n m:Nat)(h0:0<=l):(if lft l n<0 then -1 else lft (lft l n) m)=lft l (n+m):=by
 unfold lft
 by_cases h:(n:Int)<=l
 ·rw[if_pos h,if_neg (by omega)]
  by_cases h2:(m:Int)<=l-n
  ·rw[if_pos h2,if_pos (by omega)];omega
  ·rw[if_neg h2,if_neg (by omega)]
 ·rw[if_neg h,if_pos (by omega),if_neg (by omega)]
def oM(l:List Rec):Nat:=(l.map fun r=>r.m.length).sum
def nRs(l:List Rec):Nat:=l.length+oM l
def nHs(l:List House):Nat:=l.length+(l.map fun h=>nRs h.lg.rs).sum
def nWd(w:Wd):Nat:=nRs w.dk.lg.rs+w.dk.td.length+nHs w.hs+w.ns.length
section
variable {l:Int}
theorem tg(h0:0<=l)(h1:l<=1048576){a:List Int}(ha:a.length<=2000000):pe [.list (a.map eI),.int .i64 l]=some [.int .i64 (lft l a.length)]:=by
 rw[q_gn]
 by_cases h:(a.length:Int)<=l
 ·have h':¬ (l-(a.length:Int)<0):=by omega
  simp (disch:=first|assumption|omega|(simp only[zL];omega)) only[F_gn,List.length_map,wrap64,h',if_false,lft,h,if_true,Int.reduceEq,reduceIte,zU,zT,aa]
 ·have h':l-(a.length:Int)<0:=by omega
  simp (disch:=first|assumption|omega|(simp only[zL];omega)) only[F_gn,List.length_map,wrap64,h',if_true,lft,h,if_false,Int.reduceEq,reduceIte,zU,zT,aa]
theorem Aa(h0:0<=l)(h1:l<=1048576){a:List Word}(ha:a.length<=2000000):pg [.list (a.map Word.e),.int .i64 l]=some [.int .i64 (lft l a.length)]:=by
 rw[q_fn]
 by_cases h:(a.length:Int)<=l
 ·have h':¬ (l-(a.length:Int)<0):=by omega
  simp (disch:=first|assumption|omega|(simp only[zL];omega)) only[F_fn,List.length_map,wrap64,h',if_false,lft,h,if_true,Int.reduceEq,reduceIte,zU,zT,aa]
 ·have h':l-(a.length:Int)<0:=by omega
  simp (disch:=first|assumption|omega|(simp only[zL];omega)) only[F_fn,List.length_map,wrap64,h',if_true,lft,h,if_false,Int.reduceEq,reduceIte,zU,zT,aa]
theorem iw{n:Nat}(h:lft l n<0):lft l n=-1:=by unfold lft at *;split at h<;>simp_all<;>omega
theorem zg{n:Nat}(h0:0<=l):lft l n<=l:=by unfold lft;split<;>omega
theorem z_Rec(h0:0<=l)(h1:l<=1048576){k t:Int}{a:List Int}(ha:a.length<=2000000):vq [.int .i64 k,.int .i64 t,.list (a.map eI),.int .i64 l]=some [.int .i64 (lft l a.length)]:=by
 rw[q_hk]
 by_cases h:lft l a.length<0
 ·simp (disch:=first|assumption|omega|(simp only[zL];omega)) only[F_hk,tg h0 h1 ha,h,if_true,Int.reduceEq,reduceIte,zU,zT,aa]
  rw[iw h]
 ·simp (disch:=first|assumption|omega|(simp only[zL];omega)) only[F_hk,tg h0 h1 ha,h,if_false,Int.reduceEq,reduceIte,zU,zT,aa]
theorem DD(h0:0<=l)(h1:l<=1048576){a:List Rec}(ha:a.length<=2000000)(hm:∀ r∈a,r.m.length<=2000000):vr [.list (a.map Rec.e),.int .i64 l]=some [.int .i64 (lft l (nRs a))]:=by
 rw[q_fx]
 by_cases h:l-(a.length:Int)<0
 ·simp (disch:=first|assumption|omega|(simp only[zL];omega)) only[F_fx,List.length_map,wrap64,h,if_true,Int.reduceEq,reduceIte,zU,zT,aa]
  unfold lft nRs;rw[if_neg (by omega)]
 have key:=ak (l:=a) (F:=fun ps=>om (a.map Rec.e) ((aa ps 0).toInt) ((aa ps 1).toInt)) (enc:=fun i (s:Int)=>[.int .i64 s,.int .i64 i])
  (res:=fun xs _ s=>.ret [.int .i64 (lft s (oM xs))]) (fun _ s=>0<=s/\s<=1048576) (s:=l-a.length) (by omega) ?_ ?_
 ·simp (disch:=first|assumption|omega|(simp only[zL];omega)) only[F_fx,List.length_map,wrap64,h,if_false,Int.reduceEq,reduceIte,zU,zT,aa]
  have key:am _ [C.int .i64 (l-(a.length:Int)),C.int .i64 0]=_:=key
  rw[key]
  have:=eK l a.length (oM a) h0
  unfold nRs
  rw[<-this]
  have e:lft l a.length=l-a.length:=by unfold lft;rw[if_pos (by omega)]
  rw[e,if_neg h];rfl
 ·intro i x xs s hx ⟨hs0,hs1⟩
  have hi:=(List.getElem?_eq_some_iff.1 hx).1
  have hi':(i:Int)<(a.length:Nat):=by omega
  have hz:=z_Rec (k:=x.k) (t:=x.t) hs0 hs1 (hm x (List.mem_of_getElem? hx))
  have hc:=eK s x.m.length (oM xs) hs0
  have hn:oM (x::xs)=x.m.length+oM xs:=by simp[oM]
  by_cases hneg:lft s x.m.length<0
  ·refine .inr ⟨.ret [.int .i64 (-1)],?_,?_⟩
   ·simp (disch:=first|assumption|omega|(simp only[zL];omega)) only[om,List.length_map,hi',if_true,fE hx,Rec.e,hz,hneg,Int.reduceEq,reduceIte,zU,zT,aa]
   ·rw[hn,<-hc,if_pos hneg]
  ·refine .inl ⟨lft s x.m.length,?_,⟨by omega,by have:=zg (n:=x.m.length) hs0;omega⟩,?_⟩
   ·simp (disch:=first|assumption|omega|(simp only[zL];omega)) only[om,List.length_map,hi',if_true,fE hx,Rec.e,hz,hneg,if_false,ap,Int.reduceEq,reduceIte,zU,zT,aa]
   ·rw[hn,<-hc,if_neg hneg]
 ·intro s ⟨hs0,hs1⟩
  have h:¬ ((a.length:Int)<(a.length:Nat)):=by omega
  simp (disch:=first|assumption|omega|(simp only[zL];omega)) only[om,List.length_map,h,if_false,Int.reduceEq,reduceIte,zU,zT,aa]
  unfold lft;rw[if_pos (by simp[oM];omega)];simp[oM]
end
end Dx
namespace Dx
open Go
section
variable {l:Int}
theorem xW{n:Nat}(h0:0<=l)(h1:l<=1048576)(h:¬ lft l n<0):0<=lft l n/\lft l n<=1048576:=⟨by omega,by have:=zg (n:=n) h0;omega⟩
theorem xX(h0:0<=l)(h1:l<=1048576){a:List Rec}{f:Int}(ha:a.length<=2000000)(hm:∀ r∈a,r.m.length<=2000000):pf [.list (a.map Rec.e),.int .i64 f,.int .i64 l]=some [.int .i64 (lft l (nRs a))]:=by
 rw[q_hh]
 by_cases h:lft l (nRs a)<0
 ·simp (disch:=first|assumption|omega|(simp only[zL];omega)) only[F_hh,DD h0 h1 ha hm,h,if_true,Int.reduceEq,reduceIte,zU,zT,aa]
  rw[iw h]
 ·simp (disch:=first|assumption|omega|(simp only[zL];omega)) only[F_hh,DD h0 h1 ha hm,h,if_false,Int.reduceEq,reduceIte,zU,zT,aa]
theorem th(h0:0<=l)(h1:l<=1048576){up:Bool}{a:List Rec}{f:Int}{td:List Word}(ha:a.length<=2000000)(hm:∀ r∈a,r.m.length<=2000000)(ht:td.length<=2000000) :
  vu [.bool up,.list (a.map Rec.e),.int .i64 f,.list (td.map Word.e),.int .i64 l]=some [.int .i64 (lft l (nRs a+td.length))]:=by
 rw[q_gm,<-eK l _ _ h0]
 by_cases h:lft l (nRs a)<0
 ·simp (disch:=first|assumption|omega|(simp only[zL];omega)) only[GC,xX h0 h1 ha hm,h,if_true,Int.reduceEq,reduceIte,zU,zT,aa]
 ·have hr:=xW h0 h1 h
  have hz:=Aa hr.1 hr.2 ht
  by_cases h2:lft (lft l (nRs a)) td.length<0
  ·simp (disch:=first|assumption|omega|(simp only[zL];omega)) only[GC,xX h0 h1 ha hm,h,if_false,hz,h2,if_true,Int.reduceEq,reduceIte,zU,zT,aa]
   rw[iw h2]
  ·simp (disch:=first|assumption|omega|(simp only[zL];omega)) only[GC,xX h0 h1 ha hm,h,if_false,hz,h2,Int.reduceEq,reduceIte,zU,zT,aa]
theorem FX(h0:0<=l)(h1:l<=1048576){id:Int}{up:Bool}{room:Int}{a:List Rec}{f:Int}(ha:a.length<=2000000)(hm:∀ r∈a,r.m.length<=2000000) :
  vv [.int .i64 id,.bool up,.int .i64 room,.list (a.map Rec.e),.int .i64 f,.int .i64 l]=some [.int .i64 (lft l (nRs a))]:=by
 rw[q_er]
 by_cases h:lft l (nRs a)<0
 ·simp (disch:=first|assumption|omega|(simp only[zL];omega)) only[F_er,xX h0 h1 ha hm,h,if_true,Int.reduceEq,reduceIte,zU,zT,aa]
  rw[iw h]
 ·simp (disch:=first|assumption|omega|(simp only[zL];omega)) only[F_er,xX h0 h1 ha hm,h,if_false,Int.reduceEq,reduceIte,zU,zT,aa]
def nHo(l:List House):Nat:=(l.map fun h=>nRs h.lg.rs).sum
theorem CP(h0:0<=l)(h1:l<=1048576){a:List House}(ha:a.length<=2000000)(hm:∀ x∈a,x.lg.rs.length<=2000000/\∀ r∈x.lg.rs,r.m.length<=2000000):vx [.list (a.map House.e),.int .i64 l]=some [.int .i64 (lft l (nHs a))]:=by
 rw[q_eb]
 by_cases h:l-(a.length:Int)<0
 ·simp (disch:=first|assumption|omega|(simp only[zL];omega)) only[F_eb,List.length_map,wrap64,h,if_true,Int.reduceEq,reduceIte,zU,zT,aa]
  unfold lft nHs;rw[if_neg (by omega)]
 have key:=ak (l:=a) (F:=fun ps=>oo (a.map House.e) ((aa ps 0).toInt) ((aa ps 1).toInt)) (enc:=fun i (s:Int)=>[.int .i64 s,.int .i64 i])
  (res:=fun xs _ s=>.ret [.int .i64 (lft s (nHo xs))]) (fun _ s=>0<=s/\s<=1048576) (s:=l-a.length) (by omega) ?_ ?_
 ·simp (disch:=first|assumption|omega|(simp only[zL];omega)) only[F_eb,List.length_map,wrap64,h,if_false,Int.reduceEq,reduceIte,zU,zT,aa]
  have key:am _ [C.int .i64 (l-(a.length:Int)),C.int .i64 0]=_:=key
  rw[key]
  have:=eK l a.length (nHo a) h0
  have e0:nHs a=a.length+nHo a:=rfl
  rw[e0,<-this]
  have e:lft l a.length=l-a.length:=by unfold lft;rw[if_pos (by omega)]
  rw[e,if_neg h];rfl
 ·intro i x xs s hx ⟨hs0,hs1⟩
  have hi:=(List.getElem?_eq_some_iff.1 hx).1
  have hi':(i:Int)<(a.length:Nat):=by omega
  have hxm:=hm x (List.mem_of_getElem? hx)
  have hz:=FX (id:=x.id) (up:=x.up) (room:=x.room) (f:=x.lg.f) hs0 hs1 hxm.1 hxm.2
  have hc:=eK s (nRs x.lg.rs) (nHo xs) hs0
  have hn:nHo (x::xs)=nRs x.lg.rs+nHo xs:=by simp[nHo]
  by_cases hneg:lft s (nRs x.lg.rs)<0
  ·refine .inr ⟨.ret [.int .i64 (-1)],?_,?_⟩
   ·simp (disch:=first|assumption|omega|(simp only[zL];omega)) only[oo,List.length_map,hi',if_true,dU hx,House.e,hz,hneg,Int.reduceEq,reduceIte,zU,zT,aa]
   ·rw[hn,<-hc,if_pos hneg]
  ·refine .inl ⟨lft s (nRs x.lg.rs),?_,xW hs0 hs1 hneg,?_⟩
   ·simp (disch:=first|assumption|omega|(simp only[zL];omega)) only[oo,List.length_map,hi',if_true,dU hx,House.e,hz,hneg,if_false,ap,Int.reduceEq,reduceIte,zU,zT,aa]
   ·rw[hn,<-hc,if_neg hneg]
 ·intro s ⟨hs0,hs1⟩
  have h:¬ ((a.length:Int)<(a.length:Nat)):=by omega
  simp (disch:=first|assumption|omega|(simp only[zL];omega)) only[oo,List.length_map,h,if_false,Int.reduceEq,reduceIte,zU,zT,aa]
  unfold lft;rw[if_pos (by simp[nHo];omega)];simp[nHo]
theorem Ab(h0:0<=l)(h1:l<=1048576){w:Wd}(ha:w.dk.lg.rs.length<=2000000)(hm:∀ r∈w.dk.lg.rs,r.m.length<=2000000)(ht:w.dk.td.length<=2000000)(hh:w.hs.length<=2000000)(hhm:∀ x∈w.hs,x.lg.rs.length<=2000000/\∀ r∈x.lg.rs,r.m.length<=2000000)(hn:w.ns.length<=2000000) :
  pi [.bool w.dk.up,.list (w.dk.lg.rs.map Rec.e),.int .i64 w.dk.lg.f,.list (w.dk.td.map Word.e),.list (w.hs.map House.e),.list (w.ns.map Word.e),.int .i64 l]=some [.int .i64 (lft l (nWd w))]:=by
 rw[q_ez]
 unfold nWd
 rw[<-eK l _ w.ns.length h0,<-eK l _ (nHs w.hs) h0]
 by_cases h:lft l (nRs w.dk.lg.rs+w.dk.td.length)<0
 ·simp (disch:=first|assumption|omega|(simp only[zL];omega)) only[Fs,th h0 h1 ha hm ht,h,if_true,Int.reduceEq,reduceIte,zU,zT,aa]
  simp
 ·have hr:=xW h0 h1 h
  have hz:=CP hr.1 hr.2 hh hhm
  by_cases h2:lft (lft l (nRs w.dk.lg.rs+w.dk.td.length)) (nHs w.hs)<0
  ·simp (disch:=first|assumption|omega|(simp only[zL];omega)) only[Fs,th h0 h1 ha hm ht,h,if_false,hz,h2,if_true,Int.reduceEq,reduceIte,zU,zT,aa]
  ·have hr2:=xW hr.1 hr.2 h2
   have hz2:=Aa hr2.1 hr2.2 hn
   by_cases h3:lft (lft (lft l (nRs w.dk.lg.rs+w.dk.td.length)) (nHs w.hs)) w.ns.length<0
   ·simp (disch:=first|assumption|omega|(simp only[zL];omega)) only[Fs,th h0 h1 ha hm ht,h,if_false,hz,h2,hz2,h3,if_true,Int.reduceEq,reduceIte,zU,zT,aa]
    rw[iw h3]
   ·simp (disch:=first|assumption|omega|(simp only[zL];omega)) only[Fs,th h0 h1 ha hm ht,h,if_false,hz,h2,hz2,h3,Int.reduceEq,reduceIte,zU,zT,aa]
theorem Ac(h0:0<=l)(h1:l<=1048576){e:Ev}(he:e.m.length<=2000000):pj [.int .i64 e.k,.int .i64 e.a,.int .i64 e.b,.list (e.m.map eI),.int .i64 l]=some [.int .i64 (lft l e.m.length)]:=by
 rw[q_fi]
 by_cases h:lft l e.m.length<0
 ·simp (disch:=first|assumption|omega|(simp only[zL];omega)) only[F_fi,tg h0 h1 he,h,if_true,Int.reduceEq,reduceIte,zU,zT,aa]
  rw[iw h]
 ·simp (disch:=first|assumption|omega|(simp only[zL];omega)) only[F_fi,tg h0 h1 he,h,if_false,Int.reduceEq,reduceIte,zU,zT,aa]
end
end Dx
namespace Dx
open Go
theorem FY{α:Type}{l:List α}{i:Nat}{x z:α}(hx:l[i]?=some x):(l.take i++List.replicate (l.length-i) z).set i x=l.take (i+1)++List.replicate (l.length-(i+1)) z:=by
 have hi:=(List.getElem?_eq_some_iff.1 hx).1
 rw[show l.length-i=(l.length-(i+1))+1 by omega,List.replicate_succ,List.set_append_right (h:=by rw[List.length_take];omega),List.take_add_one,hx]
 rw[List.length_take,Nat.min_eq_left (by omega),Nat.sub_self]
 simp
theorem gX{α:Type}{e:α->List C}{F:List C->Option Out}{l:List α}(z:α){o:Out}(h:∀(i:Nat) (x:α) (s:List α),l[i]?=some x->s.length=l.length->F [.int .i64 i,.list (s.map e)]=some (.jump [.int .i64 ((i+1:Nat):Int),.list ((s.set i x).map e)]))
  (hend:F [.int .i64 (l.length:Nat),.list (l.map e)]=some (.up o)):am F [.int .i64 0,.list (List.replicate l.length (e z))]=some o:=by
 have key:=ak (l:=l) (F:=F) (enc:=fun i (s:List α)=>[.int .i64 i,.list (s.map e)]) (res:=fun _ _ _=>o) (fun i s=>s=l.take i++List.replicate (l.length-i) z) (s:=List.replicate l.length z) (by simp) ?_ ?_
 ·rw[<-List.map_replicate];exact key
 ·intro i x xs s hx hs
  have hsl:s.length=l.length:=by
   have:=(List.getElem?_eq_some_iff.1 hx).1
   rw[hs];simp;omega
  exact .inl ⟨s.set i x,h i x s hx hsl,by rw[hs];exact FY hx,rfl⟩
 ·intro s hs
  have:s=l:=by rw[hs];simp
  rw[this];exact hend
theorem setW{α:Type}{e:α->List C}{s:List α}{i:Nat}{x:α}{cs:List C}(hi:i<s.length)(h:∀ y,rI (e y) 0 cs=e x):setRow 0 (s.map e) i cs=(s.set i x).map e :=
 bR (List.getElem?_eq_getElem hi) (h _)
def rec0:Rec:=⟨0,0,[]⟩
def Kd:House:=⟨0,false,0,⟨[],0⟩⟩
def word0:Word:=⟨0,0,0,0⟩
def ev0:Ev:=⟨0,0,0,[]⟩
theorem zh{l:List Int}(hl:l.length<=1099511627775):ln [.list (l.map eI)]=some [.list (l.map eI)]:=by
 rw[q_gs]
 have hb:(((l.length:Nat):Int)==((l.length:Nat):Int))=true:=by simp
 simp (disch:=first|assumption|omega|(simp only[zL];omega)) only[F_gs,List.length_map,hb,Int.toNat_natCast,Int.reduceEq,reduceIte,zU,zT,aa]
 have key:=gX (e:=eI) (l:=l) (F:=fun ps=>rZ (l.map eI) ((aa ps 0).toInt) ((aa ps 1).toList)) (0:Int) (o:=.ret [.list (l.map eI)]) ?_ ?_
 ·have key:am _ [C.int .i64 0,.list (List.replicate l.length [C.int .i64 0])]=_:=key
  rw[key];rfl
 ·intro i x s hx hs
  have hi:=(List.getElem?_eq_some_iff.1 hx).1
  have hi':(i:Int)<(l.length:Nat):=by omega
  have hi2:(i:Int)<(s.length:Nat):=by omega
  have hi0:(0:Int)<=i:=by omega
  have hse:setRow 0 (s.map eI) i [.int .i64 x]=(s.set i x).map eI:=setW (by omega) (fun y=>rfl)
  simp (disch:=first|assumption|omega|(simp only[zL];omega)) only[rZ,List.length_map,hi',if_true,gF hx,eI,hi0,hi2,decide_true,Bool.and_self,Int.toNat_natCast,ap,Int.reduceEq,reduceIte,zU,zT,aa]
  rw[<-hse]
 ·have h:¬ ((l.length:Int)<(l.length:Nat)):=by omega
  simp (disch:=first|assumption|omega|(simp only[zL];omega)) only[rZ,List.length_map,h,if_false,Int.reduceEq,reduceIte,zU,zT,aa]
theorem c_Rec{k t:Int}{m:List Int}(hl:m.length<=1099511627775):vy [.int .i64 k,.int .i64 t,.list (m.map eI)]=some [.int .i64 k,.int .i64 t,.list (m.map eI)]:=by
 rw[q_hd]
 simp (disch:=first|assumption|omega|(simp only[zL];omega)) only[F_hd,zh,Int.reduceEq,reduceIte,zU,zT,aa]
theorem Ke{l:List Rec}(hl:l.length<=2000000)(hm:∀ r∈l,r.m.length<=2000000):vz [.list (l.map Rec.e)]=some [.list (l.map Rec.e)]:=by
 rw[q_fz]
 have hb:(((l.length:Nat):Int)==((l.length:Nat):Int))=true:=by simp
 simp (disch:=first|assumption|omega|(simp only[zL];omega)) only[F_fz,List.length_map,hb,Int.toNat_natCast,Int.reduceEq,reduceIte,zU,zT,aa]
 have key:=gX (e:=Rec.e) (l:=l) (F:=fun ps=>sa (l.map Rec.e) ((aa ps 0).toInt) ((aa ps 1).toList)) rec0 (o:=.ret [.list (l.map Rec.e)]) ?_ ?_
 ·have key:am _ [C.int .i64 0,.list (List.replicate l.length [C.int .i64 0,C.int .i64 0,C.list []])]=_:=key
  rw[key];rfl
 ·intro i x s hx hs
  have hi:=(List.getElem?_eq_some_iff.1 hx).1
  have hi':(i:Int)<(l.length:Nat):=by omega
  have hi2:(i:Int)<(s.length:Nat):=by omega
  have hi0:(0:Int)<=i:=by omega
  have hxm:=hm x (List.mem_of_getElem? hx)
  have hc:=c_Rec (k:=x.k) (t:=x.t) (m:=x.m) (by omega)
  have hsx:s[i]?=some s[i]:=List.getElem?_eq_getElem (by omega)
  have hse:(s.map Rec.e).set i [.int .i64 x.k,.int .i64 x.t,.list (x.m.map eI)]=(s.set i x).map Rec.e:=(List.map_set (f:=Rec.e)).symm
  simp (disch:=first|assumption|omega|(simp only[zL];omega)) only[sa,List.length_map,hi',if_true,fE hx,fE hsx,eqD,hse,Rec.e,hc,hi0,hi2,decide_true,Bool.and_self,Int.toNat_natCast,ap,Int.reduceEq,reduceIte,zU,zT,aa]
 ·have h:¬ ((l.length:Int)<(l.length:Nat)):=by omega
  simp (disch:=first|assumption|omega|(simp only[zL];omega)) only[sa,List.length_map,h,if_false,Int.reduceEq,reduceIte,zU,zT,aa]
theorem Ju{l:List Rec}{f:Int}(hl:l.length<=2000000)(hm:∀ r∈l,r.m.length<=2000000):pl [.list (l.map Rec.e),.int .i64 f]=some [.list (l.map Rec.e),.int .i64 f]:=by
 rw[q_ha]
 simp (disch:=first|assumption|omega|(simp only[zL];omega)) only[F_ha,Ke,Int.reduceEq,reduceIte,zU,zT,aa]
theorem Kf{x:Word}:vA [.int .i64 x.k,.int .i64 x.h,.int .i64 x.t,.int .i64 x.m]=some [.int .i64 x.k,.int .i64 x.h,.int .i64 x.t,.int .i64 x.m]:=by
 rw[q_gf];rfl
theorem Ad{l:List Word}(hl:l.length<=2000000):pm [.list (l.map Word.e)]=some [.list (l.map Word.e)]:=by
 rw[q_eh]
 have hb:(((l.length:Nat):Int)==((l.length:Nat):Int))=true:=by simp
 simp (disch:=first|assumption|omega|(simp only[zL];omega)) only[F_eh,List.length_map,hb,Int.toNat_natCast,Int.reduceEq,reduceIte,zU,zT,aa]
 have key:=gX (e:=Word.e) (l:=l) (F:=fun ps=>sb (l.map Word.e) ((aa ps 0).toInt) ((aa ps 1).toList)) word0 (o:=.ret [.list (l.map Word.e)]) ?_ ?_
 ·have key:am _ [C.int .i64 0,.list (List.replicate l.length [C.int .i64 0,C.int .i64 0,C.int .i64 0,C.int .i64 0])]=_:=key
  rw[key];rfl
 ·intro i x s hx hs
  have hi:=(List.getElem?_eq_some_iff.1 hx).1
  have hi':(i:Int)<(l.length:Nat):=by omega
  have hi2:(i:Int)<(s.length:Nat):=by omega
  have hi0:(0:Int)<=i:=by omega
  have hse:setRow 0 (s.map Word.e) i [.int .i64 x.k,.int .i64 x.h,.int .i64 x.t,.int .i64 x.m]=(s.set i x).map Word.e:=setW (by omega) (fun y=>rfl)
  simp (disch:=first|assumption|omega|(simp only[zL];omega)) only[sb,List.length_map,hi',if_true,gG hx,Word.e,Kf,hi0,hi2,decide_true,Bool.and_self,Int.toNat_natCast,ap,Int.reduceEq,reduceIte,zU,zT,aa]
  rw[<-hse];rfl
 ·have h:¬ ((l.length:Int)<(l.length:Nat)):=by omega
  simp (disch:=first|assumption|omega|(simp only[zL];omega)) only[sb,List.length_map,h,if_false,Int.reduceEq,reduceIte,zU,zT,aa]
theorem Kg{up:Bool}{l:List Rec}{f:Int}{td:List Word}(hl:l.length<=2000000)(hm:∀ r∈l,r.m.length<=2000000)(ht:td.length<=2000000):vC [.bool up,.list (l.map Rec.e),.int .i64 f,.list (td.map Word.e)]=some [.bool up,.list (l.map Rec.e),.int .i64 f,.list (td.map Word.e)]:=by
 rw[q_ga]
 simp (disch:=first|assumption|omega|(simp only[zL];omega)) only[F_ga,Ju,Ad,Int.reduceEq,reduceIte,zU,zT,aa]
theorem FZ{x:House}(hl:x.lg.rs.length<=2000000)(hm:∀ r∈x.lg.rs,r.m.length<=2000000):vD [.int .i64 x.id,.bool x.up,.int .i64 x.room,.list (x.lg.rs.map Rec.e),.int .i64 x.lg.f]=some [.int .i64 x.id,.bool x.up,.int .i64 x.room,.list (x.lg.rs.map Rec.e),.int .i64 x.lg.f]:=by
 rw[q_ee]
 simp (disch:=first|assumption|omega|(simp only[zL];omega)) only[F_ee,Ju,Int.reduceEq,reduceIte,zU,zT,aa]
theorem CQ{l:List House}(hl:l.length<=2000000)(hm:∀ x∈l,x.lg.rs.length<=2000000/\∀ r∈x.lg.rs,r.m.length<=2000000):vE [.list (l.map House.e)]=some [.list (l.map House.e)]:=by
 rw[q_db]
 have hb:(((l.length:Nat):Int)==((l.length:Nat):Int))=true:=by simp
 simp (disch:=first|assumption|omega|(simp only[zL];omega)) only[F_db,List.length_map,hb,Int.toNat_natCast,Int.reduceEq,reduceIte,zU,zT,aa]
 have key:=gX (e:=House.e) (l:=l) (F:=fun ps=>sd (l.map House.e) ((aa ps 0).toInt) ((aa ps 1).toList)) Kd (o:=.ret [.list (l.map House.e)]) ?_ ?_
 ·have key:am _ [C.int .i64 0,.list (List.replicate l.length [C.int .i64 0,C.bool false,C.int .i64 0,C.list [],C.int .i64 0])]=_:=key
  rw[key];rfl
 ·intro i x s hx hs
  have hi:=(List.getElem?_eq_some_iff.1 hx).1
  have hi':(i:Int)<(l.length:Nat):=by omega
  have hi2:(i:Int)<(s.length:Nat):=by omega
  have hi0:(0:Int)<=i:=by omega
  have hxm:=hm x (List.mem_of_getElem? hx)
  have hc:=FZ hxm.1 hxm.2
  have hsx:s[i]?=some s[i]:=List.getElem?_eq_getElem (by omega)
  have hse:(s.map House.e).set i [.int .i64 x.id,.bool x.up,.int .i64 x.room,.list (x.lg.rs.map Rec.e),.int .i64 x.lg.f]=(s.set i x).map House.e:=(List.map_set (f:=House.e)).symm
  simp (disch:=first|assumption|omega|(simp only[zL];omega)) only[sd,List.length_map,hi',if_true,dU hx,dU hsx,eqD,hse,House.e,hc,hi0,hi2,decide_true,Bool.and_self,Int.toNat_natCast,ap,Int.reduceEq,reduceIte,zU,zT,aa]
 ·have h:¬ ((l.length:Int)<(l.length:Nat)):=by omega
  simp (disch:=first|assumption|omega|(simp only[zL];omega)) only[sd,List.length_map,h,if_false,Int.reduceEq,reduceIte,zU,zT,aa]
structure WB (w:Wd):Prop where
 rs:w.dk.lg.rs.length<=2000000
 m:∀ r∈w.dk.lg.rs,r.m.length<=2000000
 td:w.dk.td.length<=2000000
 hs:w.hs.length<=2000000
 h:∀ x∈w.hs,x.lg.rs.length<=2000000/\∀ r∈x.lg.rs,r.m.length<=2000000
 ns:w.ns.length<=2000000
theorem Ae{w:Wd}(b:WB w):pn [.bool w.dk.up,.list (w.dk.lg.rs.map Rec.e),.int .i64 w.dk.lg.f,.list (w.dk.td.map Word.e),.list (w.hs.map House.e),.list (w.ns.map Word.e)]=some [.bool w.dk.up,.list (w.dk.lg.rs.map Rec.e),.int .i64 w.dk.lg.f,.list (w.dk.td.map Word.e),.list (w.hs.map House.e),.list (w.ns.map Word.e)]:=by
 rw[q_ef]
 have h1:=Kg (up:=w.dk.up) (f:=w.dk.lg.f) b.rs b.m b.td
 have h2:=CQ b.hs b.h
 have h3:=Ad b.ns
 simp (disch:=first|assumption|omega|(simp only[zL];omega)) only[F_ef,h1,h2,h3,Int.reduceEq,reduceIte,zU,zT,aa]
theorem Af{e:Ev}(he:e.m.length<=2000000):po [.int .i64 e.k,.int .i64 e.a,.int .i64 e.b,.list (e.m.map eI)]=some [.int .i64 e.k,.int .i64 e.a,.int .i64 e.b,.list (e.m.map eI)]:=by
 rw[q_fb]
 simp (disch:=first|assumption|omega|(simp only[zL];omega)) only[F_fb,zh,Int.reduceEq,reduceIte,zU,zT,aa]
end Dx
namespace Dx
open Go
theorem zi{l:List Int}(hl:l.length<=2000000):ly [.list (l.map eI),.list (l.map eI)]=some [.bool true]:=by
 rw[q_gj]
 have key:=ak (l:=l) (F:=fun ps=>sP (l.map eI) (l.map eI) ((aa ps 0).toInt)) (enc:=fun i (_:Unit)=>[.int .i64 i]) (res:=fun _ _ _=>.ret [.bool true]) (fun _ _=>True) (s:=()) trivial ?_ ?_
 ·simp (disch:=first|assumption|omega|(simp only[zL];omega)) only[F_gj,List.length_map,Int.reduceEq,reduceIte,zU,zT,aa]
  have key:am _ [C.int .i64 0]=_:=key
  simp only[if_true,key]
  rfl
 ·intro i x xs s hx _
  have hi:=(List.getElem?_eq_some_iff.1 hx).1
  have hi':(i:Int)<(l.length:Nat):=by omega
  refine .inl ⟨(),?_,trivial,rfl⟩
  simp (disch:=first|assumption|omega|(simp only[zL];omega)) only[sP,List.length_map,hi',if_true,gF hx,eI,Bool.not_true,ap,Int.reduceEq,reduceIte,zU,zT,aa]
 ·intro s hs
  have h:¬ ((l.length:Int)<(l.length:Nat)):=by omega
  simp (disch:=first|assumption|omega|(simp only[zL];omega)) only[sP,List.length_map,h,if_false,Int.reduceEq,reduceIte,zU,zT,aa]
theorem e_Rec{k t:Int}{m:List Int}(hl:m.length<=2000000):wN [.int .i64 k,.int .i64 t,.list (m.map eI),.int .i64 k,.int .i64 t,.list (m.map eI)]=some [.bool true]:=by
 rw[q_hc]
 simp (disch:=first|assumption|omega|(simp only[zL];omega)) only[F_hc,zi hl,Bool.not_true,Int.reduceEq,reduceIte,zU,zT,aa]
 try simp
theorem Kh{l:List Rec}(hl:l.length<=2000000)(hm:∀ r∈l,r.m.length<=2000000):wO [.list (l.map Rec.e),.list (l.map Rec.e)]=some [.bool true]:=by
 rw[q_gb]
 have key:=ak (l:=l) (F:=fun ps=>sQ (l.map Rec.e) (l.map Rec.e) ((aa ps 0).toInt)) (enc:=fun i (_:Unit)=>[.int .i64 i]) (res:=fun _ _ _=>.ret [.bool true]) (fun _ _=>True) (s:=()) trivial ?_ ?_
 ·simp (disch:=first|assumption|omega|(simp only[zL];omega)) only[F_gb,List.length_map,Int.reduceEq,reduceIte,zU,zT,aa]
  have key:am _ [C.int .i64 0]=_:=key
  simp only[if_true,key]
  rfl
 ·intro i x xs s hx _
  have hi:=(List.getElem?_eq_some_iff.1 hx).1
  have hi':(i:Int)<(l.length:Nat):=by omega
  have hc:=e_Rec (k:=x.k) (t:=x.t) (hm x (List.mem_of_getElem? hx))
  refine .inl ⟨(),?_,trivial,rfl⟩
  simp (disch:=first|assumption|omega|(simp only[zL];omega)) only[sQ,List.length_map,hi',if_true,fE hx,Rec.e,hc,Bool.not_true,ap,Int.reduceEq,reduceIte,zU,zT,aa]
 ·intro s hs
  have h:¬ ((l.length:Int)<(l.length:Nat)):=by omega
  simp (disch:=first|assumption|omega|(simp only[zL];omega)) only[sQ,List.length_map,h,if_false,Int.reduceEq,reduceIte,zU,zT,aa]
theorem Jv{l:List Rec}{f:Int}(hl:l.length<=2000000)(hm:∀ r∈l,r.m.length<=2000000):pX [.list (l.map Rec.e),.int .i64 f,.list (l.map Rec.e),.int .i64 f]=some [.bool true]:=by
 rw[q_hb]
 simp (disch:=first|assumption|omega|(simp only[zL];omega)) only[F_hb,Kh hl hm,Bool.not_true,Int.reduceEq,reduceIte,zU,zT,aa]
 try simp
theorem Ki{x:Word}:wP [.int .i64 x.k,.int .i64 x.h,.int .i64 x.t,.int .i64 x.m,.int .i64 x.k,.int .i64 x.h,.int .i64 x.t,.int .i64 x.m]=some [.bool true]:=by
 rw[q_gp]
 simp (disch:=first|assumption|omega|(simp only[zL];omega)) only[F_gp,Int.reduceEq,reduceIte,zU,zT,aa]
 try simp
theorem Ag{l:List Word}(hl:l.length<=2000000):pY [.list (l.map Word.e),.list (l.map Word.e)]=some [.bool true]:=by
 rw[q_fo]
 have key:=ak (l:=l) (F:=fun ps=>sS (l.map Word.e) (l.map Word.e) ((aa ps 0).toInt)) (enc:=fun i (_:Unit)=>[.int .i64 i]) (res:=fun _ _ _=>.ret [.bool true]) (fun _ _=>True) (s:=()) trivial ?_ ?_
 ·simp (disch:=first|assumption|omega|(simp only[zL];omega)) only[F_fo,List.length_map,Int.reduceEq,reduceIte,zU,zT,aa]
  have key:am _ [C.int .i64 0]=_:=key
  simp only[if_true,key]
  rfl
 ·intro i x xs s hx _
  have hi:=(List.getElem?_eq_some_iff.1 hx).1
  have hi':(i:Int)<(l.length:Nat):=by omega
  refine .inl ⟨(),?_,trivial,rfl⟩
  simp (disch:=first|assumption|omega|(simp only[zL];omega)) only[sS,List.length_map,hi',if_true,gG hx,Word.e,Ki,Bool.not_true,ap,Int.reduceEq,reduceIte,zU,zT,aa]
 ·intro s hs
  have h:¬ ((l.length:Int)<(l.length:Nat)):=by omega
  simp (disch:=first|assumption|omega|(simp only[zL];omega)) only[sS,List.length_map,h,if_false,Int.reduceEq,reduceIte,zU,zT,aa]
theorem Kj{up:Bool}{l:List Rec}{f:Int}{td:List Word}(hl:l.length<=2000000)(hm:∀ r∈l,r.m.length<=2000000)(ht:td.length<=2000000) :
  wQ [.bool up,.list (l.map Rec.e),.int .i64 f,.list (td.map Word.e),.bool up,.list (l.map Rec.e),.int .i64 f,.list (td.map Word.e)]=some [.bool true]:=by
 rw[q_gq]
 simp (disch:=first|assumption|omega|(simp only[zL];omega)) only[F_gq,Jv hl hm,Ag ht,BEq.rfl,Bool.not_true,Int.reduceEq,reduceIte,zU,zT,aa]
 try simp
theorem F0{x:House}(hl:x.lg.rs.length<=2000000)(hm:∀ r∈x.lg.rs,r.m.length<=2000000) :
  wR [.int .i64 x.id,.bool x.up,.int .i64 x.room,.list (x.lg.rs.map Rec.e),.int .i64 x.lg.f,.int .i64 x.id,.bool x.up,.int .i64 x.room,.list (x.lg.rs.map Rec.e),.int .i64 x.lg.f]=some [.bool true]:=by
 rw[q_en]
 simp (disch:=first|assumption|omega|(simp only[zL];omega)) only[F_en,Jv hl hm,BEq.rfl,Bool.not_true,Int.reduceEq,reduceIte,zU,zT,aa]
 try simp
theorem CR{l:List House}(hl:l.length<=2000000)(hm:∀ x∈l,x.lg.rs.length<=2000000/\∀ r∈x.lg.rs,r.m.length<=2000000):wS [.list (l.map House.e),.list (l.map House.e)]=some [.bool true]:=by
 rw[q_dd]
 have key:=ak (l:=l) (F:=fun ps=>sT (l.map House.e) (l.map House.e) ((aa ps 0).toInt)) (enc:=fun i (_:Unit)=>[.int .i64 i]) (res:=fun _ _ _=>.ret [.bool true]) (fun _ _=>True) (s:=()) trivial ?_ ?_
 ·simp (disch:=first|assumption|omega|(simp only[zL];omega)) only[F_dd,List.length_map,Int.reduceEq,reduceIte,zU,zT,aa]
  have key:am _ [C.int .i64 0]=_:=key
  simp only[if_true,key]
  rfl
 ·intro i x xs s hx _
  have hi:=(List.getElem?_eq_some_iff.1 hx).1
  have hi':(i:Int)<(l.length:Nat):=by omega
  have hxm:=hm x (List.mem_of_getElem? hx)
  have hc:=F0 hxm.1 hxm.2
  refine .inl ⟨(),?_,trivial,rfl⟩
  simp (disch:=first|assumption|omega|(simp only[zL];omega)) only[sT,List.length_map,hi',if_true,dU hx,House.e,hc,Bool.not_true,ap,Int.reduceEq,reduceIte,zU,zT,aa]
 ·intro s hs
  have h:¬ ((l.length:Int)<(l.length:Nat)):=by omega
  simp (disch:=first|assumption|omega|(simp only[zL];omega)) only[sT,List.length_map,h,if_false,Int.reduceEq,reduceIte,zU,zT,aa]
theorem ka{w:Wd}(b:WB w):lz [.bool w.dk.up,.list (w.dk.lg.rs.map Rec.e),.int .i64 w.dk.lg.f,.list (w.dk.td.map Word.e),.list (w.hs.map House.e),.list (w.ns.map Word.e),.bool w.dk.up,.list (w.dk.lg.rs.map Rec.e),.int .i64 w.dk.lg.f,.list (w.dk.td.map Word.e),.list (w.hs.map House.e),.list (w.ns.map Word.e)]=some [.bool true]:=by
 rw[q_fq]
 have h1:=Kj (up:=w.dk.up) (f:=w.dk.lg.f) b.rs b.m b.td
 have h2:=CR b.hs b.h
 have h3:=Ag b.ns
 simp (disch:=first|assumption|omega|(simp only[zL];omega)) only[F_fq,h1,h2,h3,Bool.not_true,Int.reduceEq,reduceIte,zU,zT,aa]
theorem Ah{e:Ev}(he:e.m.length<=2000000):pZ [.int .i64 e.k,.int .i64 e.a,.int .i64 e.b,.list (e.m.map eI),.int .i64 e.k,.int .i64 e.a,.int .i64 e.b,.list (e.m.map eI)]=some [.bool true]:=by
 rw[q_el]
 simp (disch:=first|assumption|omega|(simp only[zL];omega)) only[F_el,zi he,Bool.not_true,Int.reduceEq,reduceIte,zU,zT,aa]
 try simp
end Dx
namespace Dx
open Go
section
variable {α:Type} {m:Int->α->α×Int}
def mks(m:Int->α->α×Int):Int->List α->List α
 | _,[]=>[]
 | k,x::l=>(m k x).1::mks m (m k x).2 l
def ens(m:Int->α->α×Int):Int->List α->Int
 | k,[]=>k
 | k,x::l=>ens m (m k x).2 l
theorem eL:∀(l:List α) (k:Int),(mks m k l).length=l.length
 | [],_=>rfl
 | x::l,k=>by simp[mks,eL l]
theorem uL:∀(l:List α) (k:Int) (i:Nat) (x:α),l[i]?=some x->ens m k (l.take (i+1))=(m (ens m k (l.take i)) x).2
 | [],_,_,_,h=>by simp at h
 | y::l,k,0,x,h=>by simp at h;subst h;simp[ens]
 | y::l,k,i+1,x,h=>by
  simp only[List.getElem?_cons_succ]at h
  simp only[List.take_succ_cons,ens]
  exact uL l _ i x h
theorem Ai:∀(l:List α) (k:Int) (i:Nat) (x:α),l[i]?=some x->(mks m k l)[i]?=some (m (ens m k (l.take i)) x).1
 | [],_,_,_,h=>by simp at h
 | y::l,k,0,x,h=>by simp at h;subst h;simp[mks,ens]
 | y::l,k,i+1,x,h=>by
  simp only[List.getElem?_cons_succ]at h
  simp only[mks,List.getElem?_cons_succ,List.take_succ_cons,ens]
  exact Ai l _ i x h
theorem uM{l:List α}{i:Nat}{x:α}(h:l[i]?=some x):l.drop i=x::l.drop (i+1):=by
 obtain⟨hi,e⟩:=List.getElem?_eq_some_iff.1 h
 rw[List.drop_eq_getElem_cons hi,e]
theorem take_set{s:List α}{i:Nat}{y:α}(h:i<s.length):(s.set i y).take (i+1)=s.take i++[y]:=by
 have h1:(s.set i y)[i]?=some y:=by rw[List.getElem?_set_self h]
 rw[List.take_add_one,h1]
 congr 1
 apply List.ext_getElem?
 intro j
 rw[List.getElem?_take,List.getElem?_take]
 split
 ·rw[List.getElem?_set_ne (by omega)]
 ·rfl
theorem gY{e:α->List C}{F:List C->Option Out}{l:List α}{k:Int}(B:Int->List α->Prop)(hB0:B k l)(hB:∀ k x xs,B k (x::xs)->B (m k x).2 xs)
  (hF:∀(i:Nat) (x:α) (k:Int) (s:List α) (xs:List α),l[i]?=some x->s[i]?=some x->s.length=l.length->B k (x::xs)->F [.int .i64 k,.int .i64 i,.list (s.map e)]=some (.jump [.int .i64 (m k x).2,.int .i64 ((i+1:Nat):Int),.list ((s.set i (m k x).1).map e)]))
  (hE:∀(k:Int) (s:List α),s.length=l.length->F [.int .i64 k,.int .i64 (l.length:Nat),.list (s.map e)]=some (.up (.ret [.int .i64 k,.list (s.map e)]))) :
  am F [.int .i64 k,.int .i64 0,.list (l.map e)]=some (.ret [.int .i64 (ens m k l),.list ((mks m k l).map e)]):=by
 have key:=ak (l:=l) (F:=F) (enc:=fun i (s:Int×List α)=>[.int .i64 s.1,.int .i64 i,.list (s.2.map e)])
  (res:=fun xs i s=>.ret [.int .i64 (ens m s.1 xs),.list ((s.2.take i++mks m s.1 xs).map e)]) (fun i s=>s.2.length=l.length/\s.2.drop i=l.drop i/\B s.1 (l.drop i)) (s:=(k,l)) ⟨rfl,rfl,hB0⟩ ?_ ?_
 ·simpa using key
 ·intro i x xs s hx ⟨h1,h2,h3⟩
  have hi:=(List.getElem?_eq_some_iff.1 hx).1
  have hsx:s.2[i]?=some x:=by
   have:=congrArg (·[0]?) h2
   simp only[List.getElem?_drop,Nat.add_zero]at this
   rw[this];exact hx
  rw[uM hx]at h3
  refine .inl ⟨((m s.1 x).2,s.2.set i (m s.1 x).1),hF i x s.1 s.2 _ hx hsx h1 h3,⟨by simp[h1],?_,hB _ _ _ h3⟩,?_⟩
  ·have:=congrArg (·.drop 1) h2
   simp only[List.drop_drop]at this
   rw[List.drop_set,if_pos (by omega)]
   exact this
  ·simp only[ens,mks]
   rw[take_set (by omega),List.append_assoc];rfl
 ·intro s ⟨h1,_,_⟩
  have:=hE s.1 s.2 h1
  rw[this]
  simp[ens,mks,<-h1]
theorem jN{F:List C->Option Out}{l:List α}{k:Int}(B:Int->List α->Prop)(hB0:B k l)(hB:∀ k x xs,B k (x::xs)->B (m k x).2 xs)
  (hF:∀(i:Nat) (x:α) (k':Int) (xs:List α),l[i]?=some x->(mks m k l)[i]?=some (m k' x).1->B k' (x::xs)->F [.int .i64 k',.int .i64 i]=some (.jump [.int .i64 (m k' x).2,.int .i64 ((i+1:Nat):Int)]))
  (hE:∀ k:Int,F [.int .i64 k,.int .i64 (l.length:Nat)]=some (.up (.ret [.int .i64 k]))) :
  am F [.int .i64 k,.int .i64 0]=some (.ret [.int .i64 (ens m k l)]):=by
 have key:=ak (l:=l) (F:=F) (enc:=fun i (s:Int)=>[.int .i64 s,.int .i64 i])
  (res:=fun xs _ s=>.ret [.int .i64 (ens m s xs)]) (fun i s=>s=ens m k (l.take i)/\B s (l.drop i)) (s:=k) ⟨rfl,hB0⟩ ?_ ?_
 ·exact key
 ·intro i x xs s hx ⟨h1,h2⟩
  rw[uM hx]at h2
  refine .inl ⟨(m s x).2,hF i x s _ hx (by rw[h1];exact Ai l k i x hx) h2,⟨by rw[uL l k i x hx,<-h1],hB _ _ _ h2⟩,rfl⟩
 ·intro s _
  exact hE s
end
def mI(k:Int)(_:Int):Int×Int:=(k,k+1)
def mR(k:Int)(r:Rec):Rec×Int:=(⟨k,k+1,mks mI (k+2) r.m⟩,ens mI (k+2) r.m)
def mW(k:Int)(_:Word):Word×Int:=(⟨k,k+1,k+2,k+3⟩,k+4)
def mH(k:Int)(h:House):House×Int:=(⟨k,Int.tmod (k+1) 3==0,k+2,⟨mks mR (k+3) h.lg.rs,ens mR (k+3) h.lg.rs⟩⟩,ens mR (k+3) h.lg.rs+1)
def sR(l:List Rec):Nat:=(l.map fun r=>2+r.m.length).sum
def sH(l:List House):Nat:=(l.map fun h=>4+sR h.lg.rs).sum
theorem zj:∀ l:List Rec,2*l.length<=sR l
 | []=>by simp
 | x::l=>by
  have:=zj l
  simp only[sR,List.map_cons,List.sum_cons,List.length_cons]at *;omega
theorem zk:∀ l:List House,4*l.length<=sH l
 | []=>by simp
 | x::l=>by
  have:=zk l
  simp only[sH,List.map_cons,List.sum_cons,List.length_cons]at *;omega
theorem lG:∀(l:List Int) (k:Int),ens mI k l=k+l.length
 | [],k=>by simp[ens]
 | x::l,k=>by simp only[ens,mI,lG l,List.length_cons];omega
theorem ij:∀(l:List Rec) (k:Int),ens mR k l=k+sR l
 | [],k=>by simp[ens,sR]
 | x::l,k=>by simp only[ens,mR,ij l,lG,sR,List.map_cons,List.sum_cons];omega
theorem qc:∀(l:List Word) (k:Int),ens mW k l=k+4*l.length
 | [],k=>by simp[ens]
 | x::l,k=>by simp only[ens,mW,qc l,List.length_cons];omega
theorem BN:∀(l:List House) (k:Int),ens mH k l=k+sH l
 | [],k=>by simp[ens,sH]
 | x::l,k=>by simp only[ens,mH,BN l,ij,sH,List.map_cons,List.sum_cons];omega
section
variable {k:Int}
theorem tj{l:List Int}(h0:0<=k)(h1:k+l.length<=1000000000):iN [.list (l.map eI),.int .i64 k]=some [.int .i64 (ens mI k l),.list ((mks mI k l).map eI)]:=by
 rw[q_ds]
 show ah (am _ [.int .i64 k,.int .i64 0,.list (l.map eI)])=_
 rw[gY (m:=mI) (fun k l=>0<=k/\k+(l.length:Nat)<=1000000000) ⟨h0,h1⟩ (fun k x xs h=>by simp only[mI,List.length_cons]at *;omega)]
 ·rfl
 ·intro i x k s xs hx hsx hs hb
  have hi:=(List.getElem?_eq_some_iff.1 hx).1
  have hi':(i:Int)<(s.length:Nat):=by omega
  have hi0:(0:Int)<=i:=by omega
  simp only[List.length_cons]at hb
  have hse:setRow 0 (s.map eI) i [.int .i64 k]=(s.set i k).map eI:=setW (by omega) (fun y=>rfl)
  simp (disch:=first|assumption|omega|(simp only[zL];omega)) only[yV,List.length_map,hi',hi0,if_true,decide_true,Bool.and_self,Int.toNat_natCast,hse,wrap64,mI,Int.reduceEq,reduceIte,zU,zT,aa]
  rfl
 ·intro k s hs
  have h:¬ ((l.length:Int)<(s.length:Nat)):=by omega
  simp (disch:=first|assumption|omega|(simp only[zL];omega)) only[yV,List.length_map,h,if_false,Int.reduceEq,reduceIte,zU,zT,aa]
theorem Kk{l:List Int}(h0:0<=k)(h1:k+l.length<=1000000000):wX [.list ((mks mI k l).map eI),.int .i64 k]=some [.int .i64 (ens mI k l)]:=by
 rw[q_dv]
 show ah (am _ [.int .i64 k,.int .i64 0])=_
 rw[jN (m:=mI) (l:=l) (fun k l=>0<=k/\k+(l.length:Nat)<=1000000000) ⟨h0,h1⟩ (fun k x xs h=>by simp only[mI,List.length_cons]at *;omega)]
 ·rfl
 ·intro i x k' xs hx hg hb
  have hi:=(List.getElem?_eq_some_iff.1 hx).1
  have hi':(i:Int)<(l.length:Nat):=by omega
  simp only[List.length_cons]at hb
  simp only[mI]at hg
  simp (disch:=first|assumption|omega|(simp only[zL];omega)) only[yZ,List.length_map,eL,hi',if_true,gF hg,eI,wrap64,mI,Int.reduceEq,reduceIte,zU,zT,aa]
  rfl
 ·intro k'
  have h:¬ ((l.length:Int)<(l.length:Nat)):=by omega
  simp (disch:=first|assumption|omega|(simp only[zL];omega)) only[yZ,List.length_map,eL,h,if_false,Int.reduceEq,reduceIte,zU,zT,aa]
theorem Aj{l:List Word}(h0:0<=k)(h1:k+4*l.length<=1000000000):p9 [.list (l.map Word.e),.int .i64 k]=some [.int .i64 (ens mW k l),.list ((mks mW k l).map Word.e)]:=by
 rw[q_cw]
 show ah (am _ [.int .i64 k,.int .i64 0,.list (l.map Word.e)])=_
 rw[gY (m:=mW) (fun k l=>0<=k/\k+4*(l.length:Nat)<=1000000000) ⟨h0,h1⟩ (fun k x xs h=>by simp only[mW,List.length_cons]at *;omega)]
 ·rfl
 ·intro i x k s xs hx hsx hs hb
  have hi:=(List.getElem?_eq_some_iff.1 hx).1
  have hi':(i:Int)<(s.length:Nat):=by omega
  have hi0:(0:Int)<=i:=by omega
  have his:i<s.length:=by omega
  simp only[List.length_cons]at hb
  have s0:setRow 0 (s.map Word.e) i [.int .i64 k]=(s.set i ⟨k,x.h,x.t,x.m⟩).map Word.e:=bR hsx rfl
  have s1:setRow 1 ((s.set i ⟨k,x.h,x.t,x.m⟩).map Word.e) i [.int .i64 (k+1)]=(s.set i ⟨k,k+1,x.t,x.m⟩).map Word.e:=by
   rw[bR (y:=⟨k,k+1,x.t,x.m⟩) (List.getElem?_set_self his) rfl,List.set_set]
  have s2:setRow 2 ((s.set i ⟨k,k+1,x.t,x.m⟩).map Word.e) i [.int .i64 (k+2)]=(s.set i ⟨k,k+1,k+2,x.m⟩).map Word.e:=by
   rw[bR (y:=⟨k,k+1,k+2,x.m⟩) (List.getElem?_set_self his) rfl,List.set_set]
  have s3:setRow 3 ((s.set i ⟨k,k+1,k+2,x.m⟩).map Word.e) i [.int .i64 (k+3)]=(s.set i ⟨k,k+1,k+2,k+3⟩).map Word.e:=by
   rw[bR (y:=⟨k,k+1,k+2,k+3⟩) (List.getElem?_set_self his) rfl,List.set_set]
  have w2:k+1+1=k+2:=by omega
  have w3:k+2+1=k+3:=by omega
  have w4:k+3+1=k+4:=by omega
  simp (disch:=first|assumption|omega|(simp only[zL];omega)) only[yX,List.length_map,List.length_set,hi',hi0,if_true,decide_true,Bool.and_self,Int.toNat_natCast,s0,s1,s2,s3,w2,w3,w4,wrap64,mW,Int.reduceEq,reduceIte,zU,zT,aa]
  rfl
 ·intro k s hs
  have h:¬ ((l.length:Int)<(s.length:Nat)):=by omega
  simp (disch:=first|assumption|omega|(simp only[zL];omega)) only[yX,List.length_map,h,if_false,Int.reduceEq,reduceIte,zU,zT,aa]
theorem DE{l:List Rec}(h0:0<=k)(h1:k+sR l<=1000000000):p8 [.list (l.map Rec.e),.int .i64 k]=some [.int .i64 (ens mR k l),.list ((mks mR k l).map Rec.e)]:=by
 rw[q_dc]
 show ah (am _ [.int .i64 k,.int .i64 0,.list (l.map Rec.e)])=_
 rw[gY (m:=mR) (fun k l=>0<=k/\k+sR l<=1000000000) ⟨h0,h1⟩ (fun k x xs h=>by simp only[mR,lG,sR,List.map_cons,List.sum_cons]at *;omega)]
 ·rfl
 ·intro i x k s xs hx hsx hs hb
  have hi:=(List.getElem?_eq_some_iff.1 hx).1
  have hi':(i:Int)<(s.length:Nat):=by omega
  have hi0:(0:Int)<=i:=by omega
  have hL:=zj l
  have hb2:0<=k/\k+(2+x.m.length)<=1000000000:=by simp only[sR,List.map_cons,List.sum_cons]at hb;omega
  have w2:k+1+1=k+2:=by omega
  have hc:=tj (k:=k+2) (l:=x.m) (by omega) (by omega)
  have hse:(s.map Rec.e).set i [.int .i64 k,.int .i64 (k+1),.list ((mks mI (k+2) x.m).map eI)]=(s.set i ⟨k,k+1,mks mI (k+2) x.m⟩).map Rec.e:=by rw[List.map_set];rfl
  simp (disch:=first|assumption|omega|(simp only[zL];omega)) only[yW,List.length_map,hi',hi0,if_true,decide_true,Bool.and_self,Int.toNat_natCast,fE hsx,Rec.e,eqD,w2,hc,hse,wrap64,mR,Int.reduceEq,reduceIte,zU,zT,aa]
  rfl
 ·intro k s hs
  have h:¬ ((l.length:Int)<(s.length:Nat)):=by omega
  simp (disch:=first|assumption|omega|(simp only[zL];omega)) only[yW,List.length_map,h,if_false,Int.reduceEq,reduceIte,zU,zT,aa]
theorem Ak{l:List Word}(h0:0<=k)(h1:k+4*l.length<=1000000000):qb [.list ((mks mW k l).map Word.e),.int .i64 k]=some [.int .i64 (ens mW k l)]:=by
 rw[q_cr]
 show ah (am _ [.int .i64 k,.int .i64 0])=_
 rw[jN (m:=mW) (l:=l) (fun k l=>0<=k/\k+4*(l.length:Nat)<=1000000000) ⟨h0,h1⟩ (fun k x xs h=>by simp only[mW,List.length_cons]at *;omega)]
 ·rfl
 ·intro i x k' xs hx hg hb
  have hi:=(List.getElem?_eq_some_iff.1 hx).1
  have hi':(i:Int)<(l.length:Nat):=by omega
  simp only[List.length_cons]at hb
  simp only[mW]at hg
  have w2:k'+1+1=k'+2:=by omega
  have w3:k'+2+1=k'+3:=by omega
  have w4:k'+3+1=k'+4:=by omega
  simp (disch:=first|assumption|omega|(simp only[zL];omega)) only[y4,List.length_map,eL,hi',if_true,gG hg,Word.e,w2,w3,w4,wrap64,mW,Int.reduceEq,reduceIte,zU,zT,aa]
  rfl
 ·intro k'
  have h:¬ ((l.length:Int)<(l.length:Nat)):=by omega
  simp (disch:=first|assumption|omega|(simp only[zL];omega)) only[y4,List.length_map,eL,h,if_false,Int.reduceEq,reduceIte,zU,zT,aa]
theorem DF{l:List Rec}(h0:0<=k)(h1:k+sR l<=1000000000):qa [.list ((mks mR k l).map Rec.e),.int .i64 k]=some [.int .i64 (ens mR k l)]:=by
 rw[q_ea]
 show ah (am _ [.int .i64 k,.int .i64 0])=_
 rw[jN (m:=mR) (l:=l) (fun k l=>0<=k/\k+sR l<=1000000000) ⟨h0,h1⟩ (fun k x xs h=>by simp only[mR,lG,sR,List.map_cons,List.sum_cons]at *;omega)]
 ·rfl
 ·intro i x k' xs hx hg hb
  have hi:=(List.getElem?_eq_some_iff.1 hx).1
  have hi':(i:Int)<(l.length:Nat):=by omega
  have hL:=zj l
  have hb2:0<=k'/\k'+(2+x.m.length)<=1000000000:=by simp only[sR,List.map_cons,List.sum_cons]at hb;omega
  simp only[mR]at hg
  have w2:k'+1+1=k'+2:=by omega
  have hc:=Kk (k:=k'+2) (l:=x.m) (by omega) (by omega)
  have hn:¬ (ens mI (k'+2) x.m<0):=by rw[lG];omega
  simp (disch:=first|assumption|omega|(simp only[zL];omega)) only[y3,List.length_map,eL,hi',if_true,fE hg,Rec.e,w2,hc,hn,if_false,wrap64,mR,Int.reduceEq,reduceIte,zU,zT,aa]
  rfl
 ·intro k'
  have h:¬ ((l.length:Int)<(l.length:Nat)):=by omega
  simp (disch:=first|assumption|omega|(simp only[zL];omega)) only[y3,List.length_map,eL,h,if_false,Int.reduceEq,reduceIte,zU,zT,aa]
theorem CS{l:List House}(h0:0<=k)(h1:k+sH l<=1000000000):wV [.list (l.map House.e),.int .i64 k]=some [.int .i64 (ens mH k l),.list ((mks mH k l).map House.e)]:=by
 rw[q_bn]
 show ah (am _ [.int .i64 k,.int .i64 0,.list (l.map House.e)])=_
 rw[gY (m:=mH) (fun k l=>0<=k/\k+sH l<=1000000000) ⟨h0,h1⟩ (fun k x xs h=>by simp only[mH,ij,sH,List.map_cons,List.sum_cons]at *;omega)]
 ·rfl
 ·intro i x k s xs hx hsx hs hb
  have hi:=(List.getElem?_eq_some_iff.1 hx).1
  have hi':(i:Int)<(s.length:Nat):=by omega
  have hi0:(0:Int)<=i:=by omega
  have hL:=zk l
  have hb2:0<=k/\k+(4+sR x.lg.rs)<=1000000000:=by simp only[sH,List.map_cons,List.sum_cons]at hb;omega
  have w2:k+1+1=k+2:=by omega
  have w3:k+2+1=k+3:=by omega
  have hc:=DE (k:=k+3) (l:=x.lg.rs) (by omega) (by omega)
  have he:=ij x.lg.rs (k+3)
  have hse:(s.map House.e).set i [.int .i64 k,.bool (Int.tmod (k+1) 3==0),.int .i64 (k+2),.list ((mks mR (k+3) x.lg.rs).map Rec.e),.int .i64 (ens mR (k+3) x.lg.rs)]=(s.set i ⟨k,Int.tmod (k+1) 3==0,k+2,⟨mks mR (k+3) x.lg.rs,ens mR (k+3) x.lg.rs⟩⟩).map House.e:=by rw[List.map_set];rfl
  simp (disch:=first|assumption|omega|(simp only[zL];omega)) only[yY,List.length_map,hi',hi0,if_true,decide_true,Bool.and_self,Int.toNat_natCast,dU hsx,House.e,eqD,w2,w3,hc,hse,wrap64,mH,Int.reduceEq,reduceIte,zU,zT,aa]
  rfl
 ·intro k s hs
  have h:¬ ((l.length:Int)<(s.length:Nat)):=by omega
  simp (disch:=first|assumption|omega|(simp only[zL];omega)) only[yY,List.length_map,h,if_false,Int.reduceEq,reduceIte,zU,zT,aa]
theorem CT{l:List House}(h0:0<=k)(h1:k+sH l<=1000000000):w8 [.list ((mks mH k l).map House.e),.int .i64 k]=some [.int .i64 (ens mH k l)]:=by
 rw[q_bv]
 show ah (am _ [.int .i64 k,.int .i64 0])=_
 rw[jN (m:=mH) (l:=l) (fun k l=>0<=k/\k+sH l<=1000000000) ⟨h0,h1⟩ (fun k x xs h=>by simp only[mH,ij,sH,List.map_cons,List.sum_cons]at *;omega)]
 ·rfl
 ·intro i x k' xs hx hg hb
  have hi:=(List.getElem?_eq_some_iff.1 hx).1
  have hi':(i:Int)<(l.length:Nat):=by omega
  have hL:=zk l
  have hb2:0<=k'/\k'+(4+sR x.lg.rs)<=1000000000:=by simp only[sH,List.map_cons,List.sum_cons]at hb;omega
  simp only[mH]at hg
  have w2:k'+1+1=k'+2:=by omega
  have w3:k'+2+1=k'+3:=by omega
  have he:=ij x.lg.rs (k'+3)
  have hc:=DF (k:=k'+3) (l:=x.lg.rs) (by omega) (by omega)
  have hn:¬ (ens mR (k'+3) x.lg.rs<0):=by rw[he];omega
  simp (disch:=first|assumption|omega|(simp only[zL];omega)) only[y5,List.length_map,eL,hi',if_true,dU hg,House.e,w2,w3,hc,hn,if_false,BEq.rfl,Bool.not_true,wrap64,mH,Int.reduceEq,reduceIte,zU,zT,aa]
  rfl
 ·intro k'
  have h:¬ ((l.length:Int)<(l.length:Nat)):=by omega
  simp (disch:=first|assumption|omega|(simp only[zL];omega)) only[y5,List.length_map,eL,h,if_false,Int.reduceEq,reduceIte,zU,zT,aa]
end
end Dx
namespace Dx
open Go
def F3(k:Int)(w:Wd):Wd :=
 ⟨⟨w.dk.up,⟨mks mR k w.dk.lg.rs,w.dk.lg.f⟩,mks mW (ens mR k w.dk.lg.rs) w.dk.td⟩,mks mH (ens mW (ens mR k w.dk.lg.rs) w.dk.td) w.hs,mks mW (ens mH (ens mW (ens mR k w.dk.lg.rs) w.dk.td) w.hs) w.ns⟩
def lY(k:Int)(w:Wd):Int:=ens mW (ens mH (ens mW (ens mR k w.dk.lg.rs) w.dk.td) w.hs) w.ns
def sWd(w:Wd):Nat:=sR w.dk.lg.rs+4*w.dk.td.length+sH w.hs+4*w.ns.length
theorem kb(k:Int)(w:Wd):lY k w=k+sWd w:=by
 unfold lY sWd
 rw[qc,BN,qc,ij];omega
section
variable {k:Int}
theorem k_Log{l:List Rec}{f:Int}(h0:0<=k)(h1:k+sR l<=1000000000):wT [.list (l.map Rec.e),.int .i64 f,.int .i64 k]=some [.int .i64 (ens mR k l),.list ((mks mR k l).map Rec.e),.int .i64 f]:=by
 rw[q_ej]
 simp (disch:=first|assumption|omega|(simp only[zL];omega)) only[F_ej,DE h0 h1,Int.reduceEq,reduceIte,zU,zT,aa]
theorem Kl{up:Bool}{l:List Rec}{f:Int}{td:List Word}(h0:0<=k)(h1:k+sR l+4*td.length<=1000000000):wU [.bool up,.list (l.map Rec.e),.int .i64 f,.list (td.map Word.e),.int .i64 k]=some [.int .i64 (ens mW (ens mR k l) td),.bool up,.list ((mks mR k l).map Rec.e),.int .i64 f,.list ((mks mW (ens mR k l) td).map Word.e)]:=by
 rw[q_di]
 have e:=ij l k
 have h2:=Aj (k:=ens mR k l) (l:=td) (by omega) (by omega)
 simp (disch:=first|assumption|omega|(simp only[zL];omega)) only[F_di,k_Log h0 (l:=l) (by omega),h2,Int.reduceEq,reduceIte,zU,zT,aa]
 try rfl
theorem kc{w:Wd}(h0:0<=k)(h1:k+sWd w<=1000000000):lB [.bool w.dk.up,.list (w.dk.lg.rs.map Rec.e),.int .i64 w.dk.lg.f,.list (w.dk.td.map Word.e),.list (w.hs.map House.e),.list (w.ns.map Word.e),.int .i64 k]=some (.int .i64 (lY k w)::(F3 k w).e):=by
 rw[q_cm]
 unfold sWd at h1
 have e1:=ij w.dk.lg.rs k
 have e2:=qc w.dk.td (ens mR k w.dk.lg.rs)
 have e3:=BN w.hs (ens mW (ens mR k w.dk.lg.rs) w.dk.td)
 have d1:=Kl (k:=k) (up:=w.dk.up) (l:=w.dk.lg.rs) (f:=w.dk.lg.f) (td:=w.dk.td) h0 (by omega)
 have d2:=CS (k:=ens mW (ens mR k w.dk.lg.rs) w.dk.td) (l:=w.hs) (by omega) (by omega)
 have d3:=Aj (k:=ens mH (ens mW (ens mR k w.dk.lg.rs) w.dk.td) w.hs) (l:=w.ns) (by omega) (by omega)
 have hc:∀(a:Int) (b:Bool) (c:List (List C)) (d:Int) (e:List (List C)) (f:List C->Option Out),ac (some [.int .i64 a,.bool b,.list c,.int .i64 d,.list e]) [.int .i64,.bool,.list,.int .i64,.list] f=f [.int .i64 a,.bool b,.list c,.int .i64 d,.list e]:=fun _ _ _ _ _ _=>rfl
 simp (disch:=first|assumption|omega|(simp only[zL];omega)) only[F_cm,d1,d2,d3,hc,Int.reduceEq,reduceIte,zU,zT,aa]
 rfl
theorem F4{e:Ev}(h0:0<=k)(h1:k+e.m.length<=1000000000):wW [.int .i64 e.k,.int .i64 e.a,.int .i64 e.b,.list (e.m.map eI),.int .i64 k]=some [.int .i64 (ens mI k e.m),.int .i64 e.k,.int .i64 e.a,.int .i64 e.b,.list ((mks mI k e.m).map eI)]:=by
 rw[q_cf]
 simp (disch:=first|assumption|omega|(simp only[zL];omega)) only[F_cf,tj h0 h1,Int.reduceEq,reduceIte,zU,zT,aa]
theorem h_Log{l:List Rec}{f:Int}(h0:0<=k)(h1:k+sR l<=1000000000):wY [.list ((mks mR k l).map Rec.e),.int .i64 f,.int .i64 k]=some [.int .i64 (ens mR k l)]:=by
 rw[q_ev]
 have e:=ij l k
 have hn:¬ (ens mR k l<0):=by omega
 simp (disch:=first|assumption|omega|(simp only[zL];omega)) only[F_ev,DF h0 h1,hn,if_false,Int.reduceEq,reduceIte,zU,zT,aa]
theorem Km{up:Bool}{l:List Rec}{f:Int}{td:List Word}(h0:0<=k)(h1:k+sR l+4*td.length<=1000000000):wZ [.bool up,.list ((mks mR k l).map Rec.e),.int .i64 f,.list ((mks mW (ens mR k l) td).map Word.e),.int .i64 k]=some [.int .i64 (ens mW (ens mR k l) td)]:=by
 rw[q_cz]
 have e:=ij l k
 have e2:=qc td (ens mR k l)
 have hn:¬ (ens mR k l<0):=by omega
 have hn2:¬ (ens mW (ens mR k l) td<0):=by omega
 simp (disch:=first|assumption|omega|(simp only[zL];omega)) only[F_cz,h_Log h0 (l:=l) (by omega),Ak (k:=ens mR k l) (l:=td) (by omega) (by omega),hn,hn2,if_false,Int.reduceEq,reduceIte,zU,zT,aa]
theorem rD{w:Wd}(h0:0<=k)(h1:k+sWd w<=1000000000):jA ((F3 k w).e++[.int .i64 k])=some [.int .i64 (lY k w)]:=by
 show jA [.bool w.dk.up,.list ((mks mR k w.dk.lg.rs).map Rec.e),.int .i64 w.dk.lg.f,.list ((mks mW (ens mR k w.dk.lg.rs) w.dk.td).map Word.e),.list ((mks mH (ens mW (ens mR k w.dk.lg.rs) w.dk.td) w.hs).map House.e),.list ((mks mW (ens mH (ens mW (ens mR k w.dk.lg.rs) w.dk.td) w.hs) w.ns).map Word.e),.int .i64 k]=_
 rw[q_cj]
 unfold sWd at h1
 have e1:=ij w.dk.lg.rs k
 have e2:=qc w.dk.td (ens mR k w.dk.lg.rs)
 have e3:=BN w.hs (ens mW (ens mR k w.dk.lg.rs) w.dk.td)
 have e4:=qc w.ns (ens mH (ens mW (ens mR k w.dk.lg.rs) w.dk.td) w.hs)
 have n1:¬ (ens mW (ens mR k w.dk.lg.rs) w.dk.td<0):=by omega
 have n2:¬ (ens mH (ens mW (ens mR k w.dk.lg.rs) w.dk.td) w.hs<0):=by omega
 have n3:¬ (ens mW (ens mH (ens mW (ens mR k w.dk.lg.rs) w.dk.td) w.hs) w.ns<0):=by omega
 have d1:=Km (k:=k) (up:=w.dk.up) (l:=w.dk.lg.rs) (f:=w.dk.lg.f) (td:=w.dk.td) h0 (by omega)
 have d2:=CT (k:=ens mW (ens mR k w.dk.lg.rs) w.dk.td) (l:=w.hs) (by omega) (by omega)
 have d3:=Ak (k:=ens mH (ens mW (ens mR k w.dk.lg.rs) w.dk.td) w.hs) (l:=w.ns) (by omega) (by omega)
 simp (disch:=first|assumption|omega|(simp only[zL];omega)) only[F_cj,d1,d2,d3,n1,n2,n3,if_false,Int.reduceEq,reduceIte,zU,zT,aa]
 rfl
end
end Dx
namespace Dx
open Go
theorem E9:∀ l:List Rec,sR l<=2*nRs l
 | []=>by simp[sR]
 | x::l=>by
  have:=E9 l
  simp only[sR,nRs,oM,List.map_cons,List.sum_cons,List.length_cons]at *;omega
theorem Jw:∀ l:List House,sH l<=4*nHs l
 | []=>by simp[sH]
 | x::l=>by
  have:=Jw l
  have:=E9 x.lg.rs
  simp only[sH,nHs,List.map_cons,List.sum_cons,List.length_cons]at *;omega
theorem zm(w:Wd):sWd w<=4*nWd w:=by
 have:=E9 w.dk.lg.rs
 have:=Jw w.hs
 unfold sWd nWd;omega
theorem WB.ws{w:Wd}(b:WB w):WS w:=⟨⟨⟨b.rs,fun r hr=>by have:=b.m r hr;omega⟩,b.td⟩,fun x hx=>⟨(b.h x hx).1,fun r hr=>by have:=(b.h x hx).2 r hr;omega⟩,b.hs,b.ns⟩
theorem LgOk.wb{l:Log}(h:LgOk l):l.rs.length<=40/\∀ r∈l.rs,r.m.length<=3:=⟨h.len,fun r hr=>dw (h.ok r hr)⟩
theorem rE:∀ {l:List Rec},(∀ r∈l,r.m.length<=3)->oM l<=3*l.length
 | [],_=>by simp[oM]
 | x::l,h=>by
  have:=rE (l:=l) fun r hr=>h r (by simp[hr])
  have:=h x (by simp)
  simp only[oM,List.map_cons,List.sum_cons,List.length_cons]at *;omega
theorem DG:∀ {l:List House},(∀ h∈l,nRs h.lg.rs<=160)->nHo l<=160*l.length
 | [],_=>by simp[nHo]
 | x::l,h=>by
  have:=DG (l:=l) fun r hr=>h r (by simp[hr])
  have:=h x (by simp)
  simp only[nHo,List.map_cons,List.sum_cons,List.length_cons]at *;omega
theorem WOk.wb{w:Wd}(ho:WOk w):WB w/\sWd w<=100000:=by
 have d:=ho.dk.lg.wb
 have td:=ho.dk.tdlen
 have n:=ho.nlen
 have l:=ho.len
 have hh:∀ x∈w.hs,x.lg.rs.length<=40/\∀ r∈x.lg.rs,r.m.length<=3:=fun x hx=>by
  obtain⟨i,hi⟩:=List.mem_iff_getElem?.1 hx
  exact(ho.hs i x hi).1.lg.wb
 refine⟨⟨by omega,fun r hr=>by have:=d.2 r hr;omega,by omega,by omega,fun x hx=>⟨by have:=(hh x hx).1;omega,fun r hr=>by have:=(hh x hx).2 r hr;omega⟩,by omega⟩,?_⟩
 have h1:=rE d.2
 have h2:nHo w.hs<=160*w.hs.length:=DG fun x hx=>by
  have:=rE (hh x hx).2
  have:=(hh x hx).1
  unfold nRs;omega
 have e:nHs w.hs=w.hs.length+nHo w.hs:=rfl
 have:=zm w
 unfold nWd nRs at this
 omega
theorem DH:WB wd0/\sWd wd0<=100000:=by
 refine⟨⟨by simp[wd0],by simp[wd0],by simp[wd0],by simp[wd0],by simp[wd0],by simp[wd0]⟩,by decide⟩
theorem Jx{c:Bool}{w:Wd}(h:c=true->WOk w):WB (if c then w else wd0)/\sWd (if c then w else wd0)<=100000:=by
 cases c with
 | true=>exact(h rfl).wb
 | false=>exact DH
end Dx
namespace Dx
open Go
section
variable {Φ:Phi} {f:Nat} {xs:List Cell} {ks:List CK} {t e b:Tree} {env r cs:List C} {F:List C->Option (List C)} {X:Option (List C)} {a:At} {p:Prim} {v:C}
theorem sc(hΦ:Φ f=F)(h:F cs=some r)(ha:aL env xs=cs)(hk:ai ks r=true)(g:ah (den Φ t (env++r))=X):ah (den Φ (.call f xs ks t) env)=X:=by
 rw[uI,hΦ,ha,h,bB hk];exact g
theorem st(h:(a.den env).toBool=true)(g:ah (den Φ t env)=X):ah (den Φ (.ite a t e) env)=X:=by rw[z6,h];exact g
theorem sf(h:(a.den env).toBool=false)(g:ah (den Φ e env)=X):ah (den Φ (.ite a t e) env)=X:=by rw[z6,h];exact g
theorem sl(h:p.den (aL env xs)=v)(g:ah (den Φ t (env++[v]))=X):ah (den Φ (.letp p xs t) env)=X:=by rw[CI,h];exact g
theorem sj(h:den Φ b env=some (.jump cs))(hk:ai ks cs=true)(g:ah (den Φ t (env++cs))=X):ah (den Φ (.join ks b t) env)=X:=by
 rw[CL,h];simp only[aZ,gr hk];exact g
theorem dc{Y:Option Out}(hΦ:Φ f=F)(h:F cs=some r)(ha:aL env xs=cs)(hk:ai ks r=true)(g:den Φ t (env++r)=Y):den Φ (.call f xs ks t) env=Y:=by
 rw[uI,hΦ,ha,h,bB hk];exact g
theorem dj(h:aL env xs=cs):den Φ (.jump xs) env=some (.jump cs):=by rw[CJ,h]
theorem Al(h:aL env xs=cs):ah (den Φ (.ret xs) env)=some cs:=by rw[FU,h];rfl
end
end Dx
namespace Dx
open Go
def nEv(l:List Ev):Nat:=(l.map fun e=>e.m.length).sum
section
variable {l k:Int}
theorem CU(h0:0<=l)(h1:l<=1048576){a:List Ev}(ha:a.length<=2000000)(hm:∀ r∈a,r.m.length<=2000000):xe [.list (a.map Ev.e),.int .i64 l]=some [.int .i64 (lft l (a.length+nEv a))]:=by
 rw[q_dl]
 by_cases h:l-(a.length:Int)<0
 ·simp (disch:=first|assumption|omega|(simp only[zL];omega)) only[F_dl,List.length_map,wrap64,h,if_true,Int.reduceEq,reduceIte,zU,zT,aa]
  unfold lft;rw[if_neg (by omega)]
 have key:=ak (l:=a) (F:=fun ps=>oA (a.map Ev.e) ((aa ps 0).toInt) ((aa ps 1).toInt)) (enc:=fun i (s:Int)=>[.int .i64 s,.int .i64 i])
  (res:=fun xs _ s=>.ret [.int .i64 (lft s (nEv xs))]) (fun _ s=>0<=s/\s<=1048576) (s:=l-a.length) (by omega) ?_ ?_
 ·simp (disch:=first|assumption|omega|(simp only[zL];omega)) only[F_dl,List.length_map,wrap64,h,if_false,Int.reduceEq,reduceIte,zU,zT,aa]
  have key:am _ [C.int .i64 (l-(a.length:Int)),C.int .i64 0]=_:=key
  rw[key]
  have:=eK l a.length (nEv a) h0
  rw[<-this]
  have e:lft l a.length=l-a.length:=by unfold lft;rw[if_pos (by omega)]
  rw[e,if_neg h];rfl
 ·intro i x xs s hx ⟨hs0,hs1⟩
  have hi:=(List.getElem?_eq_some_iff.1 hx).1
  have hi':(i:Int)<(a.length:Nat):=by omega
  have hz:=Ac (e:=x) hs0 hs1 (hm x (List.mem_of_getElem? hx))
  have hc:=eK s x.m.length (nEv xs) hs0
  have hn:nEv (x::xs)=x.m.length+nEv xs:=by simp[nEv]
  by_cases hneg:lft s x.m.length<0
  ·refine .inr ⟨.ret [.int .i64 (-1)],?_,?_⟩
   ·simp (disch:=first|assumption|omega|(simp only[zL];omega)) only[oA,List.length_map,hi',if_true,mM hx,Ev.e,hz,hneg,Int.reduceEq,reduceIte,zU,zT,aa]
   ·rw[hn,<-hc,if_pos hneg]
  ·refine .inl ⟨lft s x.m.length,?_,⟨by omega,by have:=zg (n:=x.m.length) hs0;omega⟩,?_⟩
   ·simp (disch:=first|assumption|omega|(simp only[zL];omega)) only[oA,List.length_map,hi',if_true,mM hx,Ev.e,hz,hneg,if_false,ap,Int.reduceEq,reduceIte,zU,zT,aa]
   ·rw[hn,<-hc,if_neg hneg]
 ·intro s ⟨hs0,hs1⟩
  have h:¬ ((a.length:Int)<(a.length:Nat)):=by omega
  simp (disch:=first|assumption|omega|(simp only[zL];omega)) only[oA,List.length_map,h,if_false,Int.reduceEq,reduceIte,zU,zT,aa]
  unfold lft;rw[if_pos (by simp[nEv];omega)];simp[nEv]
theorem F5(a b c:Int)(d:List (List C))(f:List C->Option Out):ac (some [.int .i64 a,.int .i64 b,.int .i64 c,.list d]) [.int .i64,.int .i64,.int .i64,.list] f=f [.int .i64 a,.int .i64 b,.int .i64 c,.list d]:=rfl
theorem CV{l:List Ev}(hl:l.length<=2000000)(hm:∀ r∈l,r.m.length<=2000000):xf [.list (l.map Ev.e)]=some [.list (l.map Ev.e)]:=by
 rw[q_dn]
 have hb:(((l.length:Nat):Int)==((l.length:Nat):Int))=true:=by simp
 simp (disch:=first|assumption|omega|(simp only[zL];omega)) only[F_dn,List.length_map,hb,Int.toNat_natCast,Int.reduceEq,reduceIte,zU,zT,aa]
 have key:=gX (e:=Ev.e) (l:=l) (F:=fun ps=>sZ (l.map Ev.e) ((aa ps 0).toInt) ((aa ps 1).toList)) ev0 (o:=.ret [.list (l.map Ev.e)]) ?_ ?_
 ·have key:am _ [C.int .i64 0,.list (List.replicate l.length [C.int .i64 0,C.int .i64 0,C.int .i64 0,C.list []])]=_:=key
  rw[key];rfl
 ·intro i x s hx hs
  have hi:=(List.getElem?_eq_some_iff.1 hx).1
  have hi':(i:Int)<(l.length:Nat):=by omega
  have hi2:(i:Int)<(s.length:Nat):=by omega
  have hi0:(0:Int)<=i:=by omega
  have hc:=Af (hm x (List.mem_of_getElem? hx))
  have hsx:s[i]?=some s[i]:=List.getElem?_eq_getElem (by omega)
  have hse:(s.map Ev.e).set i [.int .i64 x.k,.int .i64 x.a,.int .i64 x.b,.list (x.m.map eI)]=(s.set i x).map Ev.e:=by rw[List.map_set];rfl
  simp (disch:=first|assumption|omega|(simp only[zL];omega)) only[sZ,List.length_map,hi',if_true,mM hx,mM hsx,eqD,hse,Ev.e,hc,F5,hi0,hi2,decide_true,Bool.and_self,Int.toNat_natCast,ap,Int.reduceEq,reduceIte,zU,zT,aa]
 ·have h:¬ ((l.length:Int)<(l.length:Nat)):=by omega
  simp (disch:=first|assumption|omega|(simp only[zL];omega)) only[sZ,List.length_map,h,if_false,Int.reduceEq,reduceIte,zU,zT,aa]
end
theorem CW{l:List Ev}(hl:l.length<=2000000)(hm:∀ r∈l,r.m.length<=2000000):xo [.list (l.map Ev.e),.list (l.map Ev.e)]=some [.bool true]:=by
 rw[q_dx]
 have key:=ak (l:=l) (F:=fun ps=>s9 (l.map Ev.e) (l.map Ev.e) ((aa ps 0).toInt)) (enc:=fun i (_:Unit)=>[.int .i64 i]) (res:=fun _ _ _=>.ret [.bool true]) (fun _ _=>True) (s:=()) trivial ?_ ?_
 ·simp (disch:=first|assumption|omega|(simp only[zL];omega)) only[F_dx,List.length_map,Int.reduceEq,reduceIte,zU,zT,aa]
  have key:am _ [C.int .i64 0]=_:=key
  simp only[if_true,key]
  rfl
 ·intro i x xs s hx _
  have hi:=(List.getElem?_eq_some_iff.1 hx).1
  have hi':(i:Int)<(l.length:Nat):=by omega
  have hc:=Ah (hm x (List.mem_of_getElem? hx))
  refine .inl ⟨(),?_,trivial,rfl⟩
  simp (disch:=first|assumption|omega|(simp only[zL];omega)) only[s9,List.length_map,hi',if_true,mM hx,Ev.e,hc,Bool.not_true,ap,Int.reduceEq,reduceIte,zU,zT,aa]
 ·intro s hs
  have h:¬ ((l.length:Int)<(l.length:Nat)):=by omega
  simp (disch:=first|assumption|omega|(simp only[zL];omega)) only[s9,List.length_map,h,if_false,Int.reduceEq,reduceIte,zU,zT,aa]
def mE(k:Int)(e:Ev):Ev×Int:=(⟨k,k+1,k+2,mks mI (k+3) e.m⟩,ens mI (k+3) e.m)
def sE(l:List Ev):Nat:=(l.map fun e=>3+e.m.length).sum
theorem DI:∀ l:List Ev,3*l.length<=sE l
 | []=>by simp
 | x::l=>by
  have:=DI l
  simp only[sE,List.map_cons,List.sum_cons,List.length_cons]at *;omega
theorem Jy:∀(l:List Ev) (k:Int),ens mE k l=k+sE l
 | [],k=>by simp[ens,sE]
 | x::l,k=>by simp only[ens,mE,Jy l,lG,sE,List.map_cons,List.sum_cons];omega
theorem CX{k:Int}{l:List Ev}(h0:0<=k)(h1:k+sE l<=1000000000):xp [.list (l.map Ev.e),.int .i64 k]=some [.int .i64 (ens mE k l),.list ((mks mE k l).map Ev.e)]:=by
 rw[q_bq]
 show ah (am _ [.int .i64 k,.int .i64 0,.list (l.map Ev.e)])=_
 rw[gY (m:=mE) (fun k l=>0<=k/\k+sE l<=1000000000) ⟨h0,h1⟩ (fun k x xs h=>by simp only[mE,lG,sE,List.map_cons,List.sum_cons]at *;omega)]
 ·rfl
 ·intro i x k s xs hx hsx hs hb
  have hi:=(List.getElem?_eq_some_iff.1 hx).1
  have hi':(i:Int)<(s.length:Nat):=by omega
  have hi0:(0:Int)<=i:=by omega
  have hL:=DI l
  have hb2:0<=k/\k+(3+x.m.length)<=1000000000:=by simp only[sE,List.map_cons,List.sum_cons]at hb;omega
  have w2:k+1+1=k+2:=by omega
  have w3:k+2+1=k+3:=by omega
  have hc:=tj (k:=k+3) (l:=x.m) (by omega) (by omega)
  have hse:(s.map Ev.e).set i [.int .i64 k,.int .i64 (k+1),.int .i64 (k+2),.list ((mks mI (k+3) x.m).map eI)]=(s.set i ⟨k,k+1,k+2,mks mI (k+3) x.m⟩).map Ev.e:=by rw[List.map_set];rfl
  simp (disch:=first|assumption|omega|(simp only[zL];omega)) only[za,List.length_map,hi',hi0,if_true,decide_true,Bool.and_self,Int.toNat_natCast,mM hsx,Ev.e,eqD,w2,w3,hc,hse,wrap64,mE,Int.reduceEq,reduceIte,zU,zT,aa]
  rfl
 ·intro k s hs
  have h:¬ ((l.length:Int)<(s.length:Nat)):=by omega
  simp (disch:=first|assumption|omega|(simp only[zL];omega)) only[za,List.length_map,h,if_false,Int.reduceEq,reduceIte,zU,zT,aa]
end Dx
