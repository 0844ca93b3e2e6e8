import Derived.Test.YtkpnlbinfagpcaaGreatZa
set_option linter.all false
namespace Dx
open Go
structure WS (w:Wd):Prop where
 dk:DkS w.dk
 hs:∀ x∈w.hs,LgS x.lg
 hl:w.hs.length<=2000000
 nl:w.ns.length<=2000000
theorem WOk.ws{w:Wd}(h:WOk w):WS w:=⟨h.dk.S,fun x hx=>by
 obtain⟨i,hi⟩:=List.getElem?_of_mem hx
 exact(h.hs i x hi).1.lg.S,by have:=h.len;omega,by have:=h.nlen;omega⟩
section
variable {up b:Bool} {rs:List Rec} {f:Int} {td:List Word} {k h t m:Int} {id room:Int} {hs:List House} {ns:List Word} {w:Wd}
theorem Ab(hl:LgS ⟨rs,f⟩):pu [.list (rs.map Rec.e),.int .i64 f]=some [.bool (fC ⟨rs,f⟩)]:=by
 rw[q_hi]
 have h1:=hl.1
 simp only at h1
 unfold F_hi
 refine Eq.trans (congrArg ah (ak (l:=rs) (enc:=fun i (_:Unit)=>[.int .i64 i]) (res:=fun xs _ _=>.ret [.bool (xs.all aD && (decide (rs.length<=40) && in_ f 0 rs.length))]) (fun _ _=>True) (s:=()) trivial ?_ ?_)) rfl
 ·intro i x xs _ hx _
  have hi:=(List.getElem?_eq_some_iff.1 hx).1
  have hi':(i:Int)<(rs.length:Nat):=by omega
  have hm:x.m.length<=1099511627776:=hl.2 x (List.mem_of_getElem? hx)
  simp only[aa,C.toInt_int]
  unfold yD
  simp (disch:=first|assumption|omega|(simp only[zL];omega)) only[fF hx,Rec.e,hi',if_true,mG hm,ap,Int.reduceEq,reduceIte,zU,zT,aa]
  cases hr:aD x with
  | true=>exact .inl ⟨(),rfl,trivial,by simp[hr]⟩
  | false=>exact .inr ⟨_,rfl,by simp[hr]⟩
 ·intro _ _
  have h:¬ ((rs.length:Int)<(rs.length:Nat)):=by omega
  simp only[aa,C.toInt_int]
  unfold yD
  by_cases h40:((rs.length:Nat):Int)<=40
  ·have h40':rs.length<=40:=by omega
   simp (disch:=first|assumption|omega|(simp only[zL];omega)) only[h,if_false,h40,h40',if_true,bC,decide_true,Bool.true_and,List.all_nil,Int.reduceEq,reduceIte,zU,zT,aa]
  ·have h40':¬ (rs.length<=40):=by omega
   simp (disch:=first|assumption|omega|(simp only[zL];omega)) only[h,if_false,h40,h40',decide_false,Bool.false_and,Bool.and_false,Int.reduceEq,reduceIte,zU,zT,aa]
theorem CS(hs:DkS ⟨up,⟨rs,f⟩,td⟩):vJ [.bool up,.list (rs.map Rec.e),.int .i64 f,.list (td.map Word.e)]=some [.bool (dv ⟨up,⟨rs,f⟩,td⟩)]:=by
 rw[q_gr]
 have hS:LgS ⟨rs,f⟩:=hs.lg
 have htd:td.length<=2000000:=by have:=hs.td;simp only at this;omega
 have h12:=zY (rs:=rs) hS.1 hS.2
 unfold dv
 simp only
 simp (disch:=first|assumption|omega|(simp only[zL];omega)) only[F_gr,h12,Ab hS,Int.reduceEq,reduceIte,zU,zT,aa]
 cases hlo:fC ⟨rs,f⟩with
 | false=>simp only[aF,Bool.false_and,aG]
 | true =>
  simp only[aI,Bool.true_and]
  cases htr:aS rs with
  | none=>simp only[Option.isSome_none,aF,aG]
  | some l =>
   simp only[Option.isSome_some,aI,Option.getD_some]
   have hl6:l.length<=6:=(iS htr).len
   refine Eq.trans (congrArg ah (ak (l:=td) (enc:=fun i (_:Unit)=>[.int .i64 i]) (res:=fun xs i _=>.ret [.bool (dl l.length (td.take i) xs && (up || td.isEmpty))]) (fun _ _=>True) (s:=()) trivial ?_ ?_)) rfl
   ·intro i x xs _ hx _
    have hi:=(List.getElem?_eq_some_iff.1 hx).1
    have hi':(i:Int)<(td.length:Nat):=by omega
    have hil:(i:Int)<=(td.length:Nat):=by omega
    have hi0:(0:Int)<=(i:Int):=by omega
    have htk:(td.map Word.e).take ((i:Int).toNat)=(td.take i).map Word.e:=by rw[Int.toNat_natCast,List.map_take]
    have htn:td.take (i+1)=td.take i++[x]:=by rw[List.take_add_one,hx];rfl
    have hl1:(td.take i).length<=1099511627775:=by rw[List.length_take];omega
    simp only[aa,C.toInt_int]
    unfold yE
    simp (disch:=first|assumption|omega|(simp only[zL];omega)) only[gH hx,Word.e,hi',if_true,jL,hi0,hil,decide_true,Bool.and_self,htk,fI hl1,ap,Int.reduceEq,reduceIte,zU,zT,aa]
    cases hw:bj x with
    | false =>
     refine .inr ⟨_,rfl,?_⟩
     simp[dl,hw]
    | true =>
     simp only[aI]
     by_cases h4:x.k<4
     ·refine .inr ⟨_,by simp only[h4,if_true];rfl,?_⟩
      have:¬ (4<=x.k):=by omega
      simp[dl,this]
     ·simp only[h4,if_false]
      by_cases htt:x.t>(l.length:Nat)
      ·refine .inr ⟨_,by simp only[htt,if_true];rfl,?_⟩
       have:¬ (x.t<=(l.length:Nat)):=by omega
       simp[dl,this]
      ·simp only[htt,if_false]
       cases hc:(td.take i).contains x with
       | true =>
        refine .inr ⟨_,rfl,?_⟩
        simp only[dl,hc,Bool.not_true,Bool.and_false,Bool.false_and]
       | false =>
        refine .inl ⟨(),rfl,trivial,?_⟩
        have g4:x.k>=4:=by omega
        have gt:x.t<=(l.length:Nat):=by omega
        simp only[dl,hw,hc,g4,gt,decide_true,Bool.and_true,Bool.not_false,Bool.true_and,htn]
   ·intro _ _
    have h:¬ ((td.length:Int)<(td.length:Nat)):=by omega
    simp only[aa,C.toInt_int]
    unfold yE
    have he:(((td.length:Nat):Int)==0)=td.isEmpty:=by cases td<;>simp;omega
    simp (disch:=first|assumption|omega|(simp only[zL];omega)) only[h,if_false,he,dl,Bool.true_and,Int.reduceEq,reduceIte,zU,zT,aa]
    cases up<;>rfl
theorem BF(hl:LgS ⟨rs,f⟩):vM [.int .i64 id,.bool up,.int .i64 room,.list (rs.map Rec.e),.int .i64 f]=some [.bool (cE ⟨id,up,room,⟨rs,f⟩⟩)]:=by
 rw[q_fe]
 have h2:=DA (room:=room) (rs:=rs) hl.1 hl.2
 simp only[Stock.e,List.cons_append,List.nil_append]at h2
 unfold cE
 simp (disch:=first|assumption|omega|(simp only[zL];omega)) only[F_fe,h2,bC,Ab hl,Int.reduceEq,reduceIte,zU,zT,aa]
 cases in_ id 1 3 with
 | false=>rfl
 | true=>cases fC ⟨rs,f⟩<;>rfl
theorem BG(hL:ns.length<=2000000):am (fun ps=>sr (ns.map Word.e) ((aa ps 0).toInt)) [.int .i64 0]=some (.ret [.bool (ns.all bj)]):=by
 refine ak (l:=ns) (enc:=fun i (_:Unit)=>[.int .i64 i]) (res:=fun xs _ _=>.ret [.bool (xs.all bj)]) (fun _ _=>True) (s:=()) trivial ?_ ?_
 ·intro i x xs _ hx _
  have hi:=(List.getElem?_eq_some_iff.1 hx).1
  have hi':(i:Int)<(ns.length:Nat):=by omega
  simp only[aa,C.toInt_int]
  unfold sr
  simp (disch:=first|assumption|omega|(simp only[zL];omega)) only[gH hx,Word.e,hi',if_true,jL,ap,Int.reduceEq,reduceIte,zU,zT,aa]
  cases hr:bj x with
  | true=>exact .inl ⟨(),rfl,trivial,by simp[hr]⟩
  | false=>exact .inr ⟨_,rfl,by simp[hr]⟩
 ·intro _ _
  have h:¬ ((ns.length:Int)<(ns.length:Nat)):=by omega
  simp only[aa,C.toInt_int]
  unfold sr
  simp (disch:=first|assumption|omega|(simp only[zL];omega)) only[h,if_false,Int.reduceEq,reduceIte,zU,zT,aa]
  rfl
theorem qE(hw:WS w):px [.bool w.dk.up,.list (w.dk.lg.rs.map Rec.e),.int .i64 w.dk.lg.f,.list (w.dk.td.map Word.e),.list (w.hs.map House.e),.list (w.ns.map Word.e)]=some [.bool (bW w)]:=by
 rw[q_ef]
 obtain⟨⟨up,⟨rs,f⟩,td⟩,hs,ns⟩:=w
 have hd:DkS ⟨up,⟨rs,f⟩,td⟩:=hw.dk
 have hhs:=hw.hs
 have hhl:=hw.hl
 have hnl:=hw.nl
 simp only at hhs hhl hnl
 unfold bW
 simp only
 simp (disch:=first|assumption|omega|(simp only[zL];omega)) only[F_ef,CS hd,Int.reduceEq,reduceIte,zU,zT,aa]
 cases dv ⟨up,⟨rs,f⟩,td⟩with
 | false=>rfl
 | true =>
  simp only[aI,Bool.true_and]
  by_cases h3:((hs.length:Nat):Int)=3
  ·have h3':hs.length=3:=by omega
   have h3b:(hs.length==3)=true:=by simp[h3']
   simp only[h3,if_true,h3b,Bool.true_and]
   by_cases h14:((ns.length:Nat):Int)>14
   ·have h14':¬ (ns.length<=14):=by omega
    simp[h14,h14']
   ·have h14':ns.length<=14:=by omega
    simp only[h14,h14',if_false,decide_true,Bool.true_and]
    refine Eq.trans (congrArg ah (ak (l:=hs) (enc:=fun i (_:Unit)=>[.int .i64 i]) (res:=fun xs i _=>.ret [.bool (xs.all cE && ((xs.zipIdx (i+1)).all (fun p=>p.1.id==(p.2:Int)) && ns.all bj))]) (fun _ _=>True) (s:=()) trivial ?_ ?_)) rfl
    ·intro i x xs _ hx _
     have hi:=(List.getElem?_eq_some_iff.1 hx).1
     have hi':(i:Int)<((3:Nat):Int):=by omega
     have hxl:LgS ⟨x.lg.rs,x.lg.f⟩:=hhs x (List.mem_of_getElem? hx)
     simp only[aa,C.toInt_int]
     unfold yF
     simp (disch:=first|assumption|omega|(simp only[zL];omega)) only[dV hx,House.e,h3',h3,hi',if_true,BF hxl,ap,Int.reduceEq,reduceIte,zU,zT,aa]
     cases hr:cE x with
     | false=>exact .inr ⟨_,rfl,by simp[hr]⟩
     | true =>
      simp only[aI]
      by_cases hid:x.id=((i+1:Nat):Int)
      ·refine .inl ⟨(),by simp only[hid,if_true],trivial,?_⟩
       have:(x.id==((i+1:Nat):Int))=true:=by simpa using hid
       simp only[List.all_cons,hr,Bool.true_and,List.zipIdx_cons,this]
      ·refine .inr ⟨_,by simp only[hid,if_false];rfl,?_⟩
       have:(x.id==((i+1:Nat):Int))=false:=by simpa using hid
       simp only[List.all_cons,hr,Bool.true_and,List.zipIdx_cons,this,Bool.false_and,Bool.and_false]
    ·intro _ _
     have h:¬ ((hs.length:Int)<(hs.length:Nat)):=by omega
     simp only[aa,C.toInt_int]
     unfold yF
     simp (disch:=first|assumption|omega|(simp only[zL];omega)) only[h,if_false,BG hnl,Int.reduceEq,reduceIte,zU,zT,aa]
     simp
  ·have h3b:(hs.length==3)=false:=by simp;omega
   simp only[h3,if_false,aF,aI,h3b,Bool.false_and,aG]
end
end Dx
namespace Dx
open Go
section
variable {up b:Bool} {rs:List Rec} {f:Int} {td:List Word} {k h t m:Int} {id room:Int} {hs:List House} {ns:List Word} {w:Wd}
theorem iX(hw:WS w):mi [.bool w.dk.up,.list (w.dk.lg.rs.map Rec.e),.int .i64 w.dk.lg.f,.list (w.dk.td.map Word.e),.list (w.hs.map House.e),.list (w.ns.map Word.e)]=some [.bool (bW w)]:=by
 rw[q_fs]
 obtain⟨⟨up,⟨rs,f⟩,td⟩,hs,ns⟩:=w
 have hd:DkS ⟨up,⟨rs,f⟩,td⟩:=hw.dk
 have hhs:=hw.hs
 have hhl:=hw.hl
 have hnl:=hw.nl
 simp only at hhs hhl hnl
 unfold bW
 simp only
 simp (disch:=first|assumption|omega|(simp only[zL];omega)) only[F_fs,dq hd,Int.reduceEq,reduceIte,zU,zT,aa]
 cases dv ⟨up,⟨rs,f⟩,td⟩with
 | false=>rfl
 | true =>
  simp only[aI,Bool.true_and]
  by_cases h3:((hs.length:Nat):Int)=3
  ·have h3':hs.length=3:=by omega
   have h3b:(hs.length==3)=true:=by simp[h3']
   simp only[h3,if_true,h3b,Bool.true_and]
   by_cases h14:((ns.length:Nat):Int)>14
   ·have h14':¬ (ns.length<=14):=by omega
    simp[h14,h14']
   ·have h14':ns.length<=14:=by omega
    simp only[h14,h14',if_false,decide_true,Bool.true_and]
    have key:=ak (l:=hs) (F:=fun ps=>lM (hs.map House.e) (ns.map Word.e) 3 ((aa ps 0).toInt)) (enc:=fun i (_:Unit)=>[.int .i64 i]) (res:=fun xs i _=>.ret [.bool (xs.all cE && ((xs.zipIdx (i+1)).all (fun p=>p.1.id==(p.2:Int)) && ns.all bj))]) (fun _ _=>True) (s:=()) trivial ?_ ?_
    ·refine Eq.trans (congrArg ah key) rfl
    ·intro i x xs _ hx _
     have hi:=(List.getElem?_eq_some_iff.1 hx).1
     have hi':(i:Int)<3:=by omega
     have hxl:LgS ⟨x.lg.rs,x.lg.f⟩:=hhs x (List.mem_of_getElem? hx)
     simp only[aa,C.toInt_int]
     unfold lM
     simp (disch:=first|assumption|omega|(simp only[zL];omega)) only[dV hx,House.e,hi',if_true,ej hxl,ap,Int.reduceEq,reduceIte,zU,zT,aa]
     cases hr:cE x with
     | false=>exact .inr ⟨_,rfl,by simp[hr]⟩
     | true =>
      simp only[aI]
      by_cases hid:x.id=((i+1:Nat):Int)
      ·refine .inl ⟨(),by simp only[hid,if_true],trivial,?_⟩
       have:(x.id==((i+1:Nat):Int))=true:=by simpa using hid
       simp only[List.all_cons,hr,Bool.true_and,List.zipIdx_cons,this]
      ·refine .inr ⟨_,by simp only[hid,if_false];rfl,?_⟩
       have:(x.id==((i+1:Nat):Int))=false:=by simpa using hid
       simp only[List.all_cons,hr,Bool.true_and,List.zipIdx_cons,this,Bool.false_and,Bool.and_false]
    ·intro _ _
     have h:¬ ((3:Int)<3):=by omega
     have hall:(!(ns.any fun x=>!bj x))=ns.all bj:=by simp[List.all_eq_not_any_not]
     simp only[aa,C.toInt_int]
     unfold lM
     simp (disch:=first|assumption|omega|(simp only[zL];omega)) only[h3,h,if_false,qA,Int.reduceEq,reduceIte,zU,zT,aa]
     rw[<-hall];simp
  ·have h3b:(hs.length==3)=false:=by simp;omega
   simp only[h3,if_false,aF,aI,h3b,Bool.false_and,aG]
theorem xW(hw:WS w){e:Ev}(he:EvS e) :
  sQ [.bool w.dk.up,.list (w.dk.lg.rs.map Rec.e),.int .i64 w.dk.lg.f,.list (w.dk.td.map Word.e),.list (w.hs.map House.e),.list (w.ns.map Word.e),.int .i64 e.k,.int .i64 e.a,.int .i64 e.b,.list (e.m.map eI)]=some (if bW w then wdo w e else wd0).e:=by
 cases hok:bW w with
 | true=>rw[if_pos rfl];exact BE (worldOk_iff.1 hok) (by unfold EvS at he;omega)
 | false =>
  rw[q_ex]
  unfold F_ex
  rw[iX hw,hok]
  rfl
theorem rh(hw:WS w){r:Int} :
  s5 [.bool w.dk.up,.list (w.dk.lg.rs.map Rec.e),.int .i64 w.dk.lg.f,.list (w.dk.td.map Word.e),.list (w.hs.map House.e),.list (w.ns.map Word.e),.int .i64 r]=some (if bW w && in_ r 0 9 then iQ w r.toNat else wd0).e:=by
 cases hok:bW w with
 | true =>
  cases hr:in_ r 0 9 with
  | true=>exact uf (worldOk_iff.1 hok) (in_iff.1 hr)
  | false =>
   rw[q_cf]
   unfold Jj
   rw[iX hw,hok]
   simp only[ry,aa,C.toBool_bool,Bool.not_true,aF,j8,hr]
   rfl
 | false =>
  rw[q_cf]
  unfold Jj
  rw[iX hw,hok]
  rfl
theorem ug{ms:List Int}(hm:ms.length<=1099511627776):vN [.int .i64 k,.int .i64 t,.list (ms.map eI)]=some [.int .i64 k,.int .i64 t,.list (ms.map eI)]:=by
 rw[q_cj]
 simp (disch:=first|assumption|omega|(simp only[zL];omega)) only[F_cj,Int.reduceEq,reduceIte,zU,zT,aa]
theorem uM(hl:LgS ⟨rs,f⟩):py [.list (rs.map Rec.e),.int .i64 f]=some [.list (rs.map Rec.e),.int .i64 f]:=by
 rw[q_gp]
 have h1:=hl.1
 simp only at h1
 unfold F_gp
 refine Eq.trans (congrArg ah (ak (l:=rs) (enc:=fun i (s:List Rec)=>[.int .i64 i,.list (s.map Rec.e)]) (res:=fun xs _ s=>.ret [.list ((s++xs).map Rec.e),.int .i64 f]) (fun i s=>s.length=i) (s:=[]) rfl ?_ ?_)) rfl
 ·intro i x xs s hx hs
  have hi:=(List.getElem?_eq_some_iff.1 hx).1
  have hi':(i:Int)<(rs.length:Nat):=by omega
  have hm:x.m.length<=1099511627776:=hl.2 x (List.mem_of_getElem? hx)
  have hc:s.length+1<=1099511627776:=by omega
  simp only[aa,C.toInt_int,C.toList_list]
  unfold yG
  simp (disch:=first|assumption|omega|(simp only[zL];omega)) only[fF hx,Rec.e,hi',if_true,ug hm,hc,ap,Int.reduceEq,reduceIte,zU,zT,aa]
  refine .inl ⟨s++[x],?_,by simp[hs],by simp⟩
  simp[Rec.e]
 ·intro s _
  have h:¬ ((rs.length:Int)<(rs.length:Nat)):=by omega
  simp only[aa,C.toInt_int,C.toList_list]
  unfold yG
  simp (disch:=first|assumption|omega|(simp only[zL];omega)) only[h,if_false,Int.reduceEq,reduceIte,zU,zT,aa]
  simp
theorem BH(hl:LgS ⟨rs,f⟩):vP [.int .i64 id,.bool up,.int .i64 room,.list (rs.map Rec.e),.int .i64 f]=some [.int .i64 id,.bool up,.int .i64 room,.list (rs.map Rec.e),.int .i64 f]:=by
 rw[q_eq]
 simp (disch:=first|assumption|omega|(simp only[zL];omega)) only[F_eq,uM hl,Int.reduceEq,reduceIte,zU,zT,aa]
theorem BI(hd:DkS ⟨up,⟨rs,f⟩,td⟩):vO [.bool up,.list (rs.map Rec.e),.int .i64 f,.list (td.map Word.e)]=some [.bool up,.list (rs.map Rec.e),.int .i64 f,.list (td.map Word.e)]:=by
 rw[q_ew]
 have htd:td.length<=1099511627776:=by have:=hd.td;simp only at this;omega
 have hl:LgS ⟨rs,f⟩:=hd.lg
 simp (disch:=first|assumption|omega|(simp only[zL];omega)) only[F_ew,uM hl,htd,Int.reduceEq,reduceIte,zU,zT,aa]
theorem qF(hw:WS w):pz [.bool w.dk.up,.list (w.dk.lg.rs.map Rec.e),.int .i64 w.dk.lg.f,.list (w.dk.td.map Word.e),.list (w.hs.map House.e),.list (w.ns.map Word.e)]=some w.e:=by
 rw[q_eg]
 have hd:DkS ⟨w.dk.up,⟨w.dk.lg.rs,w.dk.lg.f⟩,w.dk.td⟩:=hw.dk
 have hnl:=hw.nl
 have hhl:=hw.hl
 simp (disch:=first|assumption|omega|(simp only[zL];omega)) only[F_eg,BI hd,Dq,Int.reduceEq,reduceIte,zU,zT,aa]
 have key:=ak (l:=w.hs) (F:=fun ps=>ss (w.hs.map House.e) w.dk.up w.dk.lg.f (w.dk.lg.rs.map Rec.e) (w.dk.td.map Word.e) (w.ns.map Word.e) ((aa ps 0).toInt) ((aa ps 1).toList)) (enc:=fun i (s:List House)=>[.int .i64 i,.list (s.map House.e)])
  (res:=fun xs _ s=>.ret [.bool w.dk.up,.list (w.dk.lg.rs.map Rec.e),.int .i64 w.dk.lg.f,.list (w.dk.td.map Word.e),.list ((s++xs).map House.e),.list (w.ns.map Word.e)]) (fun i s=>s.length=i) (s:=[]) rfl ?_ ?_
 ·have key:am _ [C.int .i64 0,C.list []]=_:=key
  rw[key];rfl
 ·intro i x xs s hx hs
  have hi:=(List.getElem?_eq_some_iff.1 hx).1
  have hi':(i:Int)<(w.hs.length:Nat):=by omega
  have hxl:LgS ⟨x.lg.rs,x.lg.f⟩:=hw.hs x (List.mem_of_getElem? hx)
  have hc:s.length+1<=1099511627776:=by omega
  simp (disch:=first|assumption|omega|(simp only[zL];omega)) only[ss,dV hx,House.e,BH hxl,ap,hi',hc,if_true,Int.reduceEq,reduceIte,zU,zT,aa]
  exact .inl ⟨s++[x],by simp[House.e],by simp[hs],by simp⟩
 ·intro s hs
  have h:¬ ((w.hs.length:Int)<(w.hs.length:Nat)):=by omega
  simp (disch:=first|assumption|omega|(simp only[zL];omega)) only[ss,h,if_false,Int.reduceEq,reduceIte,zU,zT,aa]
  simp
theorem xX(hw:WS w){e:Ev}(he:EvS e) :
  vW [.bool w.dk.up,.list (w.dk.lg.rs.map Rec.e),.int .i64 w.dk.lg.f,.list (w.dk.td.map Word.e),.list (w.hs.map House.e),.list (w.ns.map Word.e),.int .i64 e.k,.int .i64 e.a,.int .i64 e.b,.list (e.m.map eI)]=some (if bW w then wdo w e else wd0).e:=by
 rw[q_fi]
 unfold F_fi
 rw[qE hw]
 cases hok:bW w with
 | false=>rfl
 | true =>
  simp only[ry,aa,C.toBool_bool,Bool.not_true,aF,if_true]
  rw[qF hw]
  simp only[Wd.e,bE,aa,C.toInt_int,C.toList_list,C.toBool_bool]
  rw[uH (worldOk_iff.1 hok) he]
  simp only[Wd.e,bE,aa,C.toInt_int,C.toList_list,C.toBool_bool]
  rfl
end
end Dx
namespace Dx
open Go
section
variable {w:Wd}
theorem BJ(ho:WOk w) :
  xb [.bool w.dk.up,.list (w.dk.lg.rs.map Rec.e),.int .i64 w.dk.lg.f,.list (w.dk.td.map Word.e),.list (w.hs.map House.e),.list (w.ns.map Word.e)]=some (c7 w).e:=by
 rw[q_ej]
 unfold F_ej
 have L0:∀ w:Wd,WOk w->am (fun ps=>sW ((aa ps 0).toInt) ((aa ps 1).toBool) ((aa ps 2).toInt) ((aa ps 3).toList) ((aa ps 4).toList) ((aa ps 5).toList) ((aa ps 6).toList))
   [.int .i64 0,.bool w.dk.up,.int .i64 w.dk.lg.f,.list (w.dk.lg.rs.map Rec.e),.list (w.dk.td.map Word.e),.list (w.hs.map House.e),.list (w.ns.map Word.e)]=some (.ret (aQ w).e):=by
  intro w ow
  rw[<-qD ow]
  refine ak (l:=([0,1,2,3]:List Int)) (enc:=fun i (w:Wd)=>[.int .i64 i,.bool w.dk.up,.int .i64 w.dk.lg.f,.list (w.dk.lg.rs.map Rec.e),.list (w.dk.td.map Word.e),.list (w.hs.map House.e),.list (w.ns.map Word.e)]) (res:=fun xs _ w=>.ret (xs.foldl cu w).e) (fun _ w=>WOk w) (s:=w) ow ?_ ?_
  ·intro i x xs w hx ow
   have hi:(i:Int)<=3/\x=(i:Int):=by
    have:=(List.getElem?_eq_some_iff.1 hx).1
    simp at this
    have h4:i=0\/i=1\/i=2\/i=3:=by omega
    rcases h4 with e|e|e|e<;>subst e<;>simp at hx<;>subst hx<;>simp
   obtain⟨hi,rfl⟩:=hi
   have he:=mN (up:=w.dk.up) (rs:=w.dk.lg.rs) (f:=w.dk.lg.f) (td:=w.dk.td) (hs:=w.hs) (ns:=w.ns) ow.len (fun x hx=>by have:=(ow.ws.hs x hx).1;exact this) (i:=(i:Int)) ⟨by omega,hi⟩
   refine .inl ⟨cu w i,?_,ow.forceEv _,rfl⟩
   simp only[aa,C.toInt_int,C.toBool_bool,C.toList_list]
   unfold sW
   simp only[aK,hi,if_true,he]
   simp only[jI,jJ,iv]
   simp only[Wd.e,bE,aa,C.toInt_int,C.toList_list,C.toBool_bool]
   rw[ap (by omega)]
  ·intro w ow
   have h:¬ (((4:Nat):Int)<=3):=by omega
   simp only[List.length_cons,List.length_nil,Wd.e,aa,C.toInt_int,C.toBool_bool,C.toList_list]
   unfold sW
   simp only[aK,h,if_false]
   rfl
 have L1:∀(l:List Word) (w:Wd),l.length<=1000->WOk w->(∀ x∈l,WdOk x)->am (fun ps=>sX (l.map Word.e) ((aa ps 0).toInt) ((aa ps 1).toBool) ((aa ps 2).toInt) ((aa ps 3).toList) ((aa ps 4).toList) ((aa ps 5).toList) ((aa ps 6).toList))
   [.int .i64 0,.bool w.dk.up,.int .i64 w.dk.lg.f,.list (w.dk.lg.rs.map Rec.e),.list (w.dk.td.map Word.e),.list (w.hs.map House.e),.list (w.ns.map Word.e)]=some (.ret (aQ (cg w l)).e):=by
  intro l w hl ow hw
  refine ak (l:=l) (enc:=fun i (w:Wd)=>[.int .i64 i,.bool w.dk.up,.int .i64 w.dk.lg.f,.list (w.dk.lg.rs.map Rec.e),.list (w.dk.td.map Word.e),.list (w.hs.map House.e),.list (w.ns.map Word.e)]) (res:=fun xs _ w=>.ret (aQ (cg w xs)).e) (fun _ w=>WOk w) (s:=w) ow ?_ ?_
  ·intro i x xs w hx ow
   have hi:=(List.getElem?_eq_some_iff.1 hx).1
   have hi':(i:Int)<(l.length:Nat):=by omega
   have hxo:=hw x (List.mem_of_getElem? hx)
   have htd:∀ {v:Wd},WOk v->v.dk.td.length<=1099511627774:=fun h=>by have:=h.dk.tdlen;omega
   have hhe:=kz (up:=w.dk.up) (rs:=w.dk.lg.rs) (f:=w.dk.lg.f) (td:=w.dk.td) (hs:=w.hs) (ns:=w.ns) (k:=x.k) (h:=x.h) (t:=x.t) (m:=x.m) ow (htd ow) hxo
   have o2:=ow.hear hxo
   refine .inl ⟨aX w x,?_,ow.hear2 hxo,rfl⟩
   simp only[aa,C.toInt_int,C.toBool_bool,C.toList_list]
   unfold sX
   have hd:(decide ((0:Int)<=(i:Int)) && decide ((i:Int)<(((l.map Word.e).length:Nat):Int)))=true:=by simp;omega
   rw[zh (by omega) (by simpa using hx)]
   simp only[List.length_map]at hd
   simp only[List.length_map,aK,hi',if_true,hd,dP,Word.e,aa,C.toInt_int,hhe]
   simp only[jI,jJ,iv,th]
   unfold aX
   generalize ba w x=q at o2 ⊢
   obtain⟨q1,q2⟩:=q
   rw[ap (by omega)]
   cases q2 with
   | none =>
    simp only[oW,Word.e,Wd.e,List.cons_append,List.nil_append,Option.isSome_none]
    rw[bB rfl]
    rfl
   | some y =>
    have hq:WOk q1:=o2.1
    have hyo:=(o2.2 y rfl).1
    have h4:=(o2.2 y rfl).2
    have hy:=kz (up:=q1.dk.up) (rs:=q1.dk.lg.rs) (f:=q1.dk.lg.f) (td:=q1.dk.td) (hs:=q1.hs) (ns:=q1.ns) (k:=y.k) (h:=y.h) (t:=y.t) (m:=y.m) hq (htd hq) hyo
    simp only[oW,Word.e,Wd.e,List.cons_append,List.nil_append,Option.isSome_some,Option.getD_some]
    rw[bB rfl]
    simp only[aa,C.toBool_bool,C.toList_list,C.toInt_int,aI,hy]
    simp only[jI,jJ,th,iv]
    generalize ba q1 y=r
    obtain⟨r1,r2⟩:=r
    simp only[Word.e,Wd.e,List.cons_append,List.nil_append]
    rw[bB rfl]
    rfl
  ·intro w ow
   have h:¬ ((l.length:Int)<(l.length:Nat)):=by omega
   simp only[aa,C.toInt_int,C.toBool_bool,C.toList_list]
   unfold sX
   simp only[List.length_map,aK,h,if_false]
   exact congrArg upD (L0 w ow)
 have or:=uy ho
 have hnl:=ho.nlen
 refine Eq.trans (congrArg ah (ak (l:=w.hs) (enc:=fun i (s:List House)=>[.int .i64 i,.list ((s++w.hs.drop i).map House.e)]) (res:=fun xs _ s=>.ret (aQ (cg ⟨dL w.dk,s++xs.map eV,[]⟩ (w.ns++aW (dL w.dk)))).e) (fun i s=>s=(w.hs.take i).map eV) (s:=[]) (by simp) ?_ ?_)) ?_
 ·intro i x xs s hx hs
  have hi:=(List.getElem?_eq_some_iff.1 hx).1
  have hsl:s.length=i:=by rw[hs];simp;omega
  have hi':(i:Int)<((s++w.hs.drop i).length:Nat):=by rw[List.length_append,List.length_drop];omega
  have hxr:(s++w.hs.drop i)[i]?=some x:=by
   rw[List.getElem?_append_right (by omega),hsl,Nat.sub_self,List.getElem?_drop,Nat.add_zero];exact hx
  have hd:(decide ((0:Int)<=(i:Int)) && decide ((i:Int)<((s++w.hs.drop i).length:Nat)))=true:=by simp only[Bool.and_eq_true,decide_eq_true_eq];omega
  refine .inl ⟨s++[eV x],?_,?_,by simp⟩
  ·simp only[aa,C.toInt_int,C.toList_list]
   unfold y8
   rw[dV hxr]
   simp only[List.length_map,aK,hi',if_true,hd,dP,House.e,aa,C.toInt_int,C.toBool_bool,C.toList_list,BEq.rfl]
   have h3:=ho.len
   rw[ap (by omega)]
   have hset:((s++w.hs.drop i).map House.e).set (Int.toNat (i:Int)) [.int .i64 x.id,.bool true,.int .i64 x.room,.list (x.lg.rs.map Rec.e),.int .i64 x.lg.f]=((s++[eV x])++w.hs.drop (i+1)).map House.e:=by
    rw[show [C.int .i64 x.id,C.bool true,C.int .i64 x.room,C.list (x.lg.rs.map Rec.e),C.int .i64 x.lg.f]=(eV x).e from rfl,<-List.map_set,Int.toNat_natCast,List.set_append_right _ _ (by omega),hsl,Nat.sub_self,List.drop_eq_getElem_cons hi]
    simp only[List.set_cons_zero,List.map_append,List.map_cons,List.append_assoc,List.cons_append,List.nil_append,List.map_nil]
   rw[hset]
   simp
  ·rw[hs,List.take_add_one,hx];simp
 ·intro s hs
  have hs':s=w.hs.map eV:=by rw[hs,List.take_length]
  have h:¬ ((w.hs.length:Int)<(w.hs.length:Nat)):=by omega
  simp only[List.drop_length,List.append_nil,aa,C.toInt_int,C.toList_list]
  unfold y8
  have hsl:s.length=w.hs.length:=by rw[hs'];simp
  simp only[List.length_map,hsl,aK,h,if_false]
  have hdw:=gf or.dk
  have htd:=ho.dk.tdlen
  have hdr:DkOk ⟨true,⟨w.dk.lg.rs,w.dk.lg.f⟩,w.dk.td⟩:=ho.dk.rise
  have hwd:=mL hdr (by omega)
  have hdd:(aW (dL w.dk)).length<=18:=hdw
  have e1:(⟨true,⟨w.dk.lg.rs,w.dk.lg.f⟩,w.dk.td⟩:Desk)=dL w.dk:=rfl
  rw[e1]at hwd
  have hc1:w.ns.length<=1099511627776:=by omega
  have hc2:w.ns.length+(aW (dL w.dk)).length<=1099511627776:=by omega
  simp (disch:=first|assumption|omega|(simp only[zL];omega)) only[hwd,hc1,hc2,Int.reduceEq,reduceIte,zU,zT,aa]
  rw[<-List.map_append]
  have o3:WOk ⟨dL w.dk,s,[]⟩:=by rw[hs'];exact⟨or.dk,or.len,or.hs,by simp,by simp⟩
  have:=L1 (w.ns++aW (dL w.dk)) ⟨dL w.dk,s,[]⟩ (by rw[List.length_append];omega) o3 (fun x hx=>by
   rcases List.mem_append.1 hx with h|h
   ·exact ho.ns x h
   ·exact(dy or.dk h).1)
  simp only[List.map_nil]at this
  have hle:w.ns.length+(aW (dL w.dk)).length<=1099511627776:=hc2
  simp only[decide_true,dP,List.map_nil,List.append_nil]
  exact congrArg upD this
 ·rfl
theorem ri(hw:WS w){r:Int} :
  xc [.bool w.dk.up,.list (w.dk.lg.rs.map Rec.e),.int .i64 w.dk.lg.f,.list (w.dk.td.map Word.e),.list (w.hs.map House.e),.list (w.ns.map Word.e),.int .i64 r]=some (if bW w && in_ r 0 9 then iQ w r.toNat else wd0).e:=by
 rw[q_co]
 unfold F_co
 rw[qE hw]
 cases hok:bW w with
 | false=>rfl
 | true =>
  have ho:=worldOk_iff.1 hok
  simp only[ry,aa,C.toBool_bool,Bool.not_true,aF,bC]
  cases hr:in_ r 0 9 with
  | false=>rfl
  | true =>
   have hr:=in_iff.1 hr
   simp only[Bool.not_true,aF,Bool.and_self,if_true]
   rw[qF hw]
   obtain⟨n,rfl⟩:∃ n:Nat,r=n:=⟨r.toNat,by omega⟩
   simp only[Wd.e,bE,aa,C.toInt_int,C.toList_list,C.toBool_bool]
   refine Eq.trans (congrArg ah (ak (l:=List.replicate n ()) (enc:=fun i (w:Wd)=>[.int .i64 i,.bool w.dk.up,.int .i64 w.dk.lg.f,.list (w.dk.lg.rs.map Rec.e),.list (w.dk.td.map Word.e),.list (w.hs.map House.e),.list (w.ns.map Word.e)]) (res:=fun xs _ v=>.ret (iQ v xs.length).e) (fun _ v=>WOk v) (s:=w) ho ?_ ?_)) ?_
   ·intro i x xs w hx ow
    have hi:=(List.getElem?_eq_some_iff.1 hx).1
    rw[List.length_replicate]at hi
    have hi':(i:Int)<(n:Nat):=by omega
    refine .inl ⟨c7 w,?_,ow.round,rfl⟩
    simp only[aa,C.toInt_int,C.toBool_bool,C.toList_list]
    unfold y9
    simp only[aK,hi',if_true,BJ ow]
    simp only[Wd.e,bE,aa,C.toInt_int,C.toList_list,C.toBool_bool]
    rw[ap (by omega)]
   ·intro v ow
    have h:¬ ((n:Int)<(n:Nat)):=by omega
    simp only[List.length_replicate,Wd.e,aa,C.toInt_int,C.toBool_bool,C.toList_list]
    unfold y9
    simp only[aK,h,if_false]
    rfl
   ·rw[List.length_replicate];rfl
end
end Dx
namespace Dx
open Go
def lft(l:Int)(n:Nat):Int:=if(n:Int)<=l then l-n else -1
theorem eL(l:Int)(n m:Nat)(h0:0<=l):(if lft l n<0 then -1 else lft (lft l n) m)=lft l (n+m):=by
 unfold lft
 by_cases h:(n:Int)<=l
 ·rw[if_pos h,if_neg (by omega)]
  by_cases h2:(m:Int)<=l-n
  ·rw[if_pos h2,if_pos (by omega)];omega
  ·rw[if_neg h2,if_neg (by omega)]
 ·rw[if_neg h,if_pos (by omega),if_neg (by omega)]
def jr(l:List Rec):Nat:=(l.map fun r=>r.m.length).sum
def nRs(l:List Rec):Nat:=l.length+jr l
def nHs(l:List House):Nat:=l.length+(l.map fun h=>nRs h.lg.rs).sum
def nWd(w:Wd):Nat:=nRs w.dk.lg.rs+w.dk.td.length+nHs w.hs+w.ns.length
section
variable {l:Int}
theorem tj(h0:0<=l)(h1:l<=1048576){a:List Int}(ha:a.length<=9223372036854775807):pg [.list (a.map eI),.int .i64 l]=some [.int .i64 (lft l a.length)]:=by
 rw[q_ge]
 by_cases h:(a.length:Int)<=l
 ·have h':¬ (l-(a.length:Int)<0):=by omega
  simp (disch:=first|assumption|omega|(simp only[zL];omega)) only[F_ge,List.length_map,wrap64,h',if_false,lft,h,if_true,Int.reduceEq,reduceIte,zU,zT,aa]
 ·have h':l-(a.length:Int)<0:=by omega
  simp (disch:=first|assumption|omega|(simp only[zL];omega)) only[F_ge,List.length_map,wrap64,h',if_true,lft,h,if_false,Int.reduceEq,reduceIte,zU,zT,aa]
theorem Ac(h0:0<=l)(h1:l<=1048576){a:List Word}(ha:a.length<=9223372036854775807):pj [.list (a.map Word.e),.int .i64 l]=some [.int .i64 (lft l a.length)]:=by
 rw[q_fm]
 by_cases h:(a.length:Int)<=l
 ·have h':¬ (l-(a.length:Int)<0):=by omega
  simp (disch:=first|assumption|omega|(simp only[zL];omega)) only[F_fm,List.length_map,wrap64,h',if_false,lft,h,if_true,Int.reduceEq,reduceIte,zU,zT,aa]
 ·have h':l-(a.length:Int)<0:=by omega
  simp (disch:=first|assumption|omega|(simp only[zL];omega)) only[F_fm,List.length_map,wrap64,h',if_true,lft,h,if_false,Int.reduceEq,reduceIte,zU,zT,aa]
theorem iy{n:Nat}(h:lft l n<0):lft l n=-1:=by unfold lft at *;split at h<;>simp_all<;>omega
theorem zi{n:Nat}(h0:0<=l):lft l n<=l:=by unfold lft;split<;>omega
theorem z_Rec(h0:0<=l)(h1:l<=1048576){k t:Int}{a:List Int}(ha:a.length<=9223372036854775807):vu [.int .i64 k,.int .i64 t,.list (a.map eI),.int .i64 l]=some [.int .i64 (lft l a.length)]:=by
 rw[q_hf]
 by_cases h:lft l a.length<0
 ·simp (disch:=first|assumption|omega|(simp only[zL];omega)) only[F_hf,tj h0 h1 ha,h,if_true,Int.reduceEq,reduceIte,zU,zT,aa]
  rw[iy h]
 ·simp (disch:=first|assumption|omega|(simp only[zL];omega)) only[F_hf,tj h0 h1 ha,h,if_false,Int.reduceEq,reduceIte,zU,zT,aa]
theorem DH(h0:0<=l)(h1:l<=1048576){a:List Rec}(ha:a.length<=9223372036854775807)(hm:∀ r∈a,r.m.length<=9223372036854775807):vv [.list (a.map Rec.e),.int .i64 l]=some [.int .i64 (lft l (nRs a))]:=by
 rw[q_gm]
 by_cases h:l-(a.length:Int)<0
 ·simp (disch:=first|assumption|omega|(simp only[zL];omega)) only[F_gm,List.length_map,wrap64,h,if_true,Int.reduceEq,reduceIte,zU,zT,aa]
  unfold lft nRs;rw[if_neg (by omega)]
 have key:=ak (l:=a) (F:=fun ps=>ot (a.map Rec.e) ((aa ps 0).toInt) ((aa ps 1).toInt)) (enc:=fun i (s:Int)=>[.int .i64 s,.int .i64 i])
  (res:=fun xs _ s=>.ret [.int .i64 (lft s (jr xs))]) (fun _ s=>0<=s/\s<=1048576) (s:=l-a.length) (by omega) ?_ ?_
 ·simp (disch:=first|assumption|omega|(simp only[zL];omega)) only[F_gm,List.length_map,wrap64,h,if_false,Int.reduceEq,reduceIte,zU,zT,aa]
  have key:am _ [C.int .i64 (l-(a.length:Int)),C.int .i64 0]=_:=key
  rw[key]
  have:=eL l a.length (jr a) h0
  unfold nRs
  rw[<-this]
  have e:lft l a.length=l-a.length:=by unfold lft;rw[if_pos (by omega)]
  rw[e,if_neg h];rfl
 ·intro i x xs s hx ⟨hs0,hs1⟩
  have hi:=(List.getElem?_eq_some_iff.1 hx).1
  have hi':(i:Int)<(a.length:Nat):=by omega
  have hz:=z_Rec (k:=x.k) (t:=x.t) hs0 hs1 (hm x (List.mem_of_getElem? hx))
  have hc:=eL s x.m.length (jr xs) hs0
  have hn:jr (x::xs)=x.m.length+jr xs:=by simp[jr]
  by_cases hneg:lft s x.m.length<0
  ·refine .inr ⟨.ret [.int .i64 (-1)],?_,?_⟩
   ·simp (disch:=first|assumption|omega|(simp only[zL];omega)) only[ot,List.length_map,hi',if_true,fF hx,Rec.e,hz,hneg,Int.reduceEq,reduceIte,zU,zT,aa]
   ·rw[hn,<-hc,if_pos hneg]
  ·refine .inl ⟨lft s x.m.length,?_,⟨by omega,by have:=zi (n:=x.m.length) hs0;omega⟩,?_⟩
   ·simp (disch:=first|assumption|omega|(simp only[zL];omega)) only[ot,List.length_map,hi',if_true,fF hx,Rec.e,hz,hneg,if_false,ap,Int.reduceEq,reduceIte,zU,zT,aa]
   ·rw[hn,<-hc,if_neg hneg]
 ·intro s ⟨hs0,hs1⟩
  have h:¬ ((a.length:Int)<(a.length:Nat)):=by omega
  simp (disch:=first|assumption|omega|(simp only[zL];omega)) only[ot,List.length_map,h,if_false,Int.reduceEq,reduceIte,zU,zT,aa]
  unfold lft;rw[if_pos (by simp[jr];omega)];simp[jr]
end
end Dx
namespace Dx
open Go
section
variable {l:Int}
theorem xY{n:Nat}(h0:0<=l)(h1:l<=1048576)(h:¬ lft l n<0):0<=lft l n/\lft l n<=1048576:=⟨by omega,by have:=zi (n:=n) h0;omega⟩
theorem xZ(h0:0<=l)(h1:l<=1048576){a:List Rec}{f:Int}(ha:a.length<=9223372036854775807)(hm:∀ r∈a,r.m.length<=9223372036854775807):pi [.list (a.map Rec.e),.int .i64 f,.int .i64 l]=some [.int .i64 (lft l (nRs a))]:=by
 rw[q_ha]
 by_cases h:lft l (nRs a)<0
 ·simp (disch:=first|assumption|omega|(simp only[zL];omega)) only[F_ha,DH h0 h1 ha hm,h,if_true,Int.reduceEq,reduceIte,zU,zT,aa]
  rw[iy h]
 ·simp (disch:=first|assumption|omega|(simp only[zL];omega)) only[F_ha,DH h0 h1 ha hm,h,if_false,Int.reduceEq,reduceIte,zU,zT,aa]
theorem tk(h0:0<=l)(h1:l<=1048576){up:Bool}{a:List Rec}{f:Int}{td:List Word}(ha:a.length<=9223372036854775807)(hm:∀ r∈a,r.m.length<=9223372036854775807)(ht:td.length<=9223372036854775807) :
  vx [.bool up,.list (a.map Rec.e),.int .i64 f,.list (td.map Word.e),.int .i64 l]=some [.int .i64 (lft l (nRs a+td.length))]:=by
 rw[q_gt,<-eL l _ _ h0]
 by_cases h:lft l (nRs a)<0
 ·simp (disch:=first|assumption|omega|(simp only[zL];omega)) only[GH,xZ h0 h1 ha hm,h,if_true,Int.reduceEq,reduceIte,zU,zT,aa]
 ·have hr:=xY h0 h1 h
  have hz:=Ac hr.1 hr.2 ht
  by_cases h2:lft (lft l (nRs a)) td.length<0
  ·simp (disch:=first|assumption|omega|(simp only[zL];omega)) only[GH,xZ h0 h1 ha hm,h,if_false,hz,h2,if_true,Int.reduceEq,reduceIte,zU,zT,aa]
   rw[iy h2]
  ·simp (disch:=first|assumption|omega|(simp only[zL];omega)) only[GH,xZ h0 h1 ha hm,h,if_false,hz,h2,Int.reduceEq,reduceIte,zU,zT,aa]
theorem F4(h0:0<=l)(h1:l<=1048576){id:Int}{up:Bool}{room:Int}{a:List Rec}{f:Int}(ha:a.length<=9223372036854775807)(hm:∀ r∈a,r.m.length<=9223372036854775807) :
  vy [.int .i64 id,.bool up,.int .i64 room,.list (a.map Rec.e),.int .i64 f,.int .i64 l]=some [.int .i64 (lft l (nRs a))]:=by
 rw[q_ee]
 by_cases h:lft l (nRs a)<0
 ·simp (disch:=first|assumption|omega|(simp only[zL];omega)) only[F_ee,xZ h0 h1 ha hm,h,if_true,Int.reduceEq,reduceIte,zU,zT,aa]
  rw[iy h]
 ·simp (disch:=first|assumption|omega|(simp only[zL];omega)) only[F_ee,xZ h0 h1 ha hm,h,if_false,Int.reduceEq,reduceIte,zU,zT,aa]
def nHo(l:List House):Nat:=(l.map fun h=>nRs h.lg.rs).sum
theorem CT(h0:0<=l)(h1:l<=1048576){a:List House}(ha:a.length<=9223372036854775807)(hm:∀ x∈a,x.lg.rs.length<=9223372036854775807/\∀ r∈x.lg.rs,r.m.length<=9223372036854775807):vz [.list (a.map House.e),.int .i64 l]=some [.int .i64 (lft l (nHs a))]:=by
 rw[q_dt]
 by_cases h:l-(a.length:Int)<0
 ·simp (disch:=first|assumption|omega|(simp only[zL];omega)) only[F_dt,List.length_map,wrap64,h,if_true,Int.reduceEq,reduceIte,zU,zT,aa]
  unfold lft nHs;rw[if_neg (by omega)]
 have key:=ak (l:=a) (F:=fun ps=>ou (a.map House.e) ((aa ps 0).toInt) ((aa ps 1).toInt)) (enc:=fun i (s:Int)=>[.int .i64 s,.int .i64 i])
  (res:=fun xs _ s=>.ret [.int .i64 (lft s (nHo xs))]) (fun _ s=>0<=s/\s<=1048576) (s:=l-a.length) (by omega) ?_ ?_
 ·simp (disch:=first|assumption|omega|(simp only[zL];omega)) only[F_dt,List.length_map,wrap64,h,if_false,Int.reduceEq,reduceIte,zU,zT,aa]
  have key:am _ [C.int .i64 (l-(a.length:Int)),C.int .i64 0]=_:=key
  rw[key]
  have:=eL l a.length (nHo a) h0
  have e0:nHs a=a.length+nHo a:=rfl
  rw[e0,<-this]
  have e:lft l a.length=l-a.length:=by unfold lft;rw[if_pos (by omega)]
  rw[e,if_neg h];rfl
 ·intro i x xs s hx ⟨hs0,hs1⟩
  have hi:=(List.getElem?_eq_some_iff.1 hx).1
  have hi':(i:Int)<(a.length:Nat):=by omega
  have hxm:=hm x (List.mem_of_getElem? hx)
  have hz:=F4 (id:=x.id) (up:=x.up) (room:=x.room) (f:=x.lg.f) hs0 hs1 hxm.1 hxm.2
  have hc:=eL s (nRs x.lg.rs) (nHo xs) hs0
  have hn:nHo (x::xs)=nRs x.lg.rs+nHo xs:=by simp[nHo]
  by_cases hneg:lft s (nRs x.lg.rs)<0
  ·refine .inr ⟨.ret [.int .i64 (-1)],?_,?_⟩
   ·simp (disch:=first|assumption|omega|(simp only[zL];omega)) only[ou,List.length_map,hi',if_true,dV hx,House.e,hz,hneg,Int.reduceEq,reduceIte,zU,zT,aa]
   ·rw[hn,<-hc,if_pos hneg]
  ·refine .inl ⟨lft s (nRs x.lg.rs),?_,xY hs0 hs1 hneg,?_⟩
   ·simp (disch:=first|assumption|omega|(simp only[zL];omega)) only[ou,List.length_map,hi',if_true,dV hx,House.e,hz,hneg,if_false,ap,Int.reduceEq,reduceIte,zU,zT,aa]
   ·rw[hn,<-hc,if_neg hneg]
 ·intro s ⟨hs0,hs1⟩
  have h:¬ ((a.length:Int)<(a.length:Nat)):=by omega
  simp (disch:=first|assumption|omega|(simp only[zL];omega)) only[ou,List.length_map,h,if_false,Int.reduceEq,reduceIte,zU,zT,aa]
  unfold lft;rw[if_pos (by simp[nHo];omega)];simp[nHo]
theorem Ad(h0:0<=l)(h1:l<=1048576){w:Wd}(ha:w.dk.lg.rs.length<=9223372036854775807)(hm:∀ r∈w.dk.lg.rs,r.m.length<=9223372036854775807)(ht:w.dk.td.length<=9223372036854775807)(hh:w.hs.length<=9223372036854775807)(hhm:∀ x∈w.hs,x.lg.rs.length<=9223372036854775807/\∀ r∈x.lg.rs,r.m.length<=9223372036854775807)(hn:w.ns.length<=9223372036854775807) :
  pl [.bool w.dk.up,.list (w.dk.lg.rs.map Rec.e),.int .i64 w.dk.lg.f,.list (w.dk.td.map Word.e),.list (w.hs.map House.e),.list (w.ns.map Word.e),.int .i64 l]=some [.int .i64 (lft l (nWd w))]:=by
 rw[q_er]
 unfold nWd
 rw[<-eL l _ w.ns.length h0,<-eL l _ (nHs w.hs) h0]
 by_cases h:lft l (nRs w.dk.lg.rs+w.dk.td.length)<0
 ·simp (disch:=first|assumption|omega|(simp only[zL];omega)) only[Fx,tk h0 h1 ha hm ht,h,if_true,Int.reduceEq,reduceIte,zU,zT,aa]
  simp
 ·have hr:=xY h0 h1 h
  have hz:=CT hr.1 hr.2 hh hhm
  by_cases h2:lft (lft l (nRs w.dk.lg.rs+w.dk.td.length)) (nHs w.hs)<0
  ·simp (disch:=first|assumption|omega|(simp only[zL];omega)) only[Fx,tk h0 h1 ha hm ht,h,if_false,hz,h2,if_true,Int.reduceEq,reduceIte,zU,zT,aa]
  ·have hr2:=xY hr.1 hr.2 h2
   have hz2:=Ac hr2.1 hr2.2 hn
   by_cases h3:lft (lft (lft l (nRs w.dk.lg.rs+w.dk.td.length)) (nHs w.hs)) w.ns.length<0
   ·simp (disch:=first|assumption|omega|(simp only[zL];omega)) only[Fx,tk h0 h1 ha hm ht,h,if_false,hz,h2,hz2,h3,if_true,Int.reduceEq,reduceIte,zU,zT,aa]
    rw[iy h3]
   ·simp (disch:=first|assumption|omega|(simp only[zL];omega)) only[Fx,tk h0 h1 ha hm ht,h,if_false,hz,h2,hz2,h3,Int.reduceEq,reduceIte,zU,zT,aa]
theorem Ae(h0:0<=l)(h1:l<=1048576){e:Ev}(he:e.m.length<=9223372036854775807):pm [.int .i64 e.k,.int .i64 e.a,.int .i64 e.b,.list (e.m.map eI),.int .i64 l]=some [.int .i64 (lft l e.m.length)]:=by
 rw[q_ft]
 by_cases h:lft l e.m.length<0
 ·simp (disch:=first|assumption|omega|(simp only[zL];omega)) only[F_ft,tj h0 h1 he,h,if_true,Int.reduceEq,reduceIte,zU,zT,aa]
  rw[iy h]
 ·simp (disch:=first|assumption|omega|(simp only[zL];omega)) only[F_ft,tj h0 h1 he,h,if_false,Int.reduceEq,reduceIte,zU,zT,aa]
end
end Dx
namespace Dx
open Go
theorem F5{α:Type}{l:List α}{i:Nat}{x z:α}(hx:l[i]?=some x):(l.take i++List.replicate (l.length-i) z).set i x=l.take (i+1)++List.replicate (l.length-(i+1)) z:=by
 have hi:=(List.getElem?_eq_some_iff.1 hx).1
 rw[show l.length-i=(l.length-(i+1))+1 by omega,List.replicate_succ,List.set_append_right (h:=by rw[List.length_take];omega),List.take_add_one,hx]
 rw[List.length_take,Nat.min_eq_left (by omega),Nat.sub_self]
 simp
theorem gY{α:Type}{e:α->List C}{F:List C->Option Out}{l:List α}(z:α){o:Out}(h:∀(i:Nat) (x:α) (s:List α),l[i]?=some x->s.length=l.length->F [.int .i64 i,.list (s.map e)]=some (.jump [.int .i64 ((i+1:Nat):Int),.list ((s.set i x).map e)]))
  (hend:F [.int .i64 (l.length:Nat),.list (l.map e)]=some (.up o)):am F [.int .i64 0,.list (List.replicate l.length (e z))]=some o:=by
 have key:=ak (l:=l) (F:=F) (enc:=fun i (s:List α)=>[.int .i64 i,.list (s.map e)]) (res:=fun _ _ _=>o) (fun i s=>s=l.take i++List.replicate (l.length-i) z) (s:=List.replicate l.length z) (by simp) ?_ ?_
 ·rw[<-List.map_replicate];exact key
 ·intro i x xs s hx hs
  have hsl:s.length=l.length:=by
   have:=(List.getElem?_eq_some_iff.1 hx).1
   rw[hs];simp;omega
  exact .inl ⟨s.set i x,h i x s hx hsl,by rw[hs];exact F5 hx,rfl⟩
 ·intro s hs
  have:s=l:=by rw[hs];simp
  rw[this];exact hend
theorem setW{α:Type}{e:α->List C}{s:List α}{i:Nat}{x:α}{cs:List C}(hi:i<s.length)(h:∀ y,rK (e y) 0 cs=e x):setRow 0 (s.map e) i cs=(s.set i x).map e :=
 bR (List.getElem?_eq_getElem hi) (h _)
def rec0:Rec:=⟨0,0,[]⟩
def Kk:House:=⟨0,false,0,⟨[],0⟩⟩
def word0:Word:=⟨0,0,0,0⟩
def ev0:Ev:=⟨0,0,0,[]⟩
theorem zj{l:List Int}(hl:l.length<=1099511627775):lq [.list (l.map eI)]=some [.list (l.map eI)]:=by
 rw[q_gg]
 have hb:(((l.length:Nat):Int)==((l.length:Nat):Int))=true:=by simp
 simp (disch:=first|assumption|omega|(simp only[zL];omega)) only[F_gg,List.length_map,hb,Int.toNat_natCast,Int.reduceEq,reduceIte,zU,zT,aa]
 have key:=gY (e:=eI) (l:=l) (F:=fun ps=>sb (l.map eI) ((aa ps 0).toInt) ((aa ps 1).toList)) (0:Int) (o:=.ret [.list (l.map eI)]) ?_ ?_
 ·have key:am _ [C.int .i64 0,.list (List.replicate l.length [C.int .i64 0])]=_:=key
  rw[key];rfl
 ·intro i x s hx hs
  have hi:=(List.getElem?_eq_some_iff.1 hx).1
  have hi':(i:Int)<(l.length:Nat):=by omega
  have hi2:(i:Int)<(s.length:Nat):=by omega
  have hi0:(0:Int)<=i:=by omega
  have hse:setRow 0 (s.map eI) i [.int .i64 x]=(s.set i x).map eI:=setW (by omega) (fun y=>rfl)
  simp (disch:=first|assumption|omega|(simp only[zL];omega)) only[sb,List.length_map,hi',if_true,gG hx,eI,hi0,hi2,decide_true,Bool.and_self,Int.toNat_natCast,ap,Int.reduceEq,reduceIte,zU,zT,aa]
  rw[<-hse]
 ·have h:¬ ((l.length:Int)<(l.length:Nat)):=by omega
  simp (disch:=first|assumption|omega|(simp only[zL];omega)) only[sb,List.length_map,h,if_false,Int.reduceEq,reduceIte,zU,zT,aa]
theorem c_Rec{k t:Int}{m:List Int}(hl:m.length<=1099511627775):vA [.int .i64 k,.int .i64 t,.list (m.map eI)]=some [.int .i64 k,.int .i64 t,.list (m.map eI)]:=by
 rw[q_hj]
 simp (disch:=first|assumption|omega|(simp only[zL];omega)) only[F_hj,zj,Int.reduceEq,reduceIte,zU,zT,aa]
theorem Kl{l:List Rec}(hl:l.length<=2000000)(hm:∀ r∈l,r.m.length<=2000000):vC [.list (l.map Rec.e)]=some [.list (l.map Rec.e)]:=by
 rw[q_gk]
 have hb:(((l.length:Nat):Int)==((l.length:Nat):Int))=true:=by simp
 simp (disch:=first|assumption|omega|(simp only[zL];omega)) only[F_gk,List.length_map,hb,Int.toNat_natCast,Int.reduceEq,reduceIte,zU,zT,aa]
 have key:=gY (e:=Rec.e) (l:=l) (F:=fun ps=>sd (l.map Rec.e) ((aa ps 0).toInt) ((aa ps 1).toList)) rec0 (o:=.ret [.list (l.map Rec.e)]) ?_ ?_
 ·have key:am _ [C.int .i64 0,.list (List.replicate l.length [C.int .i64 0,C.int .i64 0,C.list []])]=_:=key
  rw[key];rfl
 ·intro i x s hx hs
  have hi:=(List.getElem?_eq_some_iff.1 hx).1
  have hi':(i:Int)<(l.length:Nat):=by omega
  have hi2:(i:Int)<(s.length:Nat):=by omega
  have hi0:(0:Int)<=i:=by omega
  have hxm:=hm x (List.mem_of_getElem? hx)
  have hc:=c_Rec (k:=x.k) (t:=x.t) (m:=x.m) (by omega)
  have hsx:s[i]?=some s[i]:=List.getElem?_eq_getElem (by omega)
  have hse:(s.map Rec.e).set i [.int .i64 x.k,.int .i64 x.t,.list (x.m.map eI)]=(s.set i x).map Rec.e:=(List.map_set (f:=Rec.e)).symm
  simp (disch:=first|assumption|omega|(simp only[zL];omega)) only[sd,List.length_map,hi',if_true,fF hx,fF hsx,eqD,hse,Rec.e,hc,hi0,hi2,decide_true,Bool.and_self,Int.toNat_natCast,ap,Int.reduceEq,reduceIte,zU,zT,aa]
 ·have h:¬ ((l.length:Int)<(l.length:Nat)):=by omega
  simp (disch:=first|assumption|omega|(simp only[zL];omega)) only[sd,List.length_map,h,if_false,Int.reduceEq,reduceIte,zU,zT,aa]
theorem Jz{l:List Rec}{f:Int}(hl:l.length<=2000000)(hm:∀ r∈l,r.m.length<=2000000):pn [.list (l.map Rec.e),.int .i64 f]=some [.list (l.map Rec.e),.int .i64 f]:=by
 rw[q_hb]
 simp (disch:=first|assumption|omega|(simp only[zL];omega)) only[F_hb,Kl,Int.reduceEq,reduceIte,zU,zT,aa]
theorem Km{x:Word}:vD [.int .i64 x.k,.int .i64 x.h,.int .i64 x.t,.int .i64 x.m]=some [.int .i64 x.k,.int .i64 x.h,.int .i64 x.t,.int .i64 x.m]:=by
 rw[q_gv];rfl
theorem Af{l:List Word}(hl:l.length<=2000000):po [.list (l.map Word.e)]=some [.list (l.map Word.e)]:=by
 rw[q_ep]
 have hb:(((l.length:Nat):Int)==((l.length:Nat):Int))=true:=by simp
 simp (disch:=first|assumption|omega|(simp only[zL];omega)) only[F_ep,List.length_map,hb,Int.toNat_natCast,Int.reduceEq,reduceIte,zU,zT,aa]
 have key:=gY (e:=Word.e) (l:=l) (F:=fun ps=>se (l.map Word.e) ((aa ps 0).toInt) ((aa ps 1).toList)) word0 (o:=.ret [.list (l.map Word.e)]) ?_ ?_
 ·have key:am _ [C.int .i64 0,.list (List.replicate l.length [C.int .i64 0,C.int .i64 0,C.int .i64 0,C.int .i64 0])]=_:=key
  rw[key];rfl
 ·intro i x s hx hs
  have hi:=(List.getElem?_eq_some_iff.1 hx).1
  have hi':(i:Int)<(l.length:Nat):=by omega
  have hi2:(i:Int)<(s.length:Nat):=by omega
  have hi0:(0:Int)<=i:=by omega
  have hse:setRow 0 (s.map Word.e) i [.int .i64 x.k,.int .i64 x.h,.int .i64 x.t,.int .i64 x.m]=(s.set i x).map Word.e:=setW (by omega) (fun y=>rfl)
  simp (disch:=first|assumption|omega|(simp only[zL];omega)) only[se,List.length_map,hi',if_true,gH hx,Word.e,Km,hi0,hi2,decide_true,Bool.and_self,Int.toNat_natCast,ap,Int.reduceEq,reduceIte,zU,zT,aa]
  rw[<-hse];rfl
 ·have h:¬ ((l.length:Int)<(l.length:Nat)):=by omega
  simp (disch:=first|assumption|omega|(simp only[zL];omega)) only[se,List.length_map,h,if_false,Int.reduceEq,reduceIte,zU,zT,aa]
theorem Kn{up:Bool}{l:List Rec}{f:Int}{td:List Word}(hl:l.length<=2000000)(hm:∀ r∈l,r.m.length<=2000000)(ht:td.length<=2000000):vE [.bool up,.list (l.map Rec.e),.int .i64 f,.list (td.map Word.e)]=some [.bool up,.list (l.map Rec.e),.int .i64 f,.list (td.map Word.e)]:=by
 rw[q_fx]
 simp (disch:=first|assumption|omega|(simp only[zL];omega)) only[F_fx,Jz,Af,Int.reduceEq,reduceIte,zU,zT,aa]
theorem F6{x:House}(hl:x.lg.rs.length<=2000000)(hm:∀ r∈x.lg.rs,r.m.length<=2000000):vF [.int .i64 x.id,.bool x.up,.int .i64 x.room,.list (x.lg.rs.map Rec.e),.int .i64 x.lg.f]=some [.int .i64 x.id,.bool x.up,.int .i64 x.room,.list (x.lg.rs.map Rec.e),.int .i64 x.lg.f]:=by
 rw[q_et]
 simp (disch:=first|assumption|omega|(simp only[zL];omega)) only[F_et,Jz,Int.reduceEq,reduceIte,zU,zT,aa]
theorem CU{l:List House}(hl:l.length<=2000000)(hm:∀ x∈l,x.lg.rs.length<=2000000/\∀ r∈x.lg.rs,r.m.length<=2000000):vG [.list (l.map House.e)]=some [.list (l.map House.e)]:=by
 rw[q_dk]
 have hb:(((l.length:Nat):Int)==((l.length:Nat):Int))=true:=by simp
 simp (disch:=first|assumption|omega|(simp only[zL];omega)) only[F_dk,List.length_map,hb,Int.toNat_natCast,Int.reduceEq,reduceIte,zU,zT,aa]
 have key:=gY (e:=House.e) (l:=l) (F:=fun ps=>sg (l.map House.e) ((aa ps 0).toInt) ((aa ps 1).toList)) Kk (o:=.ret [.list (l.map House.e)]) ?_ ?_
 ·have key:am _ [C.int .i64 0,.list (List.replicate l.length [C.int .i64 0,C.bool false,C.int .i64 0,C.list [],C.int .i64 0])]=_:=key
  rw[key];rfl
 ·intro i x s hx hs
  have hi:=(List.getElem?_eq_some_iff.1 hx).1
  have hi':(i:Int)<(l.length:Nat):=by omega
  have hi2:(i:Int)<(s.length:Nat):=by omega
  have hi0:(0:Int)<=i:=by omega
  have hxm:=hm x (List.mem_of_getElem? hx)
  have hc:=F6 hxm.1 hxm.2
  have hsx:s[i]?=some s[i]:=List.getElem?_eq_getElem (by omega)
  have hse:(s.map House.e).set i [.int .i64 x.id,.bool x.up,.int .i64 x.room,.list (x.lg.rs.map Rec.e),.int .i64 x.lg.f]=(s.set i x).map House.e:=(List.map_set (f:=House.e)).symm
  simp (disch:=first|assumption|omega|(simp only[zL];omega)) only[sg,List.length_map,hi',if_true,dV hx,dV hsx,eqD,hse,House.e,hc,hi0,hi2,decide_true,Bool.and_self,Int.toNat_natCast,ap,Int.reduceEq,reduceIte,zU,zT,aa]
 ·have h:¬ ((l.length:Int)<(l.length:Nat)):=by omega
  simp (disch:=first|assumption|omega|(simp only[zL];omega)) only[sg,List.length_map,h,if_false,Int.reduceEq,reduceIte,zU,zT,aa]
structure WB (w:Wd):Prop where
 rs:w.dk.lg.rs.length<=2000000
 m:∀ r∈w.dk.lg.rs,r.m.length<=2000000
 td:w.dk.td.length<=2000000
 hs:w.hs.length<=2000000
 h:∀ x∈w.hs,x.lg.rs.length<=2000000/\∀ r∈x.lg.rs,r.m.length<=2000000
 ns:w.ns.length<=2000000
theorem Ag{w:Wd}(b:WB w):pp [.bool w.dk.up,.list (w.dk.lg.rs.map Rec.e),.int .i64 w.dk.lg.f,.list (w.dk.td.map Word.e),.list (w.hs.map House.e),.list (w.ns.map Word.e)]=some [.bool w.dk.up,.list (w.dk.lg.rs.map Rec.e),.int .i64 w.dk.lg.f,.list (w.dk.td.map Word.e),.list (w.hs.map House.e),.list (w.ns.map Word.e)]:=by
 rw[q_ff]
 have h1:=Kn (up:=w.dk.up) (f:=w.dk.lg.f) b.rs b.m b.td
 have h2:=CU b.hs b.h
 have h3:=Af b.ns
 simp (disch:=first|assumption|omega|(simp only[zL];omega)) only[F_ff,h1,h2,h3,Int.reduceEq,reduceIte,zU,zT,aa]
theorem Ah{e:Ev}(he:e.m.length<=2000000):pq [.int .i64 e.k,.int .i64 e.a,.int .i64 e.b,.list (e.m.map eI)]=some [.int .i64 e.k,.int .i64 e.a,.int .i64 e.b,.list (e.m.map eI)]:=by
 rw[q_eu]
 simp (disch:=first|assumption|omega|(simp only[zL];omega)) only[F_eu,zj,Int.reduceEq,reduceIte,zU,zT,aa]
end Dx
namespace Dx
open Go
theorem zk{l:List Int}(hl:l.length<=2000000):lB [.list (l.map eI),.list (l.map eI)]=some [.bool true]:=by
 rw[q_gj]
 have key:=ak (l:=l) (F:=fun ps=>sS (l.map eI) (l.map eI) ((aa ps 0).toInt)) (enc:=fun i (_:Unit)=>[.int .i64 i]) (res:=fun _ _ _=>.ret [.bool true]) (fun _ _=>True) (s:=()) trivial ?_ ?_
 ·simp (disch:=first|assumption|omega|(simp only[zL];omega)) only[F_gj,List.length_map,Int.reduceEq,reduceIte,zU,zT,aa]
  have key:am _ [C.int .i64 0]=_:=key
  simp only[if_true,key]
  rfl
 ·intro i x xs s hx _
  have hi:=(List.getElem?_eq_some_iff.1 hx).1
  have hi':(i:Int)<(l.length:Nat):=by omega
  refine .inl ⟨(),?_,trivial,rfl⟩
  simp (disch:=first|assumption|omega|(simp only[zL];omega)) only[sS,List.length_map,hi',if_true,gG hx,eI,Bool.not_true,ap,Int.reduceEq,reduceIte,zU,zT,aa]
 ·intro s hs
  have h:¬ ((l.length:Int)<(l.length:Nat)):=by omega
  simp (disch:=first|assumption|omega|(simp only[zL];omega)) only[sS,List.length_map,h,if_false,Int.reduceEq,reduceIte,zU,zT,aa]
theorem e_Rec{k t:Int}{m:List Int}(hl:m.length<=2000000):wP [.int .i64 k,.int .i64 t,.list (m.map eI),.int .i64 k,.int .i64 t,.list (m.map eI)]=some [.bool true]:=by
 rw[q_gz]
 simp (disch:=first|assumption|omega|(simp only[zL];omega)) only[F_gz,zk hl,Bool.not_true,Int.reduceEq,reduceIte,zU,zT,aa]
 try simp
theorem Ko{l:List Rec}(hl:l.length<=2000000)(hm:∀ r∈l,r.m.length<=2000000):wQ [.list (l.map Rec.e),.list (l.map Rec.e)]=some [.bool true]:=by
 rw[q_gc]
 have key:=ak (l:=l) (F:=fun ps=>sT (l.map Rec.e) (l.map Rec.e) ((aa ps 0).toInt)) (enc:=fun i (_:Unit)=>[.int .i64 i]) (res:=fun _ _ _=>.ret [.bool true]) (fun _ _=>True) (s:=()) trivial ?_ ?_
 ·simp (disch:=first|assumption|omega|(simp only[zL];omega)) only[F_gc,List.length_map,Int.reduceEq,reduceIte,zU,zT,aa]
  have key:am _ [C.int .i64 0]=_:=key
  simp only[if_true,key]
  rfl
 ·intro i x xs s hx _
  have hi:=(List.getElem?_eq_some_iff.1 hx).1
  have hi':(i:Int)<(l.length:Nat):=by omega
  have hc:=e_Rec (k:=x.k) (t:=x.t) (hm x (List.mem_of_getElem? hx))
  refine .inl ⟨(),?_,trivial,rfl⟩
  simp (disch:=first|assumption|omega|(simp only[zL];omega)) only[sT,List.length_map,hi',if_true,fF hx,Rec.e,hc,Bool.not_true,ap,Int.reduceEq,reduceIte,zU,zT,aa]
 ·intro s hs
  have h:¬ ((l.length:Int)<(l.length:Nat)):=by omega
  simp (disch:=first|assumption|omega|(simp only[zL];omega)) only[sT,List.length_map,h,if_false,Int.reduceEq,reduceIte,zU,zT,aa]
theorem JA{l:List Rec}{f:Int}(hl:l.length<=2000000)(hm:∀ r∈l,r.m.length<=2000000):pZ [.list (l.map Rec.e),.int .i64 f,.list (l.map Rec.e),.int .i64 f]=some [.bool true]:=by
 rw[q_hd]
 simp (disch:=first|assumption|omega|(simp only[zL];omega)) only[F_hd,Ko hl hm,Bool.not_true,Int.reduceEq,reduceIte,zU,zT,aa]
 try simp
theorem Kp{x:Word}:wR [.int .i64 x.k,.int .i64 x.h,.int .i64 x.t,.int .i64 x.m,.int .i64 x.k,.int .i64 x.h,.int .i64 x.t,.int .i64 x.m]=some [.bool true]:=by
 rw[q_gx]
 simp (disch:=first|assumption|omega|(simp only[zL];omega)) only[F_gx,Int.reduceEq,reduceIte,zU,zT,aa]
 try simp
theorem Ai{l:List Word}(hl:l.length<=2000000):p8 [.list (l.map Word.e),.list (l.map Word.e)]=some [.bool true]:=by
 rw[q_fr]
 have key:=ak (l:=l) (F:=fun ps=>sU (l.map Word.e) (l.map Word.e) ((aa ps 0).toInt)) (enc:=fun i (_:Unit)=>[.int .i64 i]) (res:=fun _ _ _=>.ret [.bool true]) (fun _ _=>True) (s:=()) trivial ?_ ?_
 ·simp (disch:=first|assumption|omega|(simp only[zL];omega)) only[F_fr,List.length_map,Int.reduceEq,reduceIte,zU,zT,aa]
  have key:am _ [C.int .i64 0]=_:=key
  simp only[if_true,key]
  rfl
 ·intro i x xs s hx _
  have hi:=(List.getElem?_eq_some_iff.1 hx).1
  have hi':(i:Int)<(l.length:Nat):=by omega
  refine .inl ⟨(),?_,trivial,rfl⟩
  simp (disch:=first|assumption|omega|(simp only[zL];omega)) only[sU,List.length_map,hi',if_true,gH hx,Word.e,Kp,Bool.not_true,ap,Int.reduceEq,reduceIte,zU,zT,aa]
 ·intro s hs
  have h:¬ ((l.length:Int)<(l.length:Nat)):=by omega
  simp (disch:=first|assumption|omega|(simp only[zL];omega)) only[sU,List.length_map,h,if_false,Int.reduceEq,reduceIte,zU,zT,aa]
theorem Kq{up:Bool}{l:List Rec}{f:Int}{td:List Word}(hl:l.length<=2000000)(hm:∀ r∈l,r.m.length<=2000000)(ht:td.length<=2000000) :
  wS [.bool up,.list (l.map Rec.e),.int .i64 f,.list (td.map Word.e),.bool up,.list (l.map Rec.e),.int .i64 f,.list (td.map Word.e)]=some [.bool true]:=by
 rw[q_gl]
 simp (disch:=first|assumption|omega|(simp only[zL];omega)) only[F_gl,JA hl hm,Ai ht,BEq.rfl,Bool.not_true,Int.reduceEq,reduceIte,zU,zT,aa]
 try simp
theorem F7{x:House}(hl:x.lg.rs.length<=2000000)(hm:∀ r∈x.lg.rs,r.m.length<=2000000) :
  wT [.int .i64 x.id,.bool x.up,.int .i64 x.room,.list (x.lg.rs.map Rec.e),.int .i64 x.lg.f,.int .i64 x.id,.bool x.up,.int .i64 x.room,.list (x.lg.rs.map Rec.e),.int .i64 x.lg.f]=some [.bool true]:=by
 rw[q_fj]
 simp (disch:=first|assumption|omega|(simp only[zL];omega)) only[F_fj,JA hl hm,BEq.rfl,Bool.not_true,Int.reduceEq,reduceIte,zU,zT,aa]
 try simp
theorem CV{l:List House}(hl:l.length<=2000000)(hm:∀ x∈l,x.lg.rs.length<=2000000/\∀ r∈x.lg.rs,r.m.length<=2000000):wU [.list (l.map House.e),.list (l.map House.e)]=some [.bool true]:=by
 rw[q_dq]
 have key:=ak (l:=l) (F:=fun ps=>sV (l.map House.e) (l.map House.e) ((aa ps 0).toInt)) (enc:=fun i (_:Unit)=>[.int .i64 i]) (res:=fun _ _ _=>.ret [.bool true]) (fun _ _=>True) (s:=()) trivial ?_ ?_
 ·simp (disch:=first|assumption|omega|(simp only[zL];omega)) only[F_dq,List.length_map,Int.reduceEq,reduceIte,zU,zT,aa]
  have key:am _ [C.int .i64 0]=_:=key
  simp only[if_true,key]
  rfl
 ·intro i x xs s hx _
  have hi:=(List.getElem?_eq_some_iff.1 hx).1
  have hi':(i:Int)<(l.length:Nat):=by omega
  have hxm:=hm x (List.mem_of_getElem? hx)
  have hc:=F7 hxm.1 hxm.2
  refine .inl ⟨(),?_,trivial,rfl⟩
  simp (disch:=first|assumption|omega|(simp only[zL];omega)) only[sV,List.length_map,hi',if_true,dV hx,House.e,hc,Bool.not_true,ap,Int.reduceEq,reduceIte,zU,zT,aa]
 ·intro s hs
  have h:¬ ((l.length:Int)<(l.length:Nat)):=by omega
  simp (disch:=first|assumption|omega|(simp only[zL];omega)) only[sV,List.length_map,h,if_false,Int.reduceEq,reduceIte,zU,zT,aa]
theorem kc{w:Wd}(b:WB w):lC [.bool w.dk.up,.list (w.dk.lg.rs.map Rec.e),.int .i64 w.dk.lg.f,.list (w.dk.td.map Word.e),.list (w.hs.map House.e),.list (w.ns.map Word.e),.bool w.dk.up,.list (w.dk.lg.rs.map Rec.e),.int .i64 w.dk.lg.f,.list (w.dk.td.map Word.e),.list (w.hs.map House.e),.list (w.ns.map Word.e)]=some [.bool true]:=by
 rw[q_fg]
 have h1:=Kq (up:=w.dk.up) (f:=w.dk.lg.f) b.rs b.m b.td
 have h2:=CV b.hs b.h
 have h3:=Ai b.ns
 simp (disch:=first|assumption|omega|(simp only[zL];omega)) only[F_fg,h1,h2,h3,Bool.not_true,Int.reduceEq,reduceIte,zU,zT,aa]
theorem Aj{e:Ev}(he:e.m.length<=2000000):p9 [.int .i64 e.k,.int .i64 e.a,.int .i64 e.b,.list (e.m.map eI),.int .i64 e.k,.int .i64 e.a,.int .i64 e.b,.list (e.m.map eI)]=some [.bool true]:=by
 rw[q_eo]
 simp (disch:=first|assumption|omega|(simp only[zL];omega)) only[F_eo,zk he,Bool.not_true,Int.reduceEq,reduceIte,zU,zT,aa]
 try simp
end Dx
namespace Dx
open Go
section
variable {α:Type} {m:Int->α->α×Int}
def mks(m:Int->α->α×Int):Int->List α->List α
 | _,[]=>[]
 | k,x::l=>(m k x).1::mks m (m k x).2 l
def ens(m:Int->α->α×Int):Int->List α->Int
 | k,[]=>k
 | k,x::l=>ens m (m k x).2 l
theorem eM:∀(l:List α) (k:Int),(mks m k l).length=l.length
 | [],_=>rfl
 | x::l,k=>by simp[mks,eM l]
theorem uN:∀(l:List α) (k:Int) (i:Nat) (x:α),l[i]?=some x->ens m k (l.take (i+1))=(m (ens m k (l.take i)) x).2
 | [],_,_,_,h=>by simp at h
 | y::l,k,0,x,h=>by simp at h;subst h;simp[ens]
 | y::l,k,i+1,x,h=>by
  simp only[List.getElem?_cons_succ]at h
  simp only[List.take_succ_cons,ens]
  exact uN l _ i x h
theorem Ak:∀(l:List α) (k:Int) (i:Nat) (x:α),l[i]?=some x->(mks m k l)[i]?=some (m (ens m k (l.take i)) x).1
 | [],_,_,_,h=>by simp at h
 | y::l,k,0,x,h=>by simp at h;subst h;simp[mks,ens]
 | y::l,k,i+1,x,h=>by
  simp only[List.getElem?_cons_succ]at h
  simp only[mks,List.getElem?_cons_succ,List.take_succ_cons,ens]
  exact Ak l _ i x h
theorem uO{l:List α}{i:Nat}{x:α}(h:l[i]?=some x):l.drop i=x::l.drop (i+1):=by
 obtain⟨hi,e⟩:=List.getElem?_eq_some_iff.1 h
 rw[List.drop_eq_getElem_cons hi,e]
theorem take_set{s:List α}{i:Nat}{y:α}(h:i<s.length):(s.set i y).take (i+1)=s.take i++[y]:=by
 have h1:(s.set i y)[i]?=some y:=by rw[List.getElem?_set_self h]
 rw[List.take_add_one,h1]
 congr 1
 apply List.ext_getElem?
 intro j
 rw[List.getElem?_take,List.getElem?_take]
 split
 ·rw[List.getElem?_set_ne (by omega)]
 ·rfl
theorem gZ{e:α->List C}{F:List C->Option Out}{l:List α}{k:Int}(B:Int->List α->Prop)(hB0:B k l)(hB:∀ k x xs,B k (x::xs)->B (m k x).2 xs)
  (hF:∀(i:Nat) (x:α) (k:Int) (s:List α) (xs:List α),l[i]?=some x->s[i]?=some x->s.length=l.length->B k (x::xs)->F [.int .i64 k,.int .i64 i,.list (s.map e)]=some (.jump [.int .i64 (m k x).2,.int .i64 ((i+1:Nat):Int),.list ((s.set i (m k x).1).map e)]))
  (hE:∀(k:Int) (s:List α),s.length=l.length->F [.int .i64 k,.int .i64 (l.length:Nat),.list (s.map e)]=some (.up (.ret [.int .i64 k,.list (s.map e)]))) :
  am F [.int .i64 k,.int .i64 0,.list (l.map e)]=some (.ret [.int .i64 (ens m k l),.list ((mks m k l).map e)]):=by
 have key:=ak (l:=l) (F:=F) (enc:=fun i (s:Int×List α)=>[.int .i64 s.1,.int .i64 i,.list (s.2.map e)])
  (res:=fun xs i s=>.ret [.int .i64 (ens m s.1 xs),.list ((s.2.take i++mks m s.1 xs).map e)]) (fun i s=>s.2.length=l.length/\s.2.drop i=l.drop i/\B s.1 (l.drop i)) (s:=(k,l)) ⟨rfl,rfl,hB0⟩ ?_ ?_
 ·simpa using key
 ·intro i x xs s hx ⟨h1,h2,h3⟩
  have hi:=(List.getElem?_eq_some_iff.1 hx).1
  have hsx:s.2[i]?=some x:=by
   have:=congrArg (·[0]?) h2
   simp only[List.getElem?_drop,Nat.add_zero]at this
   rw[this];exact hx
  rw[uO hx]at h3
  refine .inl ⟨((m s.1 x).2,s.2.set i (m s.1 x).1),hF i x s.1 s.2 _ hx hsx h1 h3,⟨by simp[h1],?_,hB _ _ _ h3⟩,?_⟩
  ·have:=congrArg (·.drop 1) h2
   simp only[List.drop_drop]at this
   rw[List.drop_set,if_pos (by omega)]
   exact this
  ·simp only[ens,mks]
   rw[take_set (by omega),List.append_assoc];rfl
 ·intro s ⟨h1,_,_⟩
  have:=hE s.1 s.2 h1
  rw[this]
  simp[ens,mks,<-h1]
theorem jP{F:List C->Option Out}{l:List α}{k:Int}(B:Int->List α->Prop)(hB0:B k l)(hB:∀ k x xs,B k (x::xs)->B (m k x).2 xs)
  (hF:∀(i:Nat) (x:α) (k':Int) (xs:List α),l[i]?=some x->(mks m k l)[i]?=some (m k' x).1->B k' (x::xs)->F [.int .i64 k',.int .i64 i]=some (.jump [.int .i64 (m k' x).2,.int .i64 ((i+1:Nat):Int)]))
  (hE:∀ k:Int,F [.int .i64 k,.int .i64 (l.length:Nat)]=some (.up (.ret [.int .i64 k]))) :
  am F [.int .i64 k,.int .i64 0]=some (.ret [.int .i64 (ens m k l)]):=by
 have key:=ak (l:=l) (F:=F) (enc:=fun i (s:Int)=>[.int .i64 s,.int .i64 i])
  (res:=fun xs _ s=>.ret [.int .i64 (ens m s xs)]) (fun i s=>s=ens m k (l.take i)/\B s (l.drop i)) (s:=k) ⟨rfl,hB0⟩ ?_ ?_
 ·exact key
 ·intro i x xs s hx ⟨h1,h2⟩
  rw[uO hx]at h2
  refine .inl ⟨(m s x).2,hF i x s _ hx (by rw[h1];exact Ak l k i x hx) h2,⟨by rw[uN l k i x hx,<-h1],hB _ _ _ h2⟩,rfl⟩
 ·intro s _
  exact hE s
end
def mI(k:Int)(_:Int):Int×Int:=(k,k+1)
def mR(k:Int)(r:Rec):Rec×Int:=(⟨k,k+1,mks mI (k+2) r.m⟩,ens mI (k+2) r.m)
def mW(k:Int)(_:Word):Word×Int:=(⟨k,k+1,k+2,k+3⟩,k+4)
def mH(k:Int)(h:House):House×Int:=(⟨k,Int.tmod (k+1) 3==0,k+2,⟨mks mR (k+3) h.lg.rs,ens mR (k+3) h.lg.rs⟩⟩,ens mR (k+3) h.lg.rs+1)
def sR(l:List Rec):Nat:=(l.map fun r=>2+r.m.length).sum
def sH(l:List House):Nat:=(l.map fun h=>4+sR h.lg.rs).sum
theorem zm:∀ l:List Rec,2*l.length<=sR l
 | []=>by simp
 | x::l=>by
  have:=zm l
  simp only[sR,List.map_cons,List.sum_cons,List.length_cons]at *;omega
theorem zn:∀ l:List House,4*l.length<=sH l
 | []=>by simp
 | x::l=>by
  have:=zn l
  simp only[sH,List.map_cons,List.sum_cons,List.length_cons]at *;omega
theorem lI:∀(l:List Int) (k:Int),ens mI k l=k+l.length
 | [],k=>by simp[ens]
 | x::l,k=>by simp only[ens,mI,lI l,List.length_cons];omega
theorem il:∀(l:List Rec) (k:Int),ens mR k l=k+sR l
 | [],k=>by simp[ens,sR]
 | x::l,k=>by simp only[ens,mR,il l,lI,sR,List.map_cons,List.sum_cons];omega
theorem qe:∀(l:List Word) (k:Int),ens mW k l=k+4*l.length
 | [],k=>by simp[ens]
 | x::l,k=>by simp only[ens,mW,qe l,List.length_cons];omega
theorem BR:∀(l:List House) (k:Int),ens mH k l=k+sH l
 | [],k=>by simp[ens,sH]
 | x::l,k=>by simp only[ens,mH,BR l,il,sH,List.map_cons,List.sum_cons];omega
section
variable {k:Int}
theorem tn{l:List Int}(h0:0<=k)(h1:k+l.length<=1000000000):iO [.list (l.map eI),.int .i64 k]=some [.int .i64 (ens mI k l),.list ((mks mI k l).map eI)]:=by
 rw[q_di]
 show ah (am _ [.int .i64 k,.int .i64 0,.list (l.map eI)])=_
 rw[gZ (m:=mI) (fun k l=>0<=k/\k+(l.length:Nat)<=1000000000) ⟨h0,h1⟩ (fun k x xs h=>by simp only[mI,List.length_cons]at *;omega)]
 ·rfl
 ·intro i x k s xs hx hsx hs hb
  have hi:=(List.getElem?_eq_some_iff.1 hx).1
  have hi':(i:Int)<(s.length:Nat):=by omega
  have hi0:(0:Int)<=i:=by omega
  simp only[List.length_cons]at hb
  have hse:setRow 0 (s.map eI) i [.int .i64 k]=(s.set i k).map eI:=setW (by omega) (fun y=>rfl)
  simp (disch:=first|assumption|omega|(simp only[zL];omega)) only[yX,List.length_map,hi',hi0,if_true,decide_true,Bool.and_self,Int.toNat_natCast,hse,wrap64,mI,Int.reduceEq,reduceIte,zU,zT,aa]
  rfl
 ·intro k s hs
  have h:¬ ((l.length:Int)<(s.length:Nat)):=by omega
  simp (disch:=first|assumption|omega|(simp only[zL];omega)) only[yX,List.length_map,h,if_false,Int.reduceEq,reduceIte,zU,zT,aa]
theorem Kr{l:List Int}(h0:0<=k)(h1:k+l.length<=1000000000):wZ [.list ((mks mI k l).map eI),.int .i64 k]=some [.int .i64 (ens mI k l)]:=by
 rw[q_dx]
 show ah (am _ [.int .i64 k,.int .i64 0])=_
 rw[jP (m:=mI) (l:=l) (fun k l=>0<=k/\k+(l.length:Nat)<=1000000000) ⟨h0,h1⟩ (fun k x xs h=>by simp only[mI,List.length_cons]at *;omega)]
 ·rfl
 ·intro i x k' xs hx hg hb
  have hi:=(List.getElem?_eq_some_iff.1 hx).1
  have hi':(i:Int)<(l.length:Nat):=by omega
  simp only[List.length_cons]at hb
  simp only[mI]at hg
  simp (disch:=first|assumption|omega|(simp only[zL];omega)) only[y4,List.length_map,eM,hi',if_true,gG hg,eI,wrap64,mI,Int.reduceEq,reduceIte,zU,zT,aa]
  rfl
 ·intro k'
  have h:¬ ((l.length:Int)<(l.length:Nat)):=by omega
  simp (disch:=first|assumption|omega|(simp only[zL];omega)) only[y4,List.length_map,eM,h,if_false,Int.reduceEq,reduceIte,zU,zT,aa]
theorem Al{l:List Word}(h0:0<=k)(h1:k+4*l.length<=1000000000):qb [.list (l.map Word.e),.int .i64 k]=some [.int .i64 (ens mW k l),.list ((mks mW k l).map Word.e)]:=by
 rw[q_ce]
 show ah (am _ [.int .i64 k,.int .i64 0,.list (l.map Word.e)])=_
 rw[gZ (m:=mW) (fun k l=>0<=k/\k+4*(l.length:Nat)<=1000000000) ⟨h0,h1⟩ (fun k x xs h=>by simp only[mW,List.length_cons]at *;omega)]
 ·rfl
 ·intro i x k s xs hx hsx hs hb
  have hi:=(List.getElem?_eq_some_iff.1 hx).1
  have hi':(i:Int)<(s.length:Nat):=by omega
  have hi0:(0:Int)<=i:=by omega
  have his:i<s.length:=by omega
  simp only[List.length_cons]at hb
  have s0:setRow 0 (s.map Word.e) i [.int .i64 k]=(s.set i ⟨k,x.h,x.t,x.m⟩).map Word.e:=bR hsx rfl
  have s1:setRow 1 ((s.set i ⟨k,x.h,x.t,x.m⟩).map Word.e) i [.int .i64 (k+1)]=(s.set i ⟨k,k+1,x.t,x.m⟩).map Word.e:=by
   rw[bR (y:=⟨k,k+1,x.t,x.m⟩) (List.getElem?_set_self his) rfl,List.set_set]
  have s2:setRow 2 ((s.set i ⟨k,k+1,x.t,x.m⟩).map Word.e) i [.int .i64 (k+2)]=(s.set i ⟨k,k+1,k+2,x.m⟩).map Word.e:=by
   rw[bR (y:=⟨k,k+1,k+2,x.m⟩) (List.getElem?_set_self his) rfl,List.set_set]
  have s3:setRow 3 ((s.set i ⟨k,k+1,k+2,x.m⟩).map Word.e) i [.int .i64 (k+3)]=(s.set i ⟨k,k+1,k+2,k+3⟩).map Word.e:=by
   rw[bR (y:=⟨k,k+1,k+2,k+3⟩) (List.getElem?_set_self his) rfl,List.set_set]
  have w2:k+1+1=k+2:=by omega
  have w3:k+2+1=k+3:=by omega
  have w4:k+3+1=k+4:=by omega
  simp (disch:=first|assumption|omega|(simp only[zL];omega)) only[yZ,List.length_map,List.length_set,hi',hi0,if_true,decide_true,Bool.and_self,Int.toNat_natCast,s0,s1,s2,s3,w2,w3,w4,wrap64,mW,Int.reduceEq,reduceIte,zU,zT,aa]
  rfl
 ·intro k s hs
  have h:¬ ((l.length:Int)<(s.length:Nat)):=by omega
  simp (disch:=first|assumption|omega|(simp only[zL];omega)) only[yZ,List.length_map,h,if_false,Int.reduceEq,reduceIte,zU,zT,aa]
theorem DI{l:List Rec}(h0:0<=k)(h1:k+sR l<=1000000000):qa [.list (l.map Rec.e),.int .i64 k]=some [.int .i64 (ens mR k l),.list ((mks mR k l).map Rec.e)]:=by
 rw[q_dd]
 show ah (am _ [.int .i64 k,.int .i64 0,.list (l.map Rec.e)])=_
 rw[gZ (m:=mR) (fun k l=>0<=k/\k+sR l<=1000000000) ⟨h0,h1⟩ (fun k x xs h=>by simp only[mR,lI,sR,List.map_cons,List.sum_cons]at *;omega)]
 ·rfl
 ·intro i x k s xs hx hsx hs hb
  have hi:=(List.getElem?_eq_some_iff.1 hx).1
  have hi':(i:Int)<(s.length:Nat):=by omega
  have hi0:(0:Int)<=i:=by omega
  have hL:=zm l
  have hb2:0<=k/\k+(2+x.m.length)<=1000000000:=by simp only[sR,List.map_cons,List.sum_cons]at hb;omega
  have w2:k+1+1=k+2:=by omega
  have hc:=tn (k:=k+2) (l:=x.m) (by omega) (by omega)
  have hse:(s.map Rec.e).set i [.int .i64 k,.int .i64 (k+1),.list ((mks mI (k+2) x.m).map eI)]=(s.set i ⟨k,k+1,mks mI (k+2) x.m⟩).map Rec.e:=by rw[List.map_set];rfl
  simp (disch:=first|assumption|omega|(simp only[zL];omega)) only[yY,List.length_map,hi',hi0,if_true,decide_true,Bool.and_self,Int.toNat_natCast,fF hsx,Rec.e,eqD,w2,hc,hse,wrap64,mR,Int.reduceEq,reduceIte,zU,zT,aa]
  rfl
 ·intro k s hs
  have h:¬ ((l.length:Int)<(s.length:Nat)):=by omega
  simp (disch:=first|assumption|omega|(simp only[zL];omega)) only[yY,List.length_map,h,if_false,Int.reduceEq,reduceIte,zU,zT,aa]
theorem Am{l:List Word}(h0:0<=k)(h1:k+4*l.length<=1000000000):qd [.list ((mks mW k l).map Word.e),.int .i64 k]=some [.int .i64 (ens mW k l)]:=by
 rw[q_ci]
 show ah (am _ [.int .i64 k,.int .i64 0])=_
 rw[jP (m:=mW) (l:=l) (fun k l=>0<=k/\k+4*(l.length:Nat)<=1000000000) ⟨h0,h1⟩ (fun k x xs h=>by simp only[mW,List.length_cons]at *;omega)]
 ·rfl
 ·intro i x k' xs hx hg hb
  have hi:=(List.getElem?_eq_some_iff.1 hx).1
  have hi':(i:Int)<(l.length:Nat):=by omega
  simp only[List.length_cons]at hb
  simp only[mW]at hg
  have w2:k'+1+1=k'+2:=by omega
  have w3:k'+2+1=k'+3:=by omega
  have w4:k'+3+1=k'+4:=by omega
  simp (disch:=first|assumption|omega|(simp only[zL];omega)) only[y6,List.length_map,eM,hi',if_true,gH hg,Word.e,w2,w3,w4,wrap64,mW,Int.reduceEq,reduceIte,zU,zT,aa]
  rfl
 ·intro k'
  have h:¬ ((l.length:Int)<(l.length:Nat)):=by omega
  simp (disch:=first|assumption|omega|(simp only[zL];omega)) only[y6,List.length_map,eM,h,if_false,Int.reduceEq,reduceIte,zU,zT,aa]
theorem DJ{l:List Rec}(h0:0<=k)(h1:k+sR l<=1000000000):qc [.list ((mks mR k l).map Rec.e),.int .i64 k]=some [.int .i64 (ens mR k l)]:=by
 rw[q_df]
 show ah (am _ [.int .i64 k,.int .i64 0])=_
 rw[jP (m:=mR) (l:=l) (fun k l=>0<=k/\k+sR l<=1000000000) ⟨h0,h1⟩ (fun k x xs h=>by simp only[mR,lI,sR,List.map_cons,List.sum_cons]at *;omega)]
 ·rfl
 ·intro i x k' xs hx hg hb
  have hi:=(List.getElem?_eq_some_iff.1 hx).1
  have hi':(i:Int)<(l.length:Nat):=by omega
  have hL:=zm l
  have hb2:0<=k'/\k'+(2+x.m.length)<=1000000000:=by simp only[sR,List.map_cons,List.sum_cons]at hb;omega
  simp only[mR]at hg
  have w2:k'+1+1=k'+2:=by omega
  have hc:=Kr (k:=k'+2) (l:=x.m) (by omega) (by omega)
  have hn:¬ (ens mI (k'+2) x.m<0):=by rw[lI];omega
  simp (disch:=first|assumption|omega|(simp only[zL];omega)) only[y5,List.length_map,eM,hi',if_true,fF hg,Rec.e,w2,hc,hn,if_false,wrap64,mR,Int.reduceEq,reduceIte,zU,zT,aa]
  rfl
 ·intro k'
  have h:¬ ((l.length:Int)<(l.length:Nat)):=by omega
  simp (disch:=first|assumption|omega|(simp only[zL];omega)) only[y5,List.length_map,eM,h,if_false,Int.reduceEq,reduceIte,zU,zT,aa]
theorem CW{l:List House}(h0:0<=k)(h1:k+sH l<=1000000000):wX [.list (l.map House.e),.int .i64 k]=some [.int .i64 (ens mH k l),.list ((mks mH k l).map House.e)]:=by
 rw[q_bt]
 show ah (am _ [.int .i64 k,.int .i64 0,.list (l.map House.e)])=_
 rw[gZ (m:=mH) (fun k l=>0<=k/\k+sH l<=1000000000) ⟨h0,h1⟩ (fun k x xs h=>by simp only[mH,il,sH,List.map_cons,List.sum_cons]at *;omega)]
 ·rfl
 ·intro i x k s xs hx hsx hs hb
  have hi:=(List.getElem?_eq_some_iff.1 hx).1
  have hi':(i:Int)<(s.length:Nat):=by omega
  have hi0:(0:Int)<=i:=by omega
  have hL:=zn l
  have hb2:0<=k/\k+(4+sR x.lg.rs)<=1000000000:=by simp only[sH,List.map_cons,List.sum_cons]at hb;omega
  have w2:k+1+1=k+2:=by omega
  have w3:k+2+1=k+3:=by omega
  have hc:=DI (k:=k+3) (l:=x.lg.rs) (by omega) (by omega)
  have he:=il x.lg.rs (k+3)
  have hse:(s.map House.e).set i [.int .i64 k,.bool (Int.tmod (k+1) 3==0),.int .i64 (k+2),.list ((mks mR (k+3) x.lg.rs).map Rec.e),.int .i64 (ens mR (k+3) x.lg.rs)]=(s.set i ⟨k,Int.tmod (k+1) 3==0,k+2,⟨mks mR (k+3) x.lg.rs,ens mR (k+3) x.lg.rs⟩⟩).map House.e:=by rw[List.map_set];rfl
  simp (disch:=first|assumption|omega|(simp only[zL];omega)) only[y3,List.length_map,hi',hi0,if_true,decide_true,Bool.and_self,Int.toNat_natCast,dV hsx,House.e,eqD,w2,w3,hc,hse,wrap64,mH,Int.reduceEq,reduceIte,zU,zT,aa]
  rfl
 ·intro k s hs
  have h:¬ ((l.length:Int)<(s.length:Nat)):=by omega
  simp (disch:=first|assumption|omega|(simp only[zL];omega)) only[y3,List.length_map,h,if_false,Int.reduceEq,reduceIte,zU,zT,aa]
theorem CX{l:List House}(h0:0<=k)(h1:k+sH l<=1000000000):xa [.list ((mks mH k l).map House.e),.int .i64 k]=some [.int .i64 (ens mH k l)]:=by
 rw[q_bx]
 show ah (am _ [.int .i64 k,.int .i64 0])=_
 rw[jP (m:=mH) (l:=l) (fun k l=>0<=k/\k+sH l<=1000000000) ⟨h0,h1⟩ (fun k x xs h=>by simp only[mH,il,sH,List.map_cons,List.sum_cons]at *;omega)]
 ·rfl
 ·intro i x k' xs hx hg hb
  have hi:=(List.getElem?_eq_some_iff.1 hx).1
  have hi':(i:Int)<(l.length:Nat):=by omega
  have hL:=zn l
  have hb2:0<=k'/\k'+(4+sR x.lg.rs)<=1000000000:=by simp only[sH,List.map_cons,List.sum_cons]at hb;omega
  simp only[mH]at hg
  have w2:k'+1+1=k'+2:=by omega
  have w3:k'+2+1=k'+3:=by omega
  have he:=il x.lg.rs (k'+3)
  have hc:=DJ (k:=k'+3) (l:=x.lg.rs) (by omega) (by omega)
  have hn:¬ (ens mR (k'+3) x.lg.rs<0):=by rw[he];omega
  simp (disch:=first|assumption|omega|(simp only[zL];omega)) only[y7,List.length_map,eM,hi',if_true,dV hg,House.e,w2,w3,hc,hn,if_false,BEq.rfl,Bool.not_true,wrap64,mH,Int.reduceEq,reduceIte,zU,zT,aa]
  rfl
 ·intro k'
  have h:¬ ((l.length:Int)<(l.length:Nat)):=by omega
  simp (disch:=first|assumption|omega|(simp only[zL];omega)) only[y7,List.length_map,eM,h,if_false,Int.reduceEq,reduceIte,zU,zT,aa]
end
end Dx
namespace Dx
open Go
def F8(k:Int)(w:Wd):Wd :=
 ⟨⟨w.dk.up,⟨mks mR k w.dk.lg.rs,w.dk.lg.f⟩,mks mW (ens mR k w.dk.lg.rs) w.dk.td⟩,mks mH (ens mW (ens mR k w.dk.lg.rs) w.dk.td) w.hs,mks mW (ens mH (ens mW (ens mR k w.dk.lg.rs) w.dk.td) w.hs) w.ns⟩
def l4(k:Int)(w:Wd):Int:=ens mW (ens mH (ens mW (ens mR k w.dk.lg.rs) w.dk.td) w.hs) w.ns
def sWd(w:Wd):Nat:=sR w.dk.lg.rs+4*w.dk.td.length+sH w.hs+4*w.ns.length
theorem kd(k:Int)(w:Wd):l4 k w=k+sWd w:=by
 unfold l4 sWd
 rw[qe,BR,qe,il];omega
section
variable {k:Int}
theorem k_Log{l:List Rec}{f:Int}(h0:0<=k)(h1:k+sR l<=1000000000):wV [.list (l.map Rec.e),.int .i64 f,.int .i64 k]=some [.int .i64 (ens mR k l),.list ((mks mR k l).map Rec.e),.int .i64 f]:=by
 rw[q_fl]
 simp (disch:=first|assumption|omega|(simp only[zL];omega)) only[F_fl,DI h0 h1,Int.reduceEq,reduceIte,zU,zT,aa]
theorem Ks{up:Bool}{l:List Rec}{f:Int}{td:List Word}(h0:0<=k)(h1:k+sR l+4*td.length<=1000000000):wW [.bool up,.list (l.map Rec.e),.int .i64 f,.list (td.map Word.e),.int .i64 k]=some [.int .i64 (ens mW (ens mR k l) td),.bool up,.list ((mks mR k l).map Rec.e),.int .i64 f,.list ((mks mW (ens mR k l) td).map Word.e)]:=by
 rw[q_dy]
 have e:=il l k
 have h2:=Al (k:=ens mR k l) (l:=td) (by omega) (by omega)
 simp (disch:=first|assumption|omega|(simp only[zL];omega)) only[F_dy,k_Log h0 (l:=l) (by omega),h2,Int.reduceEq,reduceIte,zU,zT,aa]
 try rfl
theorem ke{w:Wd}(h0:0<=k)(h1:k+sWd w<=1000000000):lD [.bool w.dk.up,.list (w.dk.lg.rs.map Rec.e),.int .i64 w.dk.lg.f,.list (w.dk.td.map Word.e),.list (w.hs.map House.e),.list (w.ns.map Word.e),.int .i64 k]=some (.int .i64 (l4 k w)::(F8 k w).e):=by
 rw[q_cn]
 unfold sWd at h1
 have e1:=il w.dk.lg.rs k
 have e2:=qe w.dk.td (ens mR k w.dk.lg.rs)
 have e3:=BR w.hs (ens mW (ens mR k w.dk.lg.rs) w.dk.td)
 have d1:=Ks (k:=k) (up:=w.dk.up) (l:=w.dk.lg.rs) (f:=w.dk.lg.f) (td:=w.dk.td) h0 (by omega)
 have d2:=CW (k:=ens mW (ens mR k w.dk.lg.rs) w.dk.td) (l:=w.hs) (by omega) (by omega)
 have d3:=Al (k:=ens mH (ens mW (ens mR k w.dk.lg.rs) w.dk.td) w.hs) (l:=w.ns) (by omega) (by omega)
 have hc:∀(a:Int) (b:Bool) (c:List (List C)) (d:Int) (e:List (List C)) (f:List C->Option Out),ac (some [.int .i64 a,.bool b,.list c,.int .i64 d,.list e]) [.int .i64,.bool,.list,.int .i64,.list] f=f [.int .i64 a,.bool b,.list c,.int .i64 d,.list e]:=fun _ _ _ _ _ _=>rfl
 simp (disch:=first|assumption|omega|(simp only[zL];omega)) only[F_cn,d1,d2,d3,hc,Int.reduceEq,reduceIte,zU,zT,aa]
 rfl
theorem F9{e:Ev}(h0:0<=k)(h1:k+e.m.length<=1000000000):wY [.int .i64 e.k,.int .i64 e.a,.int .i64 e.b,.list (e.m.map eI),.int .i64 k]=some [.int .i64 (ens mI k e.m),.int .i64 e.k,.int .i64 e.a,.int .i64 e.b,.list ((mks mI k e.m).map eI)]:=by
 rw[q_cg]
 simp (disch:=first|assumption|omega|(simp only[zL];omega)) only[F_cg,tn h0 h1,Int.reduceEq,reduceIte,zU,zT,aa]
theorem h_Log{l:List Rec}{f:Int}(h0:0<=k)(h1:k+sR l<=1000000000):w8 [.list ((mks mR k l).map Rec.e),.int .i64 f,.int .i64 k]=some [.int .i64 (ens mR k l)]:=by
 rw[q_ev]
 have e:=il l k
 have hn:¬ (ens mR k l<0):=by omega
 simp (disch:=first|assumption|omega|(simp only[zL];omega)) only[F_ev,DJ h0 h1,hn,if_false,Int.reduceEq,reduceIte,zU,zT,aa]
theorem Kt{up:Bool}{l:List Rec}{f:Int}{td:List Word}(h0:0<=k)(h1:k+sR l+4*td.length<=1000000000):w9 [.bool up,.list ((mks mR k l).map Rec.e),.int .i64 f,.list ((mks mW (ens mR k l) td).map Word.e),.int .i64 k]=some [.int .i64 (ens mW (ens mR k l) td)]:=by
 rw[q_de]
 have e:=il l k
 have e2:=qe td (ens mR k l)
 have hn:¬ (ens mR k l<0):=by omega
 have hn2:¬ (ens mW (ens mR k l) td<0):=by omega
 simp (disch:=first|assumption|omega|(simp only[zL];omega)) only[F_de,h_Log h0 (l:=l) (by omega),Am (k:=ens mR k l) (l:=td) (by omega) (by omega),hn,hn2,if_false,Int.reduceEq,reduceIte,zU,zT,aa]
theorem rF{w:Wd}(h0:0<=k)(h1:k+sWd w<=1000000000):jC ((F8 k w).e++[.int .i64 k])=some [.int .i64 (l4 k w)]:=by
 show jC [.bool w.dk.up,.list ((mks mR k w.dk.lg.rs).map Rec.e),.int .i64 w.dk.lg.f,.list ((mks mW (ens mR k w.dk.lg.rs) w.dk.td).map Word.e),.list ((mks mH (ens mW (ens mR k w.dk.lg.rs) w.dk.td) w.hs).map House.e),.list ((mks mW (ens mH (ens mW (ens mR k w.dk.lg.rs) w.dk.td) w.hs) w.ns).map Word.e),.int .i64 k]=_
 rw[q_ca]
 unfold sWd at h1
 have e1:=il w.dk.lg.rs k
 have e2:=qe w.dk.td (ens mR k w.dk.lg.rs)
 have e3:=BR w.hs (ens mW (ens mR k w.dk.lg.rs) w.dk.td)
 have e4:=qe w.ns (ens mH (ens mW (ens mR k w.dk.lg.rs) w.dk.td) w.hs)
 have n1:¬ (ens mW (ens mR k w.dk.lg.rs) w.dk.td<0):=by omega
 have n2:¬ (ens mH (ens mW (ens mR k w.dk.lg.rs) w.dk.td) w.hs<0):=by omega
 have n3:¬ (ens mW (ens mH (ens mW (ens mR k w.dk.lg.rs) w.dk.td) w.hs) w.ns<0):=by omega
 have d1:=Kt (k:=k) (up:=w.dk.up) (l:=w.dk.lg.rs) (f:=w.dk.lg.f) (td:=w.dk.td) h0 (by omega)
 have d2:=CX (k:=ens mW (ens mR k w.dk.lg.rs) w.dk.td) (l:=w.hs) (by omega) (by omega)
 have d3:=Am (k:=ens mH (ens mW (ens mR k w.dk.lg.rs) w.dk.td) w.hs) (l:=w.ns) (by omega) (by omega)
 simp (disch:=first|assumption|omega|(simp only[zL];omega)) only[F_ca,d1,d2,d3,n1,n2,n3,if_false,Int.reduceEq,reduceIte,zU,zT,aa]
 rfl
end
end Dx
namespace Dx
open Go
theorem Fe:∀ l:List Rec,sR l<=2*nRs l
 | []=>by simp[sR]
 | x::l=>by
  have:=Fe l
  simp only[sR,nRs,jr,List.map_cons,List.sum_cons,List.length_cons]at *;omega
theorem JB:∀ l:List House,sH l<=4*nHs l
 | []=>by simp[sH]
 | x::l=>by
  have:=JB l
  have:=Fe x.lg.rs
  simp only[sH,nHs,List.map_cons,List.sum_cons,List.length_cons]at *;omega
theorem zo(w:Wd):sWd w<=4*nWd w:=by
 have:=Fe w.dk.lg.rs
 have:=JB w.hs
 unfold sWd nWd;omega
theorem WB.ws{w:Wd}(b:WB w):WS w:=⟨⟨⟨b.rs,fun r hr=>by have:=b.m r hr;omega⟩,b.td⟩,fun x hx=>⟨(b.h x hx).1,fun r hr=>by have:=(b.h x hx).2 r hr;omega⟩,b.hs,b.ns⟩
theorem LgOk.wb{l:Log}(h:LgOk l):l.rs.length<=40/\∀ r∈l.rs,r.m.length<=3:=⟨h.len,fun r hr=>dx (h.ok r hr)⟩
theorem rG:∀ {l:List Rec},(∀ r∈l,r.m.length<=3)->jr l<=3*l.length
 | [],_=>by simp[jr]
 | x::l,h=>by
  have:=rG (l:=l) fun r hr=>h r (by simp[hr])
  have:=h x (by simp)
  simp only[jr,List.map_cons,List.sum_cons,List.length_cons]at *;omega
theorem DK:∀ {l:List House},(∀ h∈l,nRs h.lg.rs<=160)->nHo l<=160*l.length
 | [],_=>by simp[nHo]
 | x::l,h=>by
  have:=DK (l:=l) fun r hr=>h r (by simp[hr])
  have:=h x (by simp)
  simp only[nHo,List.map_cons,List.sum_cons,List.length_cons]at *;omega
theorem WOk.wb{w:Wd}(ho:WOk w):WB w/\sWd w<=100000:=by
 have d:=ho.dk.lg.wb
 have td:=ho.dk.tdlen
 have n:=ho.nlen
 have l:=ho.len
 have hh:∀ x∈w.hs,x.lg.rs.length<=40/\∀ r∈x.lg.rs,r.m.length<=3:=fun x hx=>by
  obtain⟨i,hi⟩:=List.mem_iff_getElem?.1 hx
  exact(ho.hs i x hi).1.lg.wb
 refine⟨⟨by omega,fun r hr=>by have:=d.2 r hr;omega,by omega,by omega,fun x hx=>⟨by have:=(hh x hx).1;omega,fun r hr=>by have:=(hh x hx).2 r hr;omega⟩,by omega⟩,?_⟩
 have h1:=rG d.2
 have h2:nHo w.hs<=160*w.hs.length:=DK fun x hx=>by
  have:=rG (hh x hx).2
  have:=(hh x hx).1
  unfold nRs;omega
 have e:nHs w.hs=w.hs.length+nHo w.hs:=rfl
 have:=zo w
 unfold nWd nRs at this
 omega
theorem DL:WB wd0/\sWd wd0<=100000:=by
 refine⟨⟨by simp[wd0],by simp[wd0],by simp[wd0],by simp[wd0],by simp[wd0],by simp[wd0]⟩,by decide⟩
theorem JC{c:Bool}{w:Wd}(h:c=true->WOk w):WB (if c then w else wd0)/\sWd (if c then w else wd0)<=100000:=by
 cases c with
 | true=>exact(h rfl).wb
 | false=>exact DL
structure WC (w:Wd):Prop where
 rs:w.dk.lg.rs.length<=9223372036854775807
 m:∀ r∈w.dk.lg.rs,r.m.length<=9223372036854775807
 td:w.dk.td.length<=9223372036854775807
 hs:w.hs.length<=9223372036854775807
 h:∀ x∈w.hs,x.lg.rs.length<=9223372036854775807/\∀ r∈x.lg.rs,r.m.length<=9223372036854775807
 ns:w.ns.length<=9223372036854775807
theorem nS:∀ {l:List Rec} {r:Rec},r∈l->r.m.length<=jr l
 | x::l,r,h=>by
  simp only[jr,List.map_cons,List.sum_cons]
  rcases List.mem_cons.1 h with rfl|h
  ·omega
  ·have:=nS h
   simp only[jr]at this;omega
theorem An:∀ {l:List House} {r:House},r∈l->nRs r.lg.rs<=nHo l
 | x::l,r,h=>by
  simp only[nHo,List.map_cons,List.sum_cons]
  rcases List.mem_cons.1 h with rfl|h
  ·omega
  ·have:=An h
   simp only[nHo]at this;omega
theorem JD{l:Int}{n:Nat}(h:¬ lft l n<0):(n:Int)<=l:=by
 unfold lft at h
 split at h<;>omega
theorem JE{w:Wd}(h:¬ lft 1048576 (nWd w)<0):WB w:=by
 have h:=JD h
 unfold nWd at h
 have e:nHs w.hs=w.hs.length+nHo w.hs:=rfl
 have e1:nRs w.dk.lg.rs=w.dk.lg.rs.length+jr w.dk.lg.rs:=rfl
 refine⟨by omega,fun r hr=>by have:=nS hr;omega,by omega,by omega,fun x hx=>?_,by omega⟩
 have:=An hx
 have e2:nRs x.lg.rs=x.lg.rs.length+jr x.lg.rs:=rfl
 exact⟨by omega,fun r hr=>by have:=nS hr;omega⟩
end Dx
namespace Dx
open Go
section
variable {Φ:Phi} {f:Nat} {xs:List Cell} {ks:List CK} {t e b:Tree} {env r cs:List C} {F:List C->Option (List C)} {X:Option (List C)} {a:At} {p:Prim} {v:C}
theorem sc(hΦ:Φ f=F)(h:F cs=some r)(ha:aL env xs=cs)(hk:ai ks r=true)(g:ah (den Φ t (env++r))=X):ah (den Φ (.call f xs ks t) env)=X:=by
 rw[uK,hΦ,ha,h,bB hk];exact g
theorem st(h:(a.den env).toBool=true)(g:ah (den Φ t env)=X):ah (den Φ (.ite a t e) env)=X:=by rw[z8,h];exact g
theorem sf(h:(a.den env).toBool=false)(g:ah (den Φ e env)=X):ah (den Φ (.ite a t e) env)=X:=by rw[z8,h];exact g
theorem sl(h:p.den (aL env xs)=v)(g:ah (den Φ t (env++[v]))=X):ah (den Φ (.letp p xs t) env)=X:=by rw[CN,h];exact g
theorem sj(h:den Φ b env=some (.jump cs))(hk:ai ks cs=true)(g:ah (den Φ t (env++cs))=X):ah (den Φ (.join ks b t) env)=X:=by
 rw[CP,h];simp only[aZ,gu hk];exact g
theorem dc{Y:Option Out}(hΦ:Φ f=F)(h:F cs=some r)(ha:aL env xs=cs)(hk:ai ks r=true)(g:den Φ t (env++r)=Y):den Φ (.call f xs ks t) env=Y:=by
 rw[uK,hΦ,ha,h,bB hk];exact g
theorem dj(h:aL env xs=cs):den Φ (.jump xs) env=some (.jump cs):=by rw[CO,h]
theorem Ao(h:aL env xs=cs):ah (den Φ (.ret xs) env)=some cs:=by rw[FZ,h];rfl
end
end Dx
namespace Dx
open Go
def nEv(l:List Ev):Nat:=(l.map fun e=>e.m.length).sum
theorem Ap:∀ {l:List Ev} {r:Ev},r∈l->r.m.length<=nEv l
 | x::l,r,h=>by
  simp only[nEv,List.map_cons,List.sum_cons]
  rcases List.mem_cons.1 h with rfl|h
  ·omega
  ·have:=Ap h
   simp only[nEv]at this;omega
section
variable {l k:Int}
theorem CY(h0:0<=l)(h1:l<=1048576){a:List Ev}(ha:a.length<=9223372036854775807)(hm:∀ r∈a,r.m.length<=9223372036854775807):xg [.list (a.map Ev.e),.int .i64 l]=some [.int .i64 (lft l (a.length+nEv a))]:=by
 rw[q_dn]
 by_cases h:l-(a.length:Int)<0
 ·simp (disch:=first|assumption|omega|(simp only[zL];omega)) only[F_dn,List.length_map,wrap64,h,if_true,Int.reduceEq,reduceIte,zU,zT,aa]
  unfold lft;rw[if_neg (by omega)]
 have key:=ak (l:=a) (F:=fun ps=>oG (a.map Ev.e) ((aa ps 0).toInt) ((aa ps 1).toInt)) (enc:=fun i (s:Int)=>[.int .i64 s,.int .i64 i])
  (res:=fun xs _ s=>.ret [.int .i64 (lft s (nEv xs))]) (fun _ s=>0<=s/\s<=1048576) (s:=l-a.length) (by omega) ?_ ?_
 ·simp (disch:=first|assumption|omega|(simp only[zL];omega)) only[F_dn,List.length_map,wrap64,h,if_false,Int.reduceEq,reduceIte,zU,zT,aa]
  have key:am _ [C.int .i64 (l-(a.length:Int)),C.int .i64 0]=_:=key
  rw[key]
  have:=eL l a.length (nEv a) h0
  rw[<-this]
  have e:lft l a.length=l-a.length:=by unfold lft;rw[if_pos (by omega)]
  rw[e,if_neg h];rfl
 ·intro i x xs s hx ⟨hs0,hs1⟩
  have hi:=(List.getElem?_eq_some_iff.1 hx).1
  have hi':(i:Int)<(a.length:Nat):=by omega
  have hz:=Ae (e:=x) hs0 hs1 (hm x (List.mem_of_getElem? hx))
  have hc:=eL s x.m.length (nEv xs) hs0
  have hn:nEv (x::xs)=x.m.length+nEv xs:=by simp[nEv]
  by_cases hneg:lft s x.m.length<0
  ·refine .inr ⟨.ret [.int .i64 (-1)],?_,?_⟩
   ·simp (disch:=first|assumption|omega|(simp only[zL];omega)) only[oG,List.length_map,hi',if_true,mO hx,Ev.e,hz,hneg,Int.reduceEq,reduceIte,zU,zT,aa]
   ·rw[hn,<-hc,if_pos hneg]
  ·refine .inl ⟨lft s x.m.length,?_,⟨by omega,by have:=zi (n:=x.m.length) hs0;omega⟩,?_⟩
   ·simp (disch:=first|assumption|omega|(simp only[zL];omega)) only[oG,List.length_map,hi',if_true,mO hx,Ev.e,hz,hneg,if_false,ap,Int.reduceEq,reduceIte,zU,zT,aa]
   ·rw[hn,<-hc,if_neg hneg]
 ·intro s ⟨hs0,hs1⟩
  have h:¬ ((a.length:Int)<(a.length:Nat)):=by omega
  simp (disch:=first|assumption|omega|(simp only[zL];omega)) only[oG,List.length_map,h,if_false,Int.reduceEq,reduceIte,zU,zT,aa]
  unfold lft;rw[if_pos (by simp[nEv];omega)];simp[nEv]
theorem Ga(a b c:Int)(d:List (List C))(f:List C->Option Out):ac (some [.int .i64 a,.int .i64 b,.int .i64 c,.list d]) [.int .i64,.int .i64,.int .i64,.list] f=f [.int .i64 a,.int .i64 b,.int .i64 c,.list d]:=rfl
theorem CZ{l:List Ev}(hl:l.length<=2000000)(hm:∀ r∈l,r.m.length<=2000000):xh [.list (l.map Ev.e)]=some [.list (l.map Ev.e)]:=by
 rw[q_do]
 have hb:(((l.length:Nat):Int)==((l.length:Nat):Int))=true:=by simp
 simp (disch:=first|assumption|omega|(simp only[zL];omega)) only[F_do,List.length_map,hb,Int.toNat_natCast,Int.reduceEq,reduceIte,zU,zT,aa]
 have key:=gY (e:=Ev.e) (l:=l) (F:=fun ps=>s6 (l.map Ev.e) ((aa ps 0).toInt) ((aa ps 1).toList)) ev0 (o:=.ret [.list (l.map Ev.e)]) ?_ ?_
 ·have key:am _ [C.int .i64 0,.list (List.replicate l.length [C.int .i64 0,C.int .i64 0,C.int .i64 0,C.list []])]=_:=key
  rw[key];rfl
 ·intro i x s hx hs
  have hi:=(List.getElem?_eq_some_iff.1 hx).1
  have hi':(i:Int)<(l.length:Nat):=by omega
  have hi2:(i:Int)<(s.length:Nat):=by omega
  have hi0:(0:Int)<=i:=by omega
  have hc:=Ah (hm x (List.mem_of_getElem? hx))
  have hsx:s[i]?=some s[i]:=List.getElem?_eq_getElem (by omega)
  have hse:(s.map Ev.e).set i [.int .i64 x.k,.int .i64 x.a,.int .i64 x.b,.list (x.m.map eI)]=(s.set i x).map Ev.e:=by rw[List.map_set];rfl
  simp (disch:=first|assumption|omega|(simp only[zL];omega)) only[s6,List.length_map,hi',if_true,mO hx,mO hsx,eqD,hse,Ev.e,hc,Ga,hi0,hi2,decide_true,Bool.and_self,Int.toNat_natCast,ap,Int.reduceEq,reduceIte,zU,zT,aa]
 ·have h:¬ ((l.length:Int)<(l.length:Nat)):=by omega
  simp (disch:=first|assumption|omega|(simp only[zL];omega)) only[s6,List.length_map,h,if_false,Int.reduceEq,reduceIte,zU,zT,aa]
end
theorem C0{l:List Ev}(hl:l.length<=2000000)(hm:∀ r∈l,r.m.length<=2000000):xq [.list (l.map Ev.e),.list (l.map Ev.e)]=some [.bool true]:=by
 rw[q_ea]
 have key:=ak (l:=l) (F:=fun ps=>tb (l.map Ev.e) (l.map Ev.e) ((aa ps 0).toInt)) (enc:=fun i (_:Unit)=>[.int .i64 i]) (res:=fun _ _ _=>.ret [.bool true]) (fun _ _=>True) (s:=()) trivial ?_ ?_
 ·simp (disch:=first|assumption|omega|(simp only[zL];omega)) only[F_ea,List.length_map,Int.reduceEq,reduceIte,zU,zT,aa]
  have key:am _ [C.int .i64 0]=_:=key
  simp only[if_true,key]
  rfl
 ·intro i x xs s hx _
  have hi:=(List.getElem?_eq_some_iff.1 hx).1
  have hi':(i:Int)<(l.length:Nat):=by omega
  have hc:=Aj (hm x (List.mem_of_getElem? hx))
  refine .inl ⟨(),?_,trivial,rfl⟩
  simp (disch:=first|assumption|omega|(simp only[zL];omega)) only[tb,List.length_map,hi',if_true,mO hx,Ev.e,hc,Bool.not_true,ap,Int.reduceEq,reduceIte,zU,zT,aa]
 ·intro s hs
  have h:¬ ((l.length:Int)<(l.length:Nat)):=by omega
  simp (disch:=first|assumption|omega|(simp only[zL];omega)) only[tb,List.length_map,h,if_false,Int.reduceEq,reduceIte,zU,zT,aa]
def mE(k:Int)(e:Ev):Ev×Int:=(⟨k,k+1,k+2,mks mI (k+3) e.m⟩,ens mI (k+3) e.m)
def sE(l:List Ev):Nat:=(l.map fun e=>3+e.m.length).sum
theorem DM:∀ l:List Ev,3*l.length<=sE l
 | []=>by simp
 | x::l=>by
  have:=DM l
  simp only[sE,List.map_cons,List.sum_cons,List.length_cons]at *;omega
theorem JF:∀(l:List Ev) (k:Int),ens mE k l=k+sE l
 | [],k=>by simp[ens,sE]
 | x::l,k=>by simp only[ens,mE,JF l,lI,sE,List.map_cons,List.sum_cons];omega
theorem C1{k:Int}{l:List Ev}(h0:0<=k)(h1:k+sE l<=1000000000):xr [.list (l.map Ev.e),.int .i64 k]=some [.int .i64 (ens mE k l),.list ((mks mE k l).map Ev.e)]:=by
 rw[q_bn]
 show ah (am _ [.int .i64 k,.int .i64 0,.list (l.map Ev.e)])=_
 rw[gZ (m:=mE) (fun k l=>0<=k/\k+sE l<=1000000000) ⟨h0,h1⟩ (fun k x xs h=>by simp only[mE,lI,sE,List.map_cons,List.sum_cons]at *;omega)]
 ·rfl
 ·intro i x k s xs hx hsx hs hb
  have hi:=(List.getElem?_eq_some_iff.1 hx).1
  have hi':(i:Int)<(s.length:Nat):=by omega
  have hi0:(0:Int)<=i:=by omega
  have hL:=DM l
  have hb2:0<=k/\k+(3+x.m.length)<=1000000000:=by simp only[sE,List.map_cons,List.sum_cons]at hb;omega
  have w2:k+1+1=k+2:=by omega
  have w3:k+2+1=k+3:=by omega
  have hc:=tn (k:=k+3) (l:=x.m) (by omega) (by omega)
  have hse:(s.map Ev.e).set i [.int .i64 k,.int .i64 (k+1),.int .i64 (k+2),.list ((mks mI (k+3) x.m).map eI)]=(s.set i ⟨k,k+1,k+2,mks mI (k+3) x.m⟩).map Ev.e:=by rw[List.map_set];rfl
  simp (disch:=first|assumption|omega|(simp only[zL];omega)) only[zc,List.length_map,hi',hi0,if_true,decide_true,Bool.and_self,Int.toNat_natCast,mO hsx,Ev.e,eqD,w2,w3,hc,hse,wrap64,mE,Int.reduceEq,reduceIte,zU,zT,aa]
  rfl
 ·intro k s hs
  have h:¬ ((l.length:Int)<(s.length:Nat)):=by omega
  simp (disch:=first|assumption|omega|(simp only[zL];omega)) only[zc,List.length_map,h,if_false,Int.reduceEq,reduceIte,zU,zT,aa]
end Dx
