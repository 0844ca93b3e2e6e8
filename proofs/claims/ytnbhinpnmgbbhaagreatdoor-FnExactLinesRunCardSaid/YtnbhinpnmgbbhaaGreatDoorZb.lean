import Derived.Test.YtnbhinpnmgbbhaaGreatDoorZa
set_option linter.all false
namespace Dx
open Go
structure WS (w:Wd):Prop where
 dk:DkS w.dk
 hs:∀ x∈w.hs,LgS x.lg
 hl:w.hs.length<=2000000
 nl:w.ns.length<=2000000
theorem WOk.ws{w:Wd}(h:WOk w):WS w:=⟨h.dk.S,fun x hx=>by
 obtain⟨i,hi⟩:=List.getElem?_of_mem hx
 exact(h.hs i x hi).1.lg.S,by have:=h.len;omega,by have:=h.nlen;omega⟩
section
variable {up b:Bool} {rs:List Rec} {f:Int} {td:List Word} {k h t m:Int} {id room:Int} {hs:List House} {ns:List Word} {w:Wd}
theorem BN(hl:LgS ⟨rs,f⟩):rR [.list (rs.map Rec.e),.int .i64 f]=some [.bool (gD ⟨rs,f⟩)]:=by
 rw[q_gp]
 have h1:=hl.1
 simp only at h1
 unfold F_gp
 refine Eq.trans (congrArg ai (am (l:=rs) (enc:=fun i (_:Unit)=>[.int .i64 i]) (res:=fun xs _ _=>.ret [.bool (xs.all aH && (decide (rs.length<=40) && in_ f 0 rs.length))]) (fun _ _=>True) (s:=()) trivial ?_ ?_)) rfl
 ·intro i x xs _ hx _
  have hi:=(List.getElem?_eq_some_iff.1 hx).1
  have hi':(i:Int)<(rs.length:Nat):=by omega
  have hm:x.m.length<=1099511627776:=hl.2 x (List.mem_of_getElem? hx)
  simp only[aa,C.toInt_int]
  unfold AI
  simp (disch:=first|assumption|omega|(simp only[zL];omega)) only[oL hx,Rec.e,hi',if_true,oO hm,ap,Int.reduceEq,reduceIte,zU,zT,aa]
  cases hr:aH x with
  | true=>exact .inl ⟨(),rfl,trivial,by simp[hr]⟩
  | false=>exact .inr ⟨_,rfl,by simp[hr]⟩
 ·intro _ _
  have h:¬ ((rs.length:Int)<(rs.length:Nat)):=by omega
  simp only[aa,C.toInt_int]
  unfold AI
  by_cases h40:((rs.length:Nat):Int)<=40
  ·have h40':rs.length<=40:=by omega
   simp (disch:=first|assumption|omega|(simp only[zL];omega)) only[h,if_false,h40,h40',if_true,bN,decide_true,Bool.true_and,List.all_nil,Int.reduceEq,reduceIte,zU,zT,aa]
  ·have h40':¬ (rs.length<=40):=by omega
   simp (disch:=first|assumption|omega|(simp only[zL];omega)) only[h,if_false,h40,h40',decide_false,Bool.false_and,Bool.and_false,Int.reduceEq,reduceIte,zU,zT,aa]
theorem EC(hs:DkS ⟨up,⟨rs,f⟩,td⟩):yS [.bool up,.list (rs.map Rec.e),.int .i64 f,.list (td.map Word.e)]=some [.bool (fq ⟨up,⟨rs,f⟩,td⟩)]:=by
 rw[q_gh]
 have hS:LgS ⟨rs,f⟩:=hs.lg
 have htd:td.length<=2000000:=by have:=hs.td;simp only at this;omega
 have h12:=BG (rs:=rs) hS.1 hS.2
 unfold fq
 simp only
 simp (disch:=first|assumption|omega|(simp only[zL];omega)) only[F_gh,h12,BN hS,Int.reduceEq,reduceIte,zU,zT,aa]
 cases hlo:gD ⟨rs,f⟩with
 | false=>simp only[ar,Bool.false_and,aE]
 | true =>
  simp only[ax,Bool.true_and]
  cases htr:bc rs with
  | none=>simp only[Option.isSome_none,ar,aE]
  | some l =>
   simp only[Option.isSome_some,ax,Option.getD_some]
   have hl6:l.length<=6:=(j9 htr).len
   refine Eq.trans (congrArg ai (am (l:=td) (enc:=fun i (_:Unit)=>[.int .i64 i]) (res:=fun xs i _=>.ret [.bool (d9 l.length (td.take i) xs && (up || td.isEmpty))]) (fun _ _=>True) (s:=()) trivial ?_ ?_)) rfl
   ·intro i x xs _ hx _
    have hi:=(List.getElem?_eq_some_iff.1 hx).1
    have hi':(i:Int)<(td.length:Nat):=by omega
    have hil:(i:Int)<=(td.length:Nat):=by omega
    have hi0:(0:Int)<=(i:Int):=by omega
    have htk:(td.map Word.e).take ((i:Int).toNat)=(td.take i).map Word.e:=by rw[Int.toNat_natCast,List.map_take]
    have htn:td.take (i+1)=td.take i++[x]:=by rw[List.take_add_one,hx];rfl
    have hl1:(td.take i).length<=1099511627775:=by rw[List.length_take];omega
    simp only[aa,C.toInt_int]
    unfold AJ
    simp (disch:=first|assumption|omega|(simp only[zL];omega)) only[jv hx,Word.e,hi',if_true,je,hi0,hil,decide_true,Bool.and_self,htk,gK hl1,ap,Int.reduceEq,reduceIte,zU,zT,aa]
    cases hw:bJ x with
    | false =>
     refine .inr ⟨_,rfl,?_⟩
     simp[d9,hw]
    | true =>
     simp only[ax]
     by_cases h4:x.k<4
     ·refine .inr ⟨_,by simp only[h4,if_true];rfl,?_⟩
      have:¬ (4<=x.k):=by omega
      simp[d9,this]
     ·simp only[h4,if_false]
      by_cases htt:x.t>(l.length:Nat)
      ·refine .inr ⟨_,by simp only[htt,if_true];rfl,?_⟩
       have:¬ (x.t<=(l.length:Nat)):=by omega
       simp[d9,this]
      ·simp only[htt,if_false]
       cases hc:(td.take i).contains x with
       | true =>
        refine .inr ⟨_,rfl,?_⟩
        simp only[d9,hc,Bool.not_true,Bool.and_false,Bool.false_and]
       | false =>
        refine .inl ⟨(),rfl,trivial,?_⟩
        have g4:x.k>=4:=by omega
        have gt:x.t<=(l.length:Nat):=by omega
        simp only[d9,hw,hc,g4,gt,decide_true,Bool.and_true,Bool.not_false,Bool.true_and,htn]
   ·intro _ _
    have h:¬ ((td.length:Int)<(td.length:Nat)):=by omega
    simp only[aa,C.toInt_int]
    unfold AJ
    have he:(((td.length:Nat):Int)==0)=td.isEmpty:=by cases td<;>simp;omega
    simp (disch:=first|assumption|omega|(simp only[zL];omega)) only[h,if_false,he,d9,Bool.true_and,Int.reduceEq,reduceIte,zU,zT,aa]
    cases up<;>rfl
theorem Da(hl:LgS ⟨rs,f⟩):yT [.int .i64 id,.bool up,.int .i64 room,.list (rs.map Rec.e),.int .i64 f]=some [.bool (dQ ⟨id,up,room,⟨rs,f⟩⟩)]:=by
 rw[q_ek]
 have h2:=Fq (room:=room) (rs:=rs) hl.1 hl.2
 simp only[Stock.e,List.cons_append,List.nil_append]at h2
 unfold dQ
 simp (disch:=first|assumption|omega|(simp only[zL];omega)) only[F_ek,h2,bN,BN hl,Int.reduceEq,reduceIte,zU,zT,aa]
 cases in_ id 1 3 with
 | false=>rfl
 | true=>cases gD ⟨rs,f⟩<;>rfl
theorem Db(hL:ns.length<=2000000):aq (fun ps=>va (ns.map Word.e) ((aa ps 0).toInt)) [.int .i64 0]=some (.ret [.bool (ns.all bJ)]):=by
 refine am (l:=ns) (enc:=fun i (_:Unit)=>[.int .i64 i]) (res:=fun xs _ _=>.ret [.bool (xs.all bJ)]) (fun _ _=>True) (s:=()) trivial ?_ ?_
 ·intro i x xs _ hx _
  have hi:=(List.getElem?_eq_some_iff.1 hx).1
  have hi':(i:Int)<(ns.length:Nat):=by omega
  simp only[aa,C.toInt_int]
  unfold va
  simp (disch:=first|assumption|omega|(simp only[zL];omega)) only[jv hx,Word.e,hi',if_true,je,ap,Int.reduceEq,reduceIte,zU,zT,aa]
  cases hr:bJ x with
  | true=>exact .inl ⟨(),rfl,trivial,by simp[hr]⟩
  | false=>exact .inr ⟨_,rfl,by simp[hr]⟩
 ·intro _ _
  have h:¬ ((ns.length:Int)<(ns.length:Nat)):=by omega
  simp only[aa,C.toInt_int]
  unfold va
  simp (disch:=first|assumption|omega|(simp only[zL];omega)) only[h,if_false,Int.reduceEq,reduceIte,zU,zT,aa]
  rfl
theorem sO(hw:WS w):ov [.bool w.dk.up,.list (w.dk.lg.rs.map Rec.e),.int .i64 w.dk.lg.f,.list (w.dk.td.map Word.e),.list (w.hs.map House.e),.list (w.ns.map Word.e)]=some [.bool (jG w)]:=by
 rw[q_et]
 obtain⟨⟨up,⟨rs,f⟩,td⟩,hs,ns⟩:=w
 have hd:DkS ⟨up,⟨rs,f⟩,td⟩:=hw.dk
 have hhs:=hw.hs
 have hhl:=hw.hl
 have hnl:=hw.nl
 simp only at hhs hhl hnl
 unfold jG
 simp only
 simp (disch:=first|assumption|omega|(simp only[zL];omega)) only[F_et,EC hd,Int.reduceEq,reduceIte,zU,zT,aa]
 cases fq ⟨up,⟨rs,f⟩,td⟩with
 | false=>rfl
 | true =>
  simp only[ax,Bool.true_and]
  by_cases h3:((hs.length:Nat):Int)=3
  ·have h3':hs.length=3:=by omega
   have h3b:(hs.length==3)=true:=by simp[h3']
   simp only[h3,if_true,h3b,Bool.true_and]
   by_cases h14:((ns.length:Nat):Int)>14
   ·have h14':¬ (ns.length<=14):=by omega
    simp[h14,h14']
   ·have h14':ns.length<=14:=by omega
    simp only[h14,h14',if_false,decide_true,Bool.true_and]
    refine Eq.trans (congrArg ai (am (l:=hs) (enc:=fun i (_:Unit)=>[.int .i64 i]) (res:=fun xs i _=>.ret [.bool (xs.all dQ && ((xs.zipIdx (i+1)).all (fun p=>p.1.id==(p.2:Int)) && ns.all bJ))]) (fun _ _=>True) (s:=()) trivial ?_ ?_)) rfl
    ·intro i x xs _ hx _
     have hi:=(List.getElem?_eq_some_iff.1 hx).1
     have hi':(i:Int)<((3:Nat):Int):=by omega
     have hxl:LgS ⟨x.lg.rs,x.lg.f⟩:=hhs x (List.mem_of_getElem? hx)
     simp only[aa,C.toInt_int]
     unfold AK
     simp (disch:=first|assumption|omega|(simp only[zL];omega)) only[iQ hx,House.e,h3',h3,hi',if_true,Da hxl,ap,Int.reduceEq,reduceIte,zU,zT,aa]
     cases hr:dQ x with
     | false=>exact .inr ⟨_,rfl,by simp[hr]⟩
     | true =>
      simp only[ax]
      by_cases hid:x.id=((i+1:Nat):Int)
      ·refine .inl ⟨(),by simp only[hid,if_true],trivial,?_⟩
       have:(x.id==((i+1:Nat):Int))=true:=by simpa using hid
       simp only[List.all_cons,hr,Bool.true_and,List.zipIdx_cons,this]
      ·refine .inr ⟨_,by simp only[hid,if_false];rfl,?_⟩
       have:(x.id==((i+1:Nat):Int))=false:=by simpa using hid
       simp only[List.all_cons,hr,Bool.true_and,List.zipIdx_cons,this,Bool.false_and,Bool.and_false]
    ·intro _ _
     have h:¬ ((hs.length:Int)<(hs.length:Nat)):=by omega
     simp only[aa,C.toInt_int]
     unfold AK
     simp (disch:=first|assumption|omega|(simp only[zL];omega)) only[h,if_false,Db hnl,Int.reduceEq,reduceIte,zU,zT,aa]
     simp
  ·have h3b:(hs.length==3)=false:=by simp;omega
   simp only[h3,if_false,ar,ax,h3b,Bool.false_and,aE]
end
end Dx
namespace Dx
open Go
section
variable {up b:Bool} {rs:List Rec} {f:Int} {td:List Word} {k h t m:Int} {id room:Int} {hs:List House} {ns:List Word} {w:Wd}
theorem wu{ms:List Int}(hm:ms.length<=1099511627776):yU [.int .i64 k,.int .i64 t,.list (ms.map eI)]=some [.int .i64 k,.int .i64 t,.list (ms.map eI)]:=by
 rw[q_de]
 simp (disch:=first|assumption|omega|(simp only[zL];omega)) only[F_de,Int.reduceEq,reduceIte,zU,zT,aa]
theorem w8(hl:LgS ⟨rs,f⟩):rU [.list (rs.map Rec.e),.int .i64 f]=some [.list (rs.map Rec.e),.int .i64 f]:=by
 rw[q_fn]
 have h1:=hl.1
 simp only at h1
 unfold F_fn
 refine Eq.trans (congrArg ai (am (l:=rs) (enc:=fun i (s:List Rec)=>[.int .i64 i,.list (s.map Rec.e)]) (res:=fun xs _ s=>.ret [.list ((s++xs).map Rec.e),.int .i64 f]) (fun i s=>s.length=i) (s:=[]) rfl ?_ ?_)) rfl
 ·intro i x xs s hx hs
  have hi:=(List.getElem?_eq_some_iff.1 hx).1
  have hi':(i:Int)<(rs.length:Nat):=by omega
  have hm:x.m.length<=1099511627776:=hl.2 x (List.mem_of_getElem? hx)
  have hc:s.length+1<=1099511627776:=by omega
  simp only[aa,C.toInt_int,C.toList_list]
  unfold AL
  simp (disch:=first|assumption|omega|(simp only[zL];omega)) only[oL hx,Rec.e,hi',if_true,wu hm,hc,ap,Int.reduceEq,reduceIte,zU,zT,aa]
  refine .inl ⟨s++[x],?_,by simp[hs],by simp⟩
  simp[Rec.e]
 ·intro s _
  have h:¬ ((rs.length:Int)<(rs.length:Nat)):=by omega
  simp only[aa,C.toInt_int,C.toList_list]
  unfold AL
  simp (disch:=first|assumption|omega|(simp only[zL];omega)) only[h,if_false,Int.reduceEq,reduceIte,zU,zT,aa]
  simp
theorem Dc(hl:LgS ⟨rs,f⟩):yW [.int .i64 id,.bool up,.int .i64 room,.list (rs.map Rec.e),.int .i64 f]=some [.int .i64 id,.bool up,.int .i64 room,.list (rs.map Rec.e),.int .i64 f]:=by
 rw[q_fg]
 simp (disch:=first|assumption|omega|(simp only[zL];omega)) only[F_fg,w8 hl,Int.reduceEq,reduceIte,zU,zT,aa]
theorem Dd(hd:DkS ⟨up,⟨rs,f⟩,td⟩):yV [.bool up,.list (rs.map Rec.e),.int .i64 f,.list (td.map Word.e)]=some [.bool up,.list (rs.map Rec.e),.int .i64 f,.list (td.map Word.e)]:=by
 rw[q_ff]
 have htd:td.length<=1099511627776:=by have:=hd.td;simp only at this;omega
 have hl:LgS ⟨rs,f⟩:=hd.lg
 simp (disch:=first|assumption|omega|(simp only[zL];omega)) only[F_ff,w8 hl,htd,Int.reduceEq,reduceIte,zU,zT,aa]
theorem De(hw:WS w):yX [.bool w.dk.up,.list (w.dk.lg.rs.map Rec.e),.int .i64 w.dk.lg.f,.list (w.dk.td.map Word.e),.list (w.hs.map House.e),.list (w.ns.map Word.e)]=some w.e:=by
 rw[q_eu]
 have hd:DkS ⟨w.dk.up,⟨w.dk.lg.rs,w.dk.lg.f⟩,w.dk.td⟩:=hw.dk
 have hnl:=hw.nl
 have hhl:=hw.hl
 simp (disch:=first|assumption|omega|(simp only[zL];omega)) only[F_eu,Dd hd,Fk,Int.reduceEq,reduceIte,zU,zT,aa]
 have key:=am (l:=w.hs) (F:=fun ps=>vb (w.hs.map House.e) w.dk.up w.dk.lg.f (w.dk.lg.rs.map Rec.e) (w.dk.td.map Word.e) (w.ns.map Word.e) ((aa ps 0).toInt) ((aa ps 1).toList)) (enc:=fun i (s:List House)=>[.int .i64 i,.list (s.map House.e)])
  (res:=fun xs _ s=>.ret [.bool w.dk.up,.list (w.dk.lg.rs.map Rec.e),.int .i64 w.dk.lg.f,.list (w.dk.td.map Word.e),.list ((s++xs).map House.e),.list (w.ns.map Word.e)]) (fun i s=>s.length=i) (s:=[]) rfl ?_ ?_
 ·have key:aq _ [C.int .i64 0,C.list []]=_:=key
  rw[key];rfl
 ·intro i x xs s hx hs
  have hi:=(List.getElem?_eq_some_iff.1 hx).1
  have hi':(i:Int)<(w.hs.length:Nat):=by omega
  have hxl:LgS ⟨x.lg.rs,x.lg.f⟩:=hw.hs x (List.mem_of_getElem? hx)
  have hc:s.length+1<=1099511627776:=by omega
  simp (disch:=first|assumption|omega|(simp only[zL];omega)) only[vb,iQ hx,House.e,Dc hxl,ap,hi',hc,if_true,Int.reduceEq,reduceIte,zU,zT,aa]
  exact .inl ⟨s++[x],by simp[House.e],by simp[hs],by simp⟩
 ·intro s hs
  have h:¬ ((w.hs.length:Int)<(w.hs.length:Nat)):=by omega
  simp (disch:=first|assumption|omega|(simp only[zL];omega)) only[vb,h,if_false,Int.reduceEq,reduceIte,zU,zT,aa]
  simp
end
end Dx
namespace Dx
open Go
section
variable {w:Wd}
theorem Df(ho:WOk w) :
  y2 [.bool w.dk.up,.list (w.dk.lg.rs.map Rec.e),.int .i64 w.dk.lg.f,.list (w.dk.td.map Word.e),.list (w.hs.map House.e),.list (w.ns.map Word.e)]=some (aY w).e:=by
 rw[q_ep]
 unfold F_ep
 have L0:∀ w:Wd,WOk w->aq (fun ps=>vh ((aa ps 0).toInt) ((aa ps 1).toBool) ((aa ps 2).toInt) ((aa ps 3).toList) ((aa ps 4).toList) ((aa ps 5).toList) ((aa ps 6).toList))
   [.int .i64 0,.bool w.dk.up,.int .i64 w.dk.lg.f,.list (w.dk.lg.rs.map Rec.e),.list (w.dk.td.map Word.e),.list (w.hs.map House.e),.list (w.ns.map Word.e)]=some (.ret (aX w).e):=by
  intro w ow
  rw[<-sN ow]
  refine am (l:=([0,1,2,3]:List Int)) (enc:=fun i (w:Wd)=>[.int .i64 i,.bool w.dk.up,.int .i64 w.dk.lg.f,.list (w.dk.lg.rs.map Rec.e),.list (w.dk.td.map Word.e),.list (w.hs.map House.e),.list (w.ns.map Word.e)]) (res:=fun xs _ w=>.ret (xs.foldl cO w).e) (fun _ w=>WOk w) (s:=w) ow ?_ ?_
  ·intro i x xs w hx ow
   have hi:(i:Int)<=3/\x=(i:Int):=by
    have:=(List.getElem?_eq_some_iff.1 hx).1
    simp at this
    have h4:i=0\/i=1\/i=2\/i=3:=by omega
    rcases h4 with e|e|e|e<;>subst e<;>simp at hx<;>subst hx<;>simp
   obtain⟨hi,rfl⟩:=hi
   have he:=oR (up:=w.dk.up) (rs:=w.dk.lg.rs) (f:=w.dk.lg.f) (td:=w.dk.td) (hs:=w.hs) (ns:=w.ns) ow.len (fun x hx=>by have:=(ow.ws.hs x hx).1;exact this) (i:=(i:Int)) ⟨by omega,hi⟩
   refine .inl ⟨cO w i,?_,ow.forceEv _,rfl⟩
   simp only[aa,C.toInt_int,C.toBool_bool,C.toList_list]
   unfold vh
   simp only[aT,hi,if_true,he]
   simp only[lw,lx,jI]
   simp only[Wd.e,dR,aa,C.toInt_int,C.toList_list,C.toBool_bool]
   rw[ap (by omega)]
  ·intro w ow
   have h:¬ (((4:Nat):Int)<=3):=by omega
   simp only[List.length_cons,List.length_nil,Wd.e,aa,C.toInt_int,C.toBool_bool,C.toList_list]
   unfold vh
   simp only[aT,h,if_false]
   rfl
 have L1:∀(l:List Word) (w:Wd),l.length<=1000->WOk w->(∀ x∈l,WdOk x)->aq (fun ps=>vi (l.map Word.e) ((aa ps 0).toInt) ((aa ps 1).toBool) ((aa ps 2).toInt) ((aa ps 3).toList) ((aa ps 4).toList) ((aa ps 5).toList) ((aa ps 6).toList))
   [.int .i64 0,.bool w.dk.up,.int .i64 w.dk.lg.f,.list (w.dk.lg.rs.map Rec.e),.list (w.dk.td.map Word.e),.list (w.hs.map House.e),.list (w.ns.map Word.e)]=some (.ret (aX (cE w l)).e):=by
  intro l w hl ow hw
  refine am (l:=l) (enc:=fun i (w:Wd)=>[.int .i64 i,.bool w.dk.up,.int .i64 w.dk.lg.f,.list (w.dk.lg.rs.map Rec.e),.list (w.dk.td.map Word.e),.list (w.hs.map House.e),.list (w.ns.map Word.e)]) (res:=fun xs _ w=>.ret (aX (cE w xs)).e) (fun _ w=>WOk w) (s:=w) ow ?_ ?_
  ·intro i x xs w hx ow
   have hi:=(List.getElem?_eq_some_iff.1 hx).1
   have hi':(i:Int)<(l.length:Nat):=by omega
   have hxo:=hw x (List.mem_of_getElem? hx)
   have htd:∀ {v:Wd},WOk v->v.dk.td.length<=1099511627774:=fun h=>by have:=h.dk.tdlen;omega
   have hhe:=mq (up:=w.dk.up) (rs:=w.dk.lg.rs) (f:=w.dk.lg.f) (td:=w.dk.td) (hs:=w.hs) (ns:=w.ns) (k:=x.k) (h:=x.h) (t:=x.t) (m:=x.m) ow (htd ow) hxo
   have o2:=ow.hear hxo
   refine .inl ⟨bj w x,?_,ow.hear2 hxo,rfl⟩
   simp only[aa,C.toInt_int,C.toBool_bool,C.toList_list]
   unfold vi
   have hd:(decide ((0:Int)<=(i:Int)) && decide ((i:Int)<(((l.map Word.e).length:Nat):Int)))=true:=by simp;omega
   rw[AZ (by omega) (by simpa using hx)]
   simp only[List.length_map]at hd
   simp only[List.length_map,aT,hi',if_true,hd,dq,Word.e,aa,C.toInt_int,hhe]
   simp only[lw,lx,jI,vx]
   unfold bj
   generalize bp w x=q at o2 ⊢
   obtain⟨q1,q2⟩:=q
   rw[ap (by omega)]
   cases q2 with
   | none =>
    simp only[oW,Word.e,Wd.e,List.cons_append,List.nil_append,Option.isSome_none]
    rw[bR rfl]
    rfl
   | some y =>
    have hq:WOk q1:=o2.1
    have hyo:=(o2.2 y rfl).1
    have h4:=(o2.2 y rfl).2
    have hy:=mq (up:=q1.dk.up) (rs:=q1.dk.lg.rs) (f:=q1.dk.lg.f) (td:=q1.dk.td) (hs:=q1.hs) (ns:=q1.ns) (k:=y.k) (h:=y.h) (t:=y.t) (m:=y.m) hq (htd hq) hyo
    simp only[oW,Word.e,Wd.e,List.cons_append,List.nil_append,Option.isSome_some,Option.getD_some]
    rw[bR rfl]
    simp only[aa,C.toBool_bool,C.toList_list,C.toInt_int,ax,hy]
    simp only[lw,lx,vx,jI]
    generalize bp q1 y=r
    obtain⟨r1,r2⟩:=r
    simp only[Word.e,Wd.e,List.cons_append,List.nil_append]
    rw[bR rfl]
    rfl
  ·intro w ow
   have h:¬ ((l.length:Int)<(l.length:Nat)):=by omega
   simp only[aa,C.toInt_int,C.toBool_bool,C.toList_list]
   unfold vi
   simp only[List.length_map,aT,h,if_false]
   exact congrArg upD (L0 w ow)
 have or:=lu ho
 have hnl:=ho.nlen
 refine Eq.trans (congrArg ai (am (l:=w.hs) (enc:=fun i (s:List House)=>[.int .i64 i,.list ((s++w.hs.drop i).map House.e)]) (res:=fun xs _ s=>.ret (aX (cE ⟨ev w.dk,s++xs.map fy,[]⟩ (w.ns++aM (ev w.dk)))).e) (fun i s=>s=(w.hs.take i).map fy) (s:=[]) (by simp) ?_ ?_)) ?_
 ·intro i x xs s hx hs
  have hi:=(List.getElem?_eq_some_iff.1 hx).1
  have hsl:s.length=i:=by rw[hs];simp;omega
  have hi':(i:Int)<((s++w.hs.drop i).length:Nat):=by rw[List.length_append,List.length_drop];omega
  have hxr:(s++w.hs.drop i)[i]?=some x:=by
   rw[List.getElem?_append_right (by omega),hsl,Nat.sub_self,List.getElem?_drop,Nat.add_zero];exact hx
  have hd:(decide ((0:Int)<=(i:Int)) && decide ((i:Int)<((s++w.hs.drop i).length:Nat)))=true:=by simp only[Bool.and_eq_true,decide_eq_true_eq];omega
  refine .inl ⟨s++[fy x],?_,?_,by simp⟩
  ·simp only[aa,C.toInt_int,C.toList_list]
   unfold AQ
   rw[iQ hxr]
   simp only[List.length_map,aT,hi',if_true,hd,dq,House.e,aa,C.toInt_int,C.toBool_bool,C.toList_list,BEq.rfl]
   have h3:=ho.len
   rw[ap (by omega)]
   have hset:((s++w.hs.drop i).map House.e).set (Int.toNat (i:Int)) [.int .i64 x.id,.bool true,.int .i64 x.room,.list (x.lg.rs.map Rec.e),.int .i64 x.lg.f]=((s++[fy x])++w.hs.drop (i+1)).map House.e:=by
    rw[show [C.int .i64 x.id,C.bool true,C.int .i64 x.room,C.list (x.lg.rs.map Rec.e),C.int .i64 x.lg.f]=(fy x).e from rfl,<-List.map_set,Int.toNat_natCast,List.set_append_right _ _ (by omega),hsl,Nat.sub_self,List.drop_eq_getElem_cons hi]
    simp only[List.set_cons_zero,List.map_append,List.map_cons,List.append_assoc,List.cons_append,List.nil_append,List.map_nil]
   rw[hset]
   simp
  ·rw[hs,List.take_add_one,hx];simp
 ·intro s hs
  have hs':s=w.hs.map fy:=by rw[hs,List.take_length]
  have h:¬ ((w.hs.length:Int)<(w.hs.length:Nat)):=by omega
  simp only[List.drop_length,List.append_nil,aa,C.toInt_int,C.toList_list]
  unfold AQ
  have hsl:s.length=w.hs.length:=by rw[hs'];simp
  simp only[List.length_map,hsl,aT,h,if_false]
  have hdw:=dI or.dk
  have htd:=ho.dk.tdlen
  have hdr:DkOk ⟨true,⟨w.dk.lg.rs,w.dk.lg.f⟩,w.dk.td⟩:=ho.dk.rise
  have hwd:=kg hdr (by omega)
  have hdd:(aM (ev w.dk)).length<=18:=hdw
  have e1:(⟨true,⟨w.dk.lg.rs,w.dk.lg.f⟩,w.dk.td⟩:Desk)=ev w.dk:=rfl
  rw[e1]at hwd
  have hc1:w.ns.length<=1099511627776:=by omega
  have hc2:w.ns.length+(aM (ev w.dk)).length<=1099511627776:=by omega
  simp (disch:=first|assumption|omega|(simp only[zL];omega)) only[hwd,hc1,hc2,Int.reduceEq,reduceIte,zU,zT,aa]
  rw[<-List.map_append]
  have o3:WOk ⟨ev w.dk,s,[]⟩:=by rw[hs'];exact⟨or.dk,or.len,or.hs,by simp,by simp⟩
  have:=L1 (w.ns++aM (ev w.dk)) ⟨ev w.dk,s,[]⟩ (by rw[List.length_append];omega) o3 (fun x hx=>by
   rcases List.mem_append.1 hx with h|h
   ·exact ho.ns x h
   ·exact(da or.dk h).1)
  simp only[List.map_nil]at this
  have hle:w.ns.length+(aM (ev w.dk)).length<=1099511627776:=hc2
  simp only[decide_true,dq,List.map_nil,List.append_nil]
  exact congrArg upD this
 ·rfl
theorem tL(hw:WS w){r:Int} :
  vj [.bool w.dk.up,.list (w.dk.lg.rs.map Rec.e),.int .i64 w.dk.lg.f,.list (w.dk.td.map Word.e),.list (w.hs.map House.e),.list (w.ns.map Word.e),.int .i64 r]=some (if jG w && in_ r 0 9 then cH w r.toNat else wd0).e:=by
 rw[q_ck]
 unfold F_ck
 rw[sO hw]
 cases hok:jG w with
 | false=>rfl
 | true =>
  have ho:=worldOk_iff.1 hok
  simp only[zp,aa,C.toBool_bool,Bool.not_true,ar,bN]
  cases hr:in_ r 0 9 with
  | false=>rfl
  | true =>
   have hr:=in_iff.1 hr
   simp only[Bool.not_true,ar,Bool.and_self,if_true]
   rw[De hw]
   obtain⟨n,rfl⟩:∃ n:Nat,r=n:=⟨r.toNat,by omega⟩
   simp only[Wd.e,dR,aa,C.toInt_int,C.toList_list,C.toBool_bool]
   refine Eq.trans (congrArg ai (am (l:=List.replicate n ()) (enc:=fun i (w:Wd)=>[.int .i64 i,.bool w.dk.up,.int .i64 w.dk.lg.f,.list (w.dk.lg.rs.map Rec.e),.list (w.dk.td.map Word.e),.list (w.hs.map House.e),.list (w.ns.map Word.e)]) (res:=fun xs _ v=>.ret (cH v xs.length).e) (fun _ v=>WOk v) (s:=w) ho ?_ ?_)) ?_
   ·intro i x xs w hx ow
    have hi:=(List.getElem?_eq_some_iff.1 hx).1
    rw[List.length_replicate]at hi
    have hi':(i:Int)<(n:Nat):=by omega
    refine .inl ⟨aY w,?_,ow.round,rfl⟩
    simp only[aa,C.toInt_int,C.toBool_bool,C.toList_list]
    unfold AR
    simp only[aT,hi',if_true,Df ow]
    simp only[Wd.e,dR,aa,C.toInt_int,C.toList_list,C.toBool_bool]
    rw[ap (by omega)]
   ·intro v ow
    have h:¬ ((n:Int)<(n:Nat)):=by omega
    simp only[List.length_replicate,Wd.e,aa,C.toInt_int,C.toBool_bool,C.toList_list]
    unfold AR
    simp only[aT,h,if_false]
    rfl
   ·rw[List.length_replicate];rfl
end
end Dx
namespace Dx
open Go
theorem aZ(l:List UInt8):ByteArray.mk (List.toArray l)=mkB l:=rfl
theorem aJ(a b:List UInt8):mkB a++mkB b=mkB (a++b):=by
 apply ByteArray.ext
 simp[mkB,ByteArray.data_append]
theorem ak(l:List UInt8):(mkB l).size=l.length:=rfl
theorem aA(l:List UInt8):(mkB l).data.toList=l:=rfl
theorem mkB_inj{a b:List UInt8}:mkB a=mkB b↔a=b:=⟨fun h=>by have:=congrArg (fun s:ByteArray=>s.data.toList) h;exact this,fun h=>by rw[h]⟩
theorem aO(a b:List UInt8):decide (mkB a=mkB b)=decide (a=b):=by
 by_cases h:a=b
 ·simp[h]
 ·rw[decide_eq_false h,decide_eq_false (fun e=>h (mkB_inj.1 e))]
def eS(l:List UInt8):List C:=[.str (mkB l)]
def dS(n:Int):List UInt8:=pT n.toNat
theorem ED(n:Nat):1<=(pT n).length/\(pT n).length<=2:=by unfold pT;split<;>simp
theorem cf(n:Int):1<=(dS n).length/\(dS n).length<=2:=ED _
def stNames:List (List UInt8):=[[],[97,115,107,101,100],[121,101,115],[110,111],[107,101,112,116],[108,101,102,116]]
def hoNames:List (List UInt8):=[[45],[104,101,108,100],[99,108,111,115,101,100],[117,110,100,111,110,101]]
def woNames:List (List UInt8):=[[],[104,111,108,100],[99,108,111,115,101],[117,110,100,111],[104,101,108,100],[102,117,108,108],[99,108,111,115,101,100],[117,110,100,111,110,101]]
def cz(l:List (List UInt8))(i:Int):List UInt8:=(l[i.toNat]?).getD []
theorem km{l:List (List UInt8)}{k:Nat}(h:∀ x∈l,x.length<=k)(i:Int):(cz l i).length<=k:=by
 unfold cz
 cases hx:l[i.toNat]? with
 | none=>simp
 | some x=>exact h x (List.mem_of_getElem? hx)
theorem Ba(i:Int):(cz stNames i).length<=5:=km (by decide) i
theorem Bb(i:Int):(cz hoNames i).length<=6:=km (by decide) i
theorem Bc(i:Int):(cz woNames i).length<=6:=km (by decide) i
theorem zH{l:List (List UInt8)}{i:Int}(h0:0<=i)(h1:i<l.length):(l.map eS)[i.toNat]?=some (eS (cz l i)):=by
 unfold cz
 rw[List.getElem?_map,List.getElem?_eq_getElem (by omega)]
 rfl
def fH(l:List Hold):List UInt8:=l.flatMap fun h=>32::cz hoNames h.s
def jx(w:Wd)(t s:Int):List UInt8:=dS t++(32::(cz stNames s++(fH (bt w t)++[10])))
def eE(w:Wd):Int->List Trip->List UInt8
 | _,[]=>[]
 | t,x::xs=>jx w t x.s++eE w (t+1) xs
def ee(l:List House):List UInt8:=l.flatMap fun h=>32::dS (free (al h false))
def iR(w:Wd):List UInt8:=[102,114,101,101]++(ee w.hs++[10])
def ce(w:Wd):List UInt8:=eE w 1 (aj w.dk false)++iR w
def kn(x:Word):List UInt8:=cz woNames x.k++(32::(dS x.h++(32::(dS x.t++(if x.k=1 then 32::dS x.m else [])))))
def gr(l:List Word):List UInt8:=l.flatMap fun x=>kn x++[10]
def o6(w:Wd):List UInt8:=gr (aM w.dk)++(dS (aM w.dk).length++[10])
theorem o7:∀ l:List Hold,(fH l).length<=7*l.length
 | []=>by simp[fH]
 | h::l=>by
  have:=o7 l
  have h1:=Bb h.s
  simp only[fH,List.flatMap_cons,List.length_append,List.length_cons]at this ⊢
  omega
theorem mr{w:Wd}(ho:WOk w)(t s:Int):(jx w t s).length<=30:=by
 have h1:=(cf t).2
 have h2:=Ba s
 have h3:=o7 (bt w t)
 have h4:(bt w t).length=3:=by simp[bt,ho.len]
 simp only[jx,List.length_append,List.length_cons,List.length_nil]
 omega
theorem o8{w:Wd}(ho:WOk w):∀(l:List Trip) (t:Int),(eE w t l).length<=30*l.length
 | [],_=>by simp[eE]
 | x::l,t=>by
  have h1:=mr ho t x.s
  have h2:=o8 ho l (t+1)
  simp only[eE,List.length_append,List.length_cons]
  omega
theorem ko:∀ l:List House,(ee l).length<=3*l.length
 | []=>by simp[ee]
 | h::l=>by
  have:=ko l
  have h1:=(cf (free (al h false))).2
  simp only[ee,List.flatMap_cons,List.length_append,List.length_cons]at this ⊢
  omega
theorem mt{w:Wd}(ho:WOk w):(iR w).length<=14:=by
 have:=ko w.hs
 have:=ho.len
 simp only[iR,List.length_append,List.length_cons,List.length_nil]
 omega
theorem fW{w:Wd}(ho:WOk w):(ce w).length<=200:=by
 have h1:=o8 ho (aj w.dk false) 1
 have h2:=(ho.dk.trOk false).len
 have h3:=mt ho
 simp only[ce,List.length_append]
 omega
theorem mu(x:Word):(kn x).length<=15:=by
 have h1:=Bc x.k
 have h2:=(cf x.h).2
 have h3:=(cf x.t).2
 have h4:=(cf x.m).2
 unfold kn
 split<;>simp only[List.length_append,List.length_cons,List.length_nil]<;>omega
theorem o9:∀ l:List Word,(gr l).length<=16*l.length
 | []=>by simp[gr]
 | x::l=>by
  have:=o9 l
  have h1:=mu x
  simp only[gr,List.flatMap_cons,List.length_append,List.length_cons,List.length_nil]at this ⊢
  omega
theorem Dg{w:Wd}(ho:WOk w):(o6 w).length<=300:=by
 have h1:=o9 (aM w.dk)
 have h2:=dI ho.dk
 have h3:=(cf ((aM w.dk).length:Int)).2
 simp only[o6,List.length_append,List.length_cons,List.length_nil]
 omega
def sc(l:List UInt8):Int:=if(1<=l.length/\l.length<=2)/\l.all fT=true then Ak l else -1
def atL(ws:List (List UInt8))(k:Nat):Int:=match ws[k]? with
 | some l=>sc l
 | none=>-1
def Bd:List UInt8:=[98,101,103,105,110]
def DH:List UInt8:=[103,105,118,101]
def Kw:List UInt8:=[115,97,121]
def vy:List UInt8:=[98,114,105,110,103]
def vz:List UInt8:=[102,111,114,99,101]
def DI:List UInt8:=[102,97,108,108]
def DJ:List UInt8:=[114,105,115,101]
def GI:List UInt8:=[99,97,108,109]
def wSee:List UInt8:=[115,101,101]
def Be:List UInt8:=[119,111,114,100,115]
def wWhat:List UInt8:=[119,104,97,116,10]
def eG(w:Wd)(ws:List (List UInt8)):Wd×List UInt8 :=
 if ws.headD []=Bd then(wdo w ⟨1,atL ws 1,atL ws 2,[atL ws 1,atL ws 2,atL ws 3]⟩,[])
 else if ws.headD []=DH then(wdo w ⟨2,atL ws 1,atL ws 2,[]⟩,[])
 else if ws.headD []=Kw then(wdo w ⟨3,atL ws 1,atL ws 2,[]⟩,[])
 else if ws.headD []=vy then(wdo w ⟨4,atL ws 1,atL ws 2,[]⟩,[])
 else if ws.headD []=vz then(wdo w ⟨7,atL ws 1,atL ws 2,[]⟩,[])
 else if ws.headD []=DI then(wdo w ⟨8,atL ws 1,atL ws 2,[]⟩,[])
 else if ws.headD []=DJ then(wdo w ⟨9,atL ws 1,atL ws 2,[]⟩,[])
 else if ws.headD []=GI then(cH w 9,[])
 else if ws.headD []=wSee then(w,ce w)
 else if ws.headD []=Be then(w,o6 w)
 else(w,wWhat)
def bw(w:Wd):List (List UInt8)->Wd×List UInt8
 | []=>(w,[])
 | l::ls=>((bw (eG w (aL 32 l)).1 ls).1,(eG w (aL 32 l)).2++(bw (eG w (aL 32 l)).1 ls).2)
def lT:List UInt8:=[110,111,32,119,111,114,108,100,10]
def pa:List UInt8:=[116,111,111,32,108,111,110,103,10]
def lU(q:Wd×List UInt8):List UInt8:=q.2++ce q.1
def jh(rooms:List Int)(text:List UInt8):List UInt8:=match bb rooms with
 | none=>lT
 | some w=>if text.length>600 then pa else lU (bw w (aL 10 text).dropLast)
theorem BO{α:Type}{P:α->Prop}{c:Prop}[Decidable c]{a b:α}(ha:P a)(hb:P b):P (if c then a else b):=by split<;>assumption
theorem lC{w:Wd}(ho:WOk w)(ws:List (List UInt8)):WOk (eG w ws).1/\(eG w ws).2.length<=300:=by
 have h1:=fW ho
 have h2:=Dg ho
 unfold eG
 have hd:∀ e:Ev,(fun q:Wd×List UInt8=>WOk q.1/\q.2.length<=300) (wdo w e,[]):=fun e=>⟨ho.do_ e,Nat.zero_le _⟩
 have hc:(fun q:Wd×List UInt8=>WOk q.1/\q.2.length<=300) (cH w 9,[]):=⟨ho.calm 9,Nat.zero_le _⟩
 iterate 7
  refine BO (P:=fun q:Wd×List UInt8=>WOk q.1/\q.2.length<=300) (hd _) ?_
 refine BO (P:=fun q:Wd×List UInt8=>WOk q.1/\q.2.length<=300) hc ?_
 refine BO (P:=fun q:Wd×List UInt8=>WOk q.1/\q.2.length<=300) ⟨ho,Nat.le_trans h1 (by decide)⟩ ?_
 exact BO (P:=fun q:Wd×List UInt8=>WOk q.1/\q.2.length<=300) ⟨ho,h2⟩ ⟨ho,by simp[wWhat]⟩
theorem sP:∀(ls:List (List UInt8)) {w:Wd},WOk w->WOk (bw w ls).1/\(bw w ls).2.length<=300*ls.length
 | [],w,ho=>⟨ho,by simp[bw]⟩
 | l::ls,w,ho=>by
  obtain⟨h1,h2⟩:=lC ho (aL 32 l)
  obtain⟨h3,h4⟩:=sP ls h1
  exact⟨h3,by simp only[bw,List.length_append,List.length_cons];omega⟩
theorem dc(c:UInt8):∀ l:List UInt8,1<=(aL c l).length/\(aL c l).length<=l.length+1
 | []=>by simp[aL]
 | b::l=>by
  have:=dc c l
  simp only[aL]
  split
  ·simp only[List.length_cons];omega
  ·rename_i x xs _ e
   rw[e]at this
   simp only[List.length_cons]at this ⊢;omega
  ·simp
theorem mv(c:UInt8)(l:List UInt8):∃ x xs,aL c l=x::xs:=by
 have:=(dc c l).1
 cases h:aL c l with
 | nil=>rw[h]at this;simp at this
 | cons x xs=>exact⟨x,xs,rfl⟩
theorem dZ(c:UInt8):∀(l:List UInt8) (x:List UInt8),x∈aL c l->x.length<=l.length
 | [],x,hx=>by simp[aL]at hx;simp[hx]
 | b::l,x,hx=>by
  have ih:=dZ c l
  simp only[aL]at hx
  split at hx
  ·rcases List.mem_cons.1 hx with rfl|hx
   ·simp
   ·have:=ih x hx;simp only[List.length_cons];omega
  ·rename_i y ys _ e
   rw[e]at ih
   rcases List.mem_cons.1 hx with rfl|hx
   ·have:=ih y (by simp);simp only[List.length_cons];omega
   ·have:=ih x (by simp[hx]);simp only[List.length_cons];omega
  ·simp only[List.mem_singleton]at hx;subst hx;simp
end Dx
namespace Dx
open Go
theorem qS{x:Int}(h0:0<=x)(h1:x<256):IntKind.wrap .u8 x=x:=by
 have e:IntKind.wrap .u8 x=x % 256:=by simp[IntKind.wrap,IntKind.bits,IntKind.signed]
 rw[e];omega
theorem ofB(n:Nat):UInt8.ofNat ((48+(n:Int)).toNat)=UInt8.ofNat (48+n):=by congr 1
theorem dec1(k:Nat){n:Int}(h0:0<=n)(h9:n<10):lk (k+1) [.int .i64 n]=some [.str (mkB (dS n))]:=by
 obtain⟨n,rfl⟩:∃ m:Nat,n=m:=⟨n.toNat,by omega⟩
 have h1:¬ ((n:Int) < -9223372036854775807):=by omega
 have h2:¬ ((n:Int)<0):=by omega
 have h3:n<10:=by omega
 show mir (ph [lk k]) Fh [.int .i64 n]=_
 unfold mir Fh
 simp (disch:=first|assumption|omega|(simp only[zL];omega)) only[aR,bd,bu,bv,aQ,aN,Cell.den,At.den,Prim.den,List.cons_append,List.nil_append,h1,h2,h9,decide_false,decide_true,wrap64,qS,gi,List.length_cons,List.length_nil,List.take_succ_cons,List.take_zero,List.take_nil,List.all_cons,List.all_nil,ah,ej,ef,Bool.and_true,List.map_cons,List.map_nil,ofB,Int.reduceEq,reduceIte,zU,zT,aa]
 simp[dS,pT,h3,mkB]
theorem EE(Φ:Phi)(t u:Tree)(env:List C):den Φ (.both t u) env=cw (den Φ t env) (den Φ u env):=by rw[den]
theorem dec2(k:Nat){n:Int}(h0:0<=n)(h9:n<100):lk (k+2) [.int .i64 n]=some [.str (mkB (dS n))]:=by
 by_cases h10:n<10
 ·exact dec1 (k+1) h0 h10
 obtain⟨n,rfl⟩:∃ m:Nat,n=m:=⟨n.toNat,by omega⟩
 have h1:¬ ((n:Int) < -9223372036854775807):=by omega
 have h2:¬ ((n:Int)<0):=by omega
 have h3:¬ n<10:=by omega
 have hq:Int.tdiv (n:Int) 10=((n / 10:Nat):Int):=rfl
 have hr:Int.tmod (n:Int) 10=((n % 10:Nat):Int):=rfl
 have hd:=dec1 k (n:=((n / 10:Nat):Int)) (by omega) (by omega)
 have hm:n % 10<10:=Nat.mod_lt _ (by omega)
 have hl:dS ((n / 10:Nat):Int)=[UInt8.ofNat (48+n / 10)]:=by
  have:n / 10<10:=by omega
  show pT (n / 10)=_
  unfold pT;rw[decide_eq_true this]
 rw[hl]at hd
 have hp:ph [lk (k+1)] 0=lk (k+1):=rfl
 have hc:∀(s:ByteArray) (f:List C->Option Out),ac (some [.str s]) [.str] f=f [.str s]:=fun s f=>rfl
 have hi:∀ a b:List UInt8,ByteArray.append (mkB a) (mkB b)=mkB (a++b):=aJ
 show mir (ph [lk (k+1)]) Fh [.int .i64 n]=_
 unfold mir Fh
 simp (disch:=first|assumption|omega|(simp only[zL];omega)) only[aR,bd,bu,bv,aQ,EE,aN,Cell.den,At.den,Prim.den,List.cons_append,List.nil_append,h1,h2,h10,decide_false,decide_true,wrap64,qS,gi,List.length_cons,List.length_nil,List.take_succ_cons,List.take_zero,List.take_nil,List.all_cons,List.all_nil,ah,ej,ef,Bool.and_true,List.map_cons,List.map_nil,ofB,hq,hr,hp,hd,hc,aZ,aJ,ak,cp,Int.reduceEq,reduceIte,zU,zT,aa]
 simp[dS,pT,h3]
theorem dd{n:Int}(h0:0<=n)(h9:n<100):dH [.int .i64 n]=some [.str (mkB (dS n))]:=dec2 1 h0 h9
theorem cm(x0:ByteArray)(f:List C->Option Out):ac (some [.str x0]) [.str] f=f [.str x0]:=rfl
theorem dig_iff{b:UInt8}:fT b=true↔48<=(b.toNat:Int)/\(b.toNat:Int)<=57:=by
 simp only[fT,Bool.and_eq_true,decide_eq_true_eq];omega
theorem Hr{l:List UInt8}(hl:l.length<=1099511627776):yQ [.str (mkB l)]=some [.int .i64 (sc l)]:=by
 rw[q_gv]
 by_cases h:1<=l.length/\l.length<=2
 ·have hi:in_ (l.length:Int) 1 2=true:=in_iff.2 (by omega)
  simp (disch:=first|assumption|omega|(simp only[zL];omega)) only[F_gv,ak,bN,hi,Bool.not_true,Int.reduceEq,reduceIte,zU,zT,aa]
  have key:=am (l:=l) (F:=fun ps=>nM (mkB l) ((aa ps 0).toInt) ((aa ps 1).toInt)) (enc:=fun i (s:Int)=>[.int .i64 s,.int .i64 i])
   (res:=fun xs _ s=>.ret [.int .i64 (if xs.all fT=true then xs.foldl (fun a b=>10*a+((b.toNat:Int)-48)) s else -1)]) (fun i s=>0<=s/\s<10 ^ i) (s:=0) (by simp) ?_ ?_
  ·have key:aq _ [C.int .i64 0,C.int .i64 0]=_:=key
   rw[key,aE,sc]
   simp only[h,and_self,true_and,Ak]
  ·intro i x xs s hx ⟨h1,h2⟩
   have hi:=(List.getElem?_eq_some_iff.1 hx).1
   have hi':(i:Int)<(l.length:Nat):=by omega
   have hi0:(0:Int)<=i:=by omega
   have hg:(l.getD i 0).toNat=x.toNat:=by rw[List.getD_eq_getElem?_getD,hx];rfl
   have hs:s<10:=by
    have:i=0\/i=1:=by omega
    rcases this with rfl|rfl<;>omega
   have hb:=x.toNat_lt
   by_cases hd:fT x=true
   ·have hd':=dig_iff.1 hd
    have e1:¬ ((x.toNat:Int)<48):=by omega
    have e2:¬ ((x.toNat:Int)>57):=by omega
    refine .inl ⟨10*s+((x.toNat:Int)-48),?_,⟨by omega,by rw[Int.pow_succ];omega⟩,?_⟩
    ·simp (disch:=first|assumption|omega|(simp only[zL];omega)) only[nM,ak,aA,hi',hi0,decide_true,Bool.and_self,Int.toNat_natCast,hg,e1,e2,decide_false,qS,wrap64,Int.reduceEq,reduceIte,zU,zT,aa]
     rfl
    ·simp only[List.all_cons,hd,Bool.true_and,List.foldl_cons]
   ·refine .inr ⟨.ret [.int .i64 (-1)],?_,?_⟩
    ·have hd':¬ (48<=(x.toNat:Int)/\(x.toNat:Int)<=57):=fun h=>hd (dig_iff.2 h)
     by_cases e1:((x.toNat:Int)<48)
     ·simp (disch:=first|assumption|omega|(simp only[zL];omega)) only[nM,ak,aA,hi',hi0,decide_true,Bool.and_self,Int.toNat_natCast,hg,e1,wrap64,qS,ap,Int.reduceEq,reduceIte,zU,zT,aa]
     ·have e2:((x.toNat:Int)>57):=by omega
      simp (disch:=first|assumption|omega|(simp only[zL];omega)) only[nM,ak,aA,hi',hi0,decide_true,decide_false,Bool.and_self,Int.toNat_natCast,hg,e1,e2,wrap64,qS,ap,Int.reduceEq,reduceIte,zU,zT,aa]
    ·have hd':fT x=false:=by simpa using hd
     simp only[List.all_cons,hd',Bool.false_and,Bool.false_eq_true,if_false]
  ·intro s _
   have h:¬ ((l.length:Int)<(l.length:Nat)):=by omega
   simp (disch:=first|assumption|omega|(simp only[zL];omega)) only[nM,ak,h,decide_false,Int.reduceEq,reduceIte,zU,zT,aa]
   simp
 ·have hi:in_ (l.length:Int) 1 2=false:=in_false.2 (by omega)
  simp (disch:=first|assumption|omega|(simp only[zL];omega)) only[F_gv,ak,bN,hi,Bool.not_false,Int.reduceEq,reduceIte,zU,zT,aa]
  simp only[sc,h,false_and,if_false]
theorem uh{l:List (List UInt8)}{i:Nat}{x:List UInt8}(h:l[i]?=some x){kk:IntKind}{f:List C->Option Out}:aG (.list (l.map eS)) (.int kk i) [.str] f=f (eS x):=fV h rfl
theorem ui{ws:List (List UInt8)}(hw:ws.length<=2000000)(hp:∀ x∈ws,x.length<=2000000)(k:Nat)(hk:k<=3):jq [.list (ws.map eS),.int .i64 k]=some [.int .i64 (atL ws k)]:=by
 rw[q_gl]
 by_cases h:(k:Int)<(ws.length:Nat)
 ·have hx:ws[k]?=some ws[k]:=List.getElem?_eq_getElem (by omega)
  have hl:=hp ws[k] (List.getElem_mem _)
  have hd:=Hr (l:=ws[k]) (by omega)
  simp (disch:=first|assumption|omega|(simp only[zL];omega)) only[F_gl,h,decide_true,uh hx,eS,hd,Int.reduceEq,reduceIte,zU,zT,aa]
  simp only[atL,hx]
 ·have hx:ws[k]?=none:=List.getElem?_eq_none (by omega)
  simp (disch:=first|assumption|omega|(simp only[zL];omega)) only[F_gl,h,decide_false,Int.reduceEq,reduceIte,zU,zT,aa]
  simp only[atL,hx]
def lD(c:UInt8):List (List UInt8)×List UInt8->List UInt8->List (List UInt8)
 | (a,z),[]=>a++[z]
 | (a,z),b::l=>if b=c then lD c (a++[z],[]) l else lD c (a,z++[b]) l
theorem qc(c:UInt8):∀(l:List UInt8) (a:List (List UInt8)) (z:List UInt8),lD c (a,z) l=a++(match aL c l with
 | x::xs=>(z++x)::xs
 | []=>[])
 | [],a,z=>by simp[lD,aL]
 | b::l,a,z=>by
  obtain⟨x,xs,hs⟩:=mv c l
  by_cases h:b=c
  ·simp only[lD,h,if_true,qc c l,aL,decide_true,hs];simp
  ·simp only[lD,h,if_false,qc c l,aL,decide_false,hs];simp
theorem wv(c:UInt8)(l:List UInt8):lD c ([],[]) l=aL c l:=by
 obtain⟨x,xs,hs⟩:=mv c l
 rw[qc,hs];rfl
theorem BP(c:UInt8){l:List UInt8}(hl:l.length<=2000000):ny [.str (mkB l),.int .u8 c.toNat]=some [.list ((aL c l).map eS)]:=by
 rw[q_gs]
 have key:=am (l:=l) (F:=fun ps=>qD (mkB l) (c.toNat:Int) ((aa ps 0).toInt) ((aa ps 1).toList)) (enc:=fun i (s:List (List UInt8)×List UInt8)=>[.int .i64 i,.list ((s.1++[s.2]).map eS)])
  (res:=fun xs _ s=>.ret [.list ((lD c s xs).map eS)]) (fun i s=>s.1.length<=i/\s.2.length<=i) (s:=([],[])) (by simp) ?_ ?_
 ·simp only[F_gs]
  have key:aq _ [C.int .i64 0,C.list [[C.str (ByteArray.mk #[])]]]=_:=key
  rw[key,wv];rfl
 ·intro i x xs s hx ⟨h1,h2⟩
  obtain⟨a,z⟩:=s
  simp only at h1 h2
  have hi:=(List.getElem?_eq_some_iff.1 hx).1
  have hi':(i:Int)<(l.length:Nat):=by omega
  have hi0:(0:Int)<=i:=by omega
  have hg:(l.getD i 0).toNat=x.toNat:=by rw[List.getD_eq_getElem?_getD,hx];rfl
  by_cases h:x=c
  ·refine .inl ⟨(a++[z],[]),?_,⟨by simp only[List.length_append,List.length_cons,List.length_nil];omega,by simp⟩,by simp only[lD,h,if_true]⟩
   simp (disch:=first|assumption|omega|(simp only[zL];omega)) only[qD,ak,aA,hi',hi0,decide_true,Bool.and_self,Int.toNat_natCast,hg,h,List.length_map,List.length_append,List.length_cons,List.length_nil,ap,Int.reduceEq,reduceIte,zU,zT,aa]
   simp only[List.map_append,List.map_cons,List.map_nil,eS]
   rfl
  ·have hne:((x.toNat:Nat):Int)≠((c.toNat:Nat):Int):=fun e=>h (UInt8.toNat_inj.1 (by omega))
   have ht:((a.length+1:Nat):Int)-1=(a.length:Nat):=by omega
   have hr:(a++[z])[a.length]?=some z:=by simp
   have ha0:(0:Int)<=(a.length:Nat):=by omega
   have ha1:((a.length:Nat):Int)<((a.length+1:Nat):Int):=by omega
   have hlen:((a++[z]).map eS).length=a.length+1:=by simp
   have hw:IntKind.wrap .i64 (((a.length+1:Nat):Int)-1)=(a.length:Nat):=by rw[wrap64 (by omega) (by omega)];omega
   have hset:setRow 0 ((a++[z]).map eS) a.length [C.str (mkB (z++[x]))]=(a++[z++[x]]).map eS:=by
    rw[dJ (e:=eS) hr (y:=z++[x]) rfl]
    congr 1
    simp
   have hby:UInt8.ofNat x.toNat=x:=by simp
   have hk:ah [.int .u8] [C.int .u8 (x.toNat:Int)]=true:=rfl
   refine .inl ⟨(a,z++[x]),?_,⟨by show a.length<=i+1;omega,by simp only[List.length_append,List.length_cons,List.length_nil];omega⟩,by simp only[lD,h,if_false]⟩
   simp (disch:=first|assumption|omega|(simp only[zL];omega)) only[qD,ak,aA,hi',hi0,decide_true,Bool.and_self,Int.toNat_natCast,hg,hne,if_false,hlen,hw,ha0,ha1,uh hr,eS,C.toInt_int,List.all_cons,List.all_nil,hk,Bool.and_true,List.map_cons,List.map_nil,hby,aZ,aJ,cp,Int.reduceEq,reduceIte,zU,zT,aa]
   rw[hset,ap (by omega)]
 ·intro s _
  have h:¬ ((l.length:Int)<(l.length:Nat)):=by omega
  simp (disch:=first|assumption|omega|(simp only[zL];omega)) only[qD,ak,h,decide_false,Int.reduceEq,reduceIte,zU,zT,aa]
  rfl
theorem Fy:([[C.str (mkB [])],[C.str (mkB [97,115,107,101,100])],[C.str (mkB [121,101,115])],[C.str (mkB [110,111])],[C.str (mkB [107,101,112,116])],[C.str (mkB [108,101,102,116])]]:List (List C))=stNames.map eS:=rfl
theorem Fz:([[C.str (mkB [45])],[C.str (mkB [104,101,108,100])],[C.str (mkB [99,108,111,115,101,100])],[C.str (mkB [117,110,100,111,110,101])]]:List (List C))=hoNames.map eS:=rfl
theorem st_n:stNames.length=6:=rfl
theorem ho_n:hoNames.length=4:=rfl
theorem wo_n:woNames.length=8:=rfl
theorem sd{l:List (List UInt8)}{i:Int}(h0:0<=i)(h1:i<l.length){f:List C->Option Out}:aG (.list (l.map eS)) (.int .i64 i) [.str] f=f (eS (cz l i)):=kd h0 (zH h0 h1) rfl
section
variable {w:Wd}
theorem zI(ho:WOk w):ov [.bool w.dk.up,.list (w.dk.lg.rs.map Rec.e),.int .i64 w.dk.lg.f,.list (w.dk.td.map Word.e),.list (w.hs.map House.e),.list (w.ns.map Word.e)]=some [.bool true]:=by
 rw[sO ho.ws,worldOk_iff.2 ho]
theorem tM(ho:WOk w){t:Int}(ht:1<=t/\t<=6):y3 [.bool w.dk.up,.list (w.dk.lg.rs.map Rec.e),.int .i64 w.dk.lg.f,.list (w.dk.td.map Word.e),.list (w.hs.map House.e),.list (w.ns.map Word.e),.int .i64 t]=some [.list ((bt w t).map Hold.e)]:=by
 rw[q_bq]
 have h3:=ho.len
 have hit:=in_iff.2 ht
 simp (disch:=first|assumption|omega|(simp only[zL];omega)) only[F_bq,zI ho,bN,hit,Int.reduceEq,reduceIte,zU,zT,aa]
 have key:=am (l:=w.hs) (F:=fun ps=>vk (w.hs.map House.e) t ((aa ps 0).toInt) ((aa ps 1).toList)) (enc:=fun i (s:List Hold)=>[.int .i64 i,.list (s.map Hold.e)])
  (res:=fun xs _ s=>.ret [.list ((s++xs.map fun h=>hAt (al h false).hs t).map Hold.e)]) (fun i s=>s.length=i) (s:=[]) rfl ?_ ?_
 ·have key:aq _ [C.int .i64 0,C.list []]=_:=key
  rw[key];rfl
 ·intro i x xs s hx hs
  have hi:=(List.getElem?_eq_some_iff.1 hx).1
  have hi':(i:Int)<(w.hs.length:Nat):=by omega
  obtain⟨c1,c2,c3⟩:=ho.cells hx
  have hc:s.length+1<=1099511627776:=by omega
  have s6:(al ⟨x.id,x.up,x.room,⟨x.lg.rs,x.lg.f⟩⟩ false).hs.length=6:=((houseOk_iff.1 c2).stOk false).len
  have ht6:t<=((al ⟨x.id,x.up,x.room,⟨x.lg.rs,x.lg.f⟩⟩ false).hs.length:Nat):=by omega
  simp (disch:=first|assumption|omega|(simp only[zL];omega)) only[vk,iQ hx,House.e,kf c1,Stock.e,wrap64,DZ ht.1 ht6,Hold.e,ap,hi',hc,if_true,Int.reduceEq,reduceIte,zU,zT,aa]
  exact .inl ⟨s++[hAt (al x false).hs t],by simp[Hold.e],by simp[hs],by simp⟩
 ·intro s hs
  have h:¬ ((w.hs.length:Int)<(w.hs.length:Nat)):=by omega
  simp (disch:=first|assumption|omega|(simp only[zL];omega)) only[vk,h,if_false,Int.reduceEq,reduceIte,zU,zT,aa]
  simp
theorem BQ(ho:WOk w){t:Int}(ht:1<=t/\t<=6):∀ x∈bt w t,0<=x.s/\x.s<4:=by
 intro x hx
 unfold bt at hx
 rw[List.mem_map]at hx
 obtain⟨h,hh,rfl⟩:=hx
 obtain⟨i,hi⟩:=List.mem_iff_getElem?.1 hh
 have hs:=((ho.hs i h hi).1.stOk false)
 have h6:=hs.len
 have:=hs.hold _ (tX (hs:=(al h false).hs) (t:=t) (by omega))
 unfold bi at this
 split at this
 ·omega
 ·split at this
  ·omega
  ·split at this
   ·omega
   ·cases this
theorem Dh(ho:WOk w){t s:Int}(ht:1<=t/\t<=6)(hs:0<=s/\s<=5){m:List (List C)}:y4 [.bool w.dk.up,.list (w.dk.lg.rs.map Rec.e),.int .i64 w.dk.lg.f,.list (w.dk.td.map Word.e),.list (w.hs.map House.e),.list (w.ns.map Word.e),.int .i64 t,.list m,.int .i64 s]=some [.str (mkB (jx w t s))]:=by
 rw[q_fe]
 have h1:=(cf t).2
 have h2:=Ba s
 have hs6:s<(stNames.length:Nat):=by rw[st_n];omega
 have hJ:AS w.dk.up (w.dk.lg.rs.map Rec.e) w.dk.lg.f (w.dk.td.map Word.e) (w.hs.map House.e) (w.ns.map Word.e) t (mkB (dS t++32::cz stNames s))=some (.ret [.str (mkB (jx w t s))]):=by
  have hh:=BQ ho ht
  have hn:(bt w t).length=3:=by simp[bt,ho.len]
  simp (disch:=first|assumption|omega|(simp only[zL];omega)) only[AS,tM ho ht,Int.reduceEq,reduceIte,zU,zT,aa]
  have key:=am (l:=bt w t) (F:=fun ps=>vl ((bt w t).map Hold.e) ((aa ps 0).toStr) ((aa ps 1).toInt)) (enc:=fun i (z:List UInt8)=>[.str (mkB z),.int .i64 i])
   (res:=fun xs _ z=>.ret [.str (mkB (z++(fH xs++[10])))]) (fun i z=>z.length<=10+10*i) (s:=dS t++32::cz stNames s) (by simp only[List.length_append,List.length_cons];omega) ?_ ?_
  ·have key:aq _ [C.str (mkB (dS t++32::cz stNames s)),C.int .i64 0]=_:=key
   rw[key]
   simp only[jx,List.append_assoc,List.cons_append]
  ·intro i x xs z hx hz
   have hi:=(List.getElem?_eq_some_iff.1 hx).1
   have hi':(i:Int)<((bt w t).length:Nat):=by omega
   obtain⟨x1,x2⟩:=hh x (List.mem_of_getElem? hx)
   have h4:=Bb x.s
   have hx4:x.s<(hoNames.length:Nat):=by rw[ho_n];omega
   refine .inl ⟨z++32::cz hoNames x.s,?_,by simp only[List.length_append,List.length_cons];omega,by simp only[fH,List.flatMap_cons,List.append_assoc,List.cons_append]⟩
   simp (disch:=first|assumption|omega|(simp only[zL];omega)) only[vl,List.length_map,hi',if_true,aZ,aJ,ak,aA,aO,cm,List.cons_append,List.nil_append,List.append_assoc,Fz,zr hx,Hold.e,x1,hx4,decide_true,Bool.and_self,sd x1 hx4,eS,ap,Int.reduceEq,reduceIte,zU,zT,aa]
  ·intro z hz
   have h:¬ (((bt w t).length:Int)<((bt w t).length:Nat)):=by omega
   simp (disch:=first|assumption|omega|(simp only[zL];omega)) only[vl,List.length_map,h,if_false,aZ,aJ,ak,aA,aO,cm,List.cons_append,List.nil_append,List.append_assoc,Int.reduceEq,reduceIte,zU,zT,aa]
   simp[fH]
 simp (disch:=first|assumption|omega|(simp only[zL];omega)) only[F_fe,dd (n:=t) (by omega) (by omega),aZ,aJ,ak,aA,aO,cm,List.cons_append,List.nil_append,List.append_assoc,Fy,List.length_map,hs.1,hs6,decide_true,Bool.and_self,sd hs.1 hs6,eS,cp,hJ,Int.reduceEq,reduceIte,zU,zT,aa]
end
end Dx
namespace Dx
open Go
theorem Lc{h:Hold}(ho:bi h=true):0<=had h:=by
 unfold bi at ho
 unfold had
 split
 ·rename_i e
  split at ho
  ·omega
  ·have:=in_iff.1 ho;omega
 ·exact Int.le_refl _
theorem FB:∀ {l:List Hold},(∀ h∈l,bi h=true)->0<=(l.map had).sum
 | [],_=>by simp
 | h::l,ho=>by
  have h1:=Lc (ho h (by simp))
  have h2:=FB (l:=l) fun x hx=>ho x (by simp[hx])
  simp only[List.map_cons,List.sum_cons];omega
theorem BR{s:Stock}(ho:StOk s):0<=free s/\free s<=9:=by
 have h1:=FB ho.hold
 have h2:=ho.room
 refine⟨ho.free,?_⟩
 unfold free;omega
section
variable {w:Wd}
theorem zJ(ho:WOk w)(z:List UInt8)(hz:z.length<=1000):aq (fun ps=>qH (w.hs.map House.e) ((aa ps 0).toStr) ((aa ps 1).toInt)) [.str (mkB z),.int .i64 0]=some (.ret [.str (mkB (z++(ee w.hs++[10])))]):=by
 have h3:=ho.len
 have key:=am (l:=w.hs) (F:=fun ps=>qH (w.hs.map House.e) ((aa ps 0).toStr) ((aa ps 1).toInt)) (enc:=fun i (z:List UInt8)=>[.str (mkB z),.int .i64 i])
  (res:=fun xs _ z=>.ret [.str (mkB (z++(ee xs++[10])))]) (fun i z=>z.length<=1000+10*i) (s:=z) (by omega) ?_ ?_
 ·exact key
 ·intro i x xs z hx hz
  have hi:=(List.getElem?_eq_some_iff.1 hx).1
  have hi':(i:Int)<(w.hs.length:Nat):=by omega
  obtain⟨c1,c2,c3⟩:=ho.cells hx
  have hS:=(houseOk_iff.1 c2).stOk false
  have hf:=BR hS
  have hd:=dd (n:=free (al ⟨x.id,x.up,x.room,⟨x.lg.rs,x.lg.f⟩⟩ false)) hf.1 (by omega)
  have h4:(dS (free (al x false))).length<=2:=(cf _).2
  have hfr:=wT (room:=(al ⟨x.id,x.up,x.room,⟨x.lg.rs,x.lg.f⟩⟩ false).room) (hs:=(al ⟨x.id,x.up,x.room,⟨x.lg.rs,x.lg.f⟩⟩ false).hs) hS.room hS.hold (by have:=hS.len;omega)
  refine .inl ⟨z++32::dS (free (al x false)),?_,by simp only[List.length_append,List.length_cons];omega,by simp only[ee,List.flatMap_cons,List.append_assoc,List.cons_append]⟩
  simp (disch:=first|assumption|omega|(simp only[zL];omega)) only[qH,List.length_map,hi',if_true,aZ,aJ,ak,aA,aO,cm,List.cons_append,List.nil_append,List.append_assoc,iQ hx,House.e,kf c1,Stock.e,hfr,hd,ap,Int.reduceEq,reduceIte,zU,zT,aa]
 ·intro z hz
  have h:¬ ((w.hs.length:Int)<(w.hs.length:Nat)):=by omega
  simp (disch:=first|assumption|omega|(simp only[zL];omega)) only[qH,List.length_map,h,if_false,aZ,aJ,ak,aA,aO,cm,List.cons_append,List.nil_append,List.append_assoc,Int.reduceEq,reduceIte,zU,zT,aa]
  simp[ee]
theorem w9(ho:WOk w):rX [.bool w.dk.up,.list (w.dk.lg.rs.map Rec.e),.int .i64 w.dk.lg.f,.list (w.dk.td.map Word.e),.list (w.hs.map House.e),.list (w.ns.map Word.e)]=some [.str (mkB (ce w))]:=by
 rw[q_fs]
 have ht:=ke (up:=w.dk.up) (rs:=w.dk.lg.rs) (f:=w.dk.lg.f) (b:=false) ho.dk.lg.S (fun h=>by cases h) (tl:=w.dk.td.map Word.e)
 have hT:=ho.dk.trOk false
 have e:aF ⟨w.dk.lg.rs,w.dk.lg.f⟩ false=aj w.dk false:=rfl
 rw[e]at ht
 have hF:=mt ho
 simp only[F_fs,ht,sB,aa,C.toList_list]
 have key:=am (l:=aj w.dk false) (F:=fun ps=>vm w.dk.up (w.dk.lg.rs.map Rec.e) w.dk.lg.f (w.dk.td.map Word.e) (w.hs.map House.e) (w.ns.map Word.e) ((aj w.dk false).map Trip.e) ((aa ps 0).toStr) ((aa ps 1).toInt)) (enc:=fun i (z:List UInt8)=>[.str (mkB z),.int .i64 i])
  (res:=fun xs i z=>.ret [.str (mkB (z++(eE w ((i:Nat)+1:Int) xs++iR w)))]) (fun i z=>z.length<=30*i) (s:=[]) (by simp) ?_ ?_
 ·have key:aq _ [C.str (ByteArray.mk #[]),C.int .i64 0]=_:=key
  rw[key];rfl
 ·intro i x xs z hx hz
  have hi:=(List.getElem?_eq_some_iff.1 hx).1
  have hi':(i:Int)<((aj w.dk false).length:Nat):=by omega
  have h6:=hT.len
  have hx':=(tripOk_iff.1 (hT.ok x (List.mem_of_getElem? hx))).2
  have hl:=mr ho ((i:Int)+1) x.s
  have hm:=Dh ho (t:=(i:Int)+1) (s:=x.s) (by omega) (by omega) (m:=x.m.map eI)
  refine .inl ⟨z++jx w ((i:Int)+1) x.s,?_,by simp only[List.length_append];omega,by simp only[eE,List.append_assoc,Int.natCast_add,Int.natCast_one]⟩
  simp (disch:=first|assumption|omega|(simp only[zL];omega)) only[vm,List.length_map,hi',if_true,aZ,aJ,ak,aA,aO,cm,List.cons_append,List.nil_append,List.append_assoc,sb hx,Trip.e,wrap64,hm,Int.reduceEq,reduceIte,zU,zT,aa]
  rfl
 ·intro z hz
  have h:¬ (((aj w.dk false).length:Int)<((aj w.dk false).length:Nat)):=by omega
  have h6:=hT.len
  have hfl:=zJ ho (z++[102,114,101,101]) (by simp only[List.length_append,List.length_cons,List.length_nil];omega)
  simp (disch:=first|assumption|omega|(simp only[zL];omega)) only[vm,List.length_map,h,if_false,aZ,aJ,ak,aA,aO,cm,List.cons_append,List.nil_append,List.append_assoc,Int.reduceEq,reduceIte,zU,zT,aa]
  simp only[List.append_assoc,List.cons_append,List.nil_append]at hfl
  rw[hfl]
  simp[eE,iR]
end
theorem Di:y5 []=some [.list (woNames.map eS)]:=by
 rw[q_fl];rfl
theorem zK{x:Word}(hx:WdOk x):y6 x.e=some [.str (mkB (kn x))]:=by
 unfold Word.e
 rw[q_du]
 have hk:=hx.k;have hh:=hx.h;have ht:=hx.t
 have h1:=Bc x.k
 have h2:=(cf x.h).2
 have h3:=(cf x.t).2
 have h4:=(cf x.m).2
 have hk8:x.k<(woNames.length:Nat):=by rw[wo_n];omega
 have hok:bJ ⟨x.k,x.h,x.t,x.m⟩=true:=wordOk_iff.2 hx
 have d1:=dd (n:=x.h) (by omega) (by omega)
 have d2:=dd (n:=x.t) (by omega) (by omega)
 simp (disch:=first|assumption|omega|(simp only[zL];omega)) only[F_du,je,hok,Bool.not_true,Di,sd (show 0<=x.k by omega) hk8,eS,aZ,aJ,ak,aA,aO,cm,List.cons_append,List.nil_append,List.append_assoc,d1,d2,Int.reduceEq,reduceIte,zU,zT,aa]
 by_cases k1:x.k=1
 ·have hm:=hx.m1 k1
  have d3:=dd (n:=x.m) (by omega) (by omega)
  rw[k1]at h1
  simp (disch:=first|assumption|omega|(simp only[zL];omega)) only[k1,if_true,aZ,aJ,ak,aA,aO,cm,List.cons_append,List.nil_append,List.append_assoc,d3,Int.reduceEq,reduceIte,zU,zT,aa]
  simp only[kn,k1,if_true,List.append_assoc,List.cons_append]
 ·simp only[k1,if_false,aE,kn,List.append_nil]
theorem lE{r r':Option (List C)}{ks:List CK}{k k':List C->Option Out}(hr:r=r')(hk:∀ x,k (c9 x 0 ks)=k' (c9 x 0 ks)):ac r ks k=ac r' ks k':=by
 subst hr
 unfold ac
 split
 ·rw[hk]
 ·rfl
theorem Hs{l i l' i':C}{ks:List CK}{k k':List C->Option Out}(hl:l=l')(hi:i=i')(hk:∀ x,k (c9 x 0 ks)=k' (c9 x 0 ks)):aG l i ks k=aG l' i' ks k':=by
 subst hl hi
 unfold aG
 split
 ·split
  ·rw[hk]
  ·rfl
 ·rfl
theorem BS{b b':Bool}{t t' e e':Option Out}(hb:b=b')(h1:t=t')(h2:e=e'):af b t e=af b' t' e':=by rw[hb,h1,h2]
theorem EF{b b':Bool}{t t':Option Out}(hb:b=b')(h1:t=t'):ae b t=ae b' t':=by rw[hb,h1]
theorem EG{F F':List C->Option Out}{p p':List C}(hF:∀ x,F x=F' x)(hp:p=p'):aq F p=aq F' p':=by rw[hp,funext hF]
theorem q_er(x0:Bool)(x1:List (List C))(x2:Int)(x3 x4 x5:List (List C))(x6:ByteArray) :
  vo [.bool x0,.list x1,.int .i64 x2,.list x3,.list x4,.list x5,.str x6]=ai (F_er x0 x1 x2 x3 x4 x5 x6):=by
 unfold vo t_er F_er
 refine congrArg ai ?_
 rw[aQ]
 refine lE (by kernel_rfl) fun r7=>?_
 rw[aQ]
 refine lE (by kernel_rfl) fun r8=>?_
 rw[aQ]
 refine lE (by kernel_rfl) fun r9=>?_
 rw[bv]
 refine EF (by kernel_rfl) ?_
 rw[bH]
 refine Hs (by kernel_rfl) (by kernel_rfl) fun r10=>?_
 iterate 9
  rw[aR,bd]
  refine BS (by kernel_rfl) (by kernel_rfl) ?_
 rw[aR,bd]
 refine BS (by kernel_rfl) ?_ (by kernel_rfl)
 rw[aQ]
 refine lE (by kernel_rfl) fun r21=>?_
 rw[qb]
 refine EG (fun ps=>?_) (by kernel_rfl)
 kernel_rfl
end Dx
namespace Dx
open Go
section
variable {w:Wd}
theorem Dj(ho:WOk w):aq (fun ps=>qI w.dk.up (w.dk.lg.rs.map Rec.e) w.dk.lg.f (w.dk.td.map Word.e) (w.hs.map House.e) (w.ns.map Word.e) ((aM w.dk).map Word.e) ((aa ps 0).toStr) ((aa ps 1).toInt)) [.str (mkB []),.int .i64 0]=some (.ret (w.e++[.str (mkB (o6 w))])):=by
 have h18:=dI ho.dk
 have key:=am (l:=aM w.dk) (F:=fun ps=>qI w.dk.up (w.dk.lg.rs.map Rec.e) w.dk.lg.f (w.dk.td.map Word.e) (w.hs.map House.e) (w.ns.map Word.e) ((aM w.dk).map Word.e) ((aa ps 0).toStr) ((aa ps 1).toInt)) (enc:=fun i (z:List UInt8)=>[.str (mkB z),.int .i64 i])
  (res:=fun xs _ z=>.ret (w.e++[.str (mkB (z++(gr xs++(dS (aM w.dk).length++[10]))))])) (fun i z=>z.length<=20*i) (s:=[]) (by simp) ?_ ?_
 ·have key:aq _ [C.str (mkB []),C.int .i64 0]=_:=key
  rw[key];rfl
 ·intro i x xs z hx hz
  have hi:=(List.getElem?_eq_some_iff.1 hx).1
  have hi':(i:Int)<((aM w.dk).length:Nat):=by omega
  have hm:=zK (da ho.dk (List.mem_of_getElem? hx)).1
  have h15:=mu x
  simp only[Word.e]at hm
  refine .inl ⟨z++(kn x++[10]),?_,by simp only[List.length_append,List.length_cons,List.length_nil];omega,by simp only[gr,List.flatMap_cons,List.append_assoc]⟩
  simp (disch:=first|assumption|omega|(simp only[zL];omega)) only[qI,List.length_map,hi',if_true,aZ,aJ,ak,aA,aO,cm,List.cons_append,List.nil_append,List.append_assoc,jv hx,Word.e,hm,ap,Int.reduceEq,reduceIte,zU,zT,aa]
 ·intro z hz
  have h:¬ (((aM w.dk).length:Int)<((aM w.dk).length:Nat)):=by omega
  have hd:=dd (n:=((aM w.dk).length:Nat)) (by omega) (by omega)
  have h4:=(cf ((aM w.dk).length:Nat)).2
  simp (disch:=first|assumption|omega|(simp only[zL];omega)) only[qI,List.length_map,h,if_false,aZ,aJ,ak,aA,aO,cm,List.cons_append,List.nil_append,List.append_assoc,hd,Int.reduceEq,reduceIte,zU,zT,aa]
  simp[gr,Wd.e]
theorem tN(ho:WOk w):vj [.bool w.dk.up,.list (w.dk.lg.rs.map Rec.e),.int .i64 w.dk.lg.f,.list (w.dk.td.map Word.e),.list (w.hs.map House.e),.list (w.ns.map Word.e),.int .i64 9]=some (cH w 9).e:=by
 rw[tL ho.ws,worldOk_iff.2 ho];rfl
theorem Dk(ho:WOk w){l:List UInt8}(hl:l.length<=1000) :
  vo [.bool w.dk.up,.list (w.dk.lg.rs.map Rec.e),.int .i64 w.dk.lg.f,.list (w.dk.td.map Word.e),.list (w.hs.map House.e),.list (w.ns.map Word.e),.str (mkB l)]=some ((eG w (aL 32 l)).1.e++[.str (mkB (eG w (aL 32 l)).2)]):=by
 rw[q_er]
 have hcut:ny [.str (mkB l),.int .u8 32]=_:=BP 32 (by omega)
 have hlen:=(dc 32 l).2
 have hpc:=dZ 32 l
 obtain⟨hd,tl,hs⟩:=mv 32 l
 generalize aL 32 l=ws at *
 have hw:ws.length<=2000000:=by omega
 have hp:∀ x∈ws,x.length<=2000000:=fun x hx=>by have:=hpc x hx;omega
 have a1:jq [.list (ws.map eS),.int .i64 1]=_:=ui hw hp 1 (by omega)
 have a2:jq [.list (ws.map eS),.int .i64 2]=_:=ui hw hp 2 (by omega)
 have a3:jq [.list (ws.map eS),.int .i64 3]=_:=ui hw hp 3 (by omega)
 have hpos:(0:Int)<(ws.length:Nat):=by rw[hs,List.length_cons];omega
 have hrow:∀ f:List C->Option Out,aG (.list (ws.map eS)) (.int .i64 0) [.str] f=f (eS hd):=fun f=>uh (i:=0) (by rw[hs];rfl)
 have hhd:ws.headD []=hd:=by rw[hs];rfl
 have e0:∀ k:Int,io [.bool w.dk.up,.list (w.dk.lg.rs.map Rec.e),.int .i64 w.dk.lg.f,.list (w.dk.td.map Word.e),.list (w.hs.map House.e),.list (w.ns.map Word.e),.int .i64 k,.int .i64 (atL ws 1),.int .i64 (atL ws 2),.list []]=some (wdo w ⟨k,atL ws 1,atL ws 2,[]⟩).e:=fun k=>wX ho (e:=⟨k,atL ws 1,atL ws 2,[]⟩) (Nat.zero_le _)
 have e1:io [.bool w.dk.up,.list (w.dk.lg.rs.map Rec.e),.int .i64 w.dk.lg.f,.list (w.dk.td.map Word.e),.list (w.hs.map House.e),.list (w.ns.map Word.e),.int .i64 1,.int .i64 (atL ws 1),.int .i64 (atL ws 2),.list [[.int .i64 (atL ws 1)],[.int .i64 (atL ws 2)],[.int .i64 (atL ws 3)]]]=some (wdo w ⟨1,atL ws 1,atL ws 2,[atL ws 1,atL ws 2,atL ws 3]⟩).e:=wX ho (e:=⟨1,atL ws 1,atL ws 2,[atL ws 1,atL ws 2,atL ws 3]⟩) (by show 3<=2000000;omega)
 have hc:=tN ho
 have ha:=w9 ho
 have hwd:jX [.bool w.dk.up,.list (w.dk.lg.rs.map Rec.e),.int .i64 w.dk.lg.f,.list (w.dk.td.map Word.e)]=some [.list ((aM w.dk).map Word.e)]:=kg ho.dk (by have:=ho.dk.tdlen;omega)
 have hsl:=Dj ho
 unfold eG
 rw[hhd]
 simp (disch:=first|assumption|omega|(simp only[zL];omega)) only[F_er,hcut,sB,a1,a2,hpos,List.length_map,Int.le_refl,decide_true,Bool.and_self,hrow,eS,aZ,aJ,ak,aA,aO,cm,List.cons_append,List.nil_append,List.append_assoc,Int.reduceEq,reduceIte,zT,aa]
 by_cases h0:hd=Bd
 ·rw[decide_eq_true (p:=hd=[98,101,103,105,110]) h0,ax,if_pos h0]
  simp (disch:=first|assumption|omega|(simp only[zL];omega)) only[a3,e1,Wd.e,Int.reduceEq,reduceIte,zT,aa]
  rfl
 rw[decide_eq_false (p:=hd=[98,101,103,105,110]) h0,ar,if_neg h0]
 by_cases h1:hd=DH
 ·rw[decide_eq_true (p:=hd=[103,105,118,101]) h1,ax,if_pos h1]
  simp (disch:=first|assumption|omega|(simp only[zL];omega)) only[e0,Wd.e,Int.reduceEq,reduceIte,zT,aa]
  rfl
 rw[decide_eq_false (p:=hd=[103,105,118,101]) h1,ar,if_neg h1]
 by_cases h2:hd=Kw
 ·rw[decide_eq_true (p:=hd=[115,97,121]) h2,ax,if_pos h2]
  simp (disch:=first|assumption|omega|(simp only[zL];omega)) only[e0,Wd.e,Int.reduceEq,reduceIte,zT,aa]
  rfl
 rw[decide_eq_false (p:=hd=[115,97,121]) h2,ar,if_neg h2]
 by_cases h3:hd=vy
 ·rw[decide_eq_true (p:=hd=[98,114,105,110,103]) h3,ax,if_pos h3]
  simp (disch:=first|assumption|omega|(simp only[zL];omega)) only[e0,Wd.e,Int.reduceEq,reduceIte,zT,aa]
  rfl
 rw[decide_eq_false (p:=hd=[98,114,105,110,103]) h3,ar,if_neg h3]
 by_cases h4:hd=vz
 ·rw[decide_eq_true (p:=hd=[102,111,114,99,101]) h4,ax,if_pos h4]
  simp (disch:=first|assumption|omega|(simp only[zL];omega)) only[e0,Wd.e,Int.reduceEq,reduceIte,zT,aa]
  rfl
 rw[decide_eq_false (p:=hd=[102,111,114,99,101]) h4,ar,if_neg h4]
 by_cases h5:hd=DI
 ·rw[decide_eq_true (p:=hd=[102,97,108,108]) h5,ax,if_pos h5]
  simp (disch:=first|assumption|omega|(simp only[zL];omega)) only[e0,Wd.e,Int.reduceEq,reduceIte,zT,aa]
  rfl
 rw[decide_eq_false (p:=hd=[102,97,108,108]) h5,ar,if_neg h5]
 by_cases h6:hd=DJ
 ·rw[decide_eq_true (p:=hd=[114,105,115,101]) h6,ax,if_pos h6]
  simp (disch:=first|assumption|omega|(simp only[zL];omega)) only[e0,Wd.e,Int.reduceEq,reduceIte,zT,aa]
  rfl
 rw[decide_eq_false (p:=hd=[114,105,115,101]) h6,ar,if_neg h6]
 by_cases h7:hd=GI
 ·rw[decide_eq_true (p:=hd=[99,97,108,109]) h7,ax,if_pos h7]
  simp (disch:=first|assumption|omega|(simp only[zL];omega)) only[hc,Wd.e,Int.reduceEq,reduceIte,zT,aa]
  rfl
 rw[decide_eq_false (p:=hd=[99,97,108,109]) h7,ar,if_neg h7]
 by_cases h8:hd=wSee
 ·rw[decide_eq_true (p:=hd=[115,101,101]) h8,ax,if_pos h8]
  simp (disch:=first|assumption|omega|(simp only[zL];omega)) only[ha,Wd.e,Int.reduceEq,reduceIte,zT,aa]
  rfl
 rw[decide_eq_false (p:=hd=[115,101,101]) h8,ar,if_neg h8]
 by_cases h9:hd=Be
 ·rw[decide_eq_true (p:=hd=[119,111,114,100,115]) h9,ax,if_pos h9]
  simp (disch:=first|assumption|omega|(simp only[zL];omega)) only[hwd,Int.reduceEq,reduceIte,zT,aa]
  rw[hsl];rfl
 rw[decide_eq_false (p:=hd=[119,111,114,100,115]) h9,ar,if_neg h9]
 rfl
theorem tO{α:Type}{l:List α}{i:Nat}{x:α}(h:l.dropLast[i]?=some x):l[i]?=some x/\i+1<l.length:=by
 have hi:=(List.getElem?_eq_some_iff.1 h).1
 rw[List.length_dropLast]at hi
 rw[List.getElem?_dropLast]at h
 exact⟨by simpa [show i<l.length-1 by omega] using h,by omega⟩
theorem Ht(ho:WOk w){ls:List (List UInt8)}(hne:ls≠[])(hl:ls.length<=10000)(hp:∀ x∈ls,x.length<=1000) :
  aq (fun ps=>qJ (ls.map eS) ((aa ps 0).toStr) ((aa ps 1).toInt) ((aa ps 2).toBool) ((aa ps 3).toInt) ((aa ps 4).toList) ((aa ps 5).toList) ((aa ps 6).toList) ((aa ps 7).toList)) [.str (mkB []),.int .i64 0,.bool w.dk.up,.int .i64 w.dk.lg.f,.list (w.dk.lg.rs.map Rec.e),.list (w.dk.td.map Word.e),.list (w.hs.map House.e),.list (w.ns.map Word.e)] =
   some (.ret [.str (mkB (lU (bw w ls.dropLast)))]):=by
 have hpos:=List.length_pos_iff.2 hne
 have hdl:ls.dropLast.length=ls.length-1:=List.length_dropLast
 have key:=am (l:=ls.dropLast) (F:=fun ps=>qJ (ls.map eS) ((aa ps 0).toStr) ((aa ps 1).toInt) ((aa ps 2).toBool) ((aa ps 3).toInt) ((aa ps 4).toList) ((aa ps 5).toList) ((aa ps 6).toList) ((aa ps 7).toList))
  (enc:=fun i (s:List UInt8×Wd)=>[.str (mkB s.1),.int .i64 i,.bool s.2.dk.up,.int .i64 s.2.dk.lg.f,.list (s.2.dk.lg.rs.map Rec.e),.list (s.2.dk.td.map Word.e),.list (s.2.hs.map House.e),.list (s.2.ns.map Word.e)])
  (res:=fun xs _ s=>.ret [.str (mkB (s.1++lU (bw s.2 xs)))]) (fun i s=>WOk s.2/\s.1.length<=300*i) (s:=([],w)) ⟨ho,by simp⟩ ?_ ?_
 ·exact key
 ·intro i x xs s hx ⟨hw,hz⟩
  obtain⟨z,v⟩:=s
  simp only at hw hz
  obtain⟨hx',hi⟩:=tO hx
  have hi':(i:Int)+1<(ls.length:Nat):=by omega
  have hi2:(i:Int)<(ls.length:Nat):=by omega
  have hi0:(0:Int)<=i:=by omega
  have hm:=Dk hw (l:=x) (hp x (List.mem_of_getElem? hx'))
  obtain⟨h1,h2⟩:=lC hw (aL 32 x)
  refine .inl ⟨(z++(eG v (aL 32 x)).2,(eG v (aL 32 x)).1),?_,⟨h1,by simp only[List.length_append];omega⟩,by simp only[bw,lU,List.append_assoc]⟩
  simp only[Wd.e,List.cons_append,List.nil_append]at hm
  have hc:∀(a:Bool) (b:List (List C)) (c:Int) (d e f:List (List C)) (g:ByteArray) (k:List C->Option Out),ac (some [.bool a,.list b,.int .i64 c,.list d,.list e,.list f,.str g]) [.bool,.list,.int .i64,.list,.list,.list,.str] k=k [.bool a,.list b,.int .i64 c,.list d,.list e,.list f,.str g]:=fun _ _ _ _ _ _ _ _=>rfl
  simp (disch:=first|assumption|omega|(simp only[zL];omega)) only[qJ,List.length_map,wrap64,hi',hi2,hi0,if_true,decide_true,Bool.and_self,aZ,aJ,ak,aA,aO,cm,List.cons_append,List.nil_append,List.append_assoc,uh hx',eS,hm,hc,Int.reduceEq,reduceIte,zU,zT,aa]
  rfl
 ·intro s ⟨hw,hz⟩
  obtain⟨z,v⟩:=s
  simp only at hw hz
  have h:¬ (((ls.dropLast.length:Nat):Int)+1<(ls.length:Nat)):=by omega
  have ha:=w9 hw
  have hl2:=fW hw
  simp (disch:=first|assumption|omega|(simp only[zL];omega)) only[qJ,List.length_map,wrap64,h,if_false,aZ,aJ,ak,aA,aO,cm,List.cons_append,List.nil_append,List.append_assoc,ha,Int.reduceEq,reduceIte,zU,zT,aa]
  simp[bw,lU]
end
theorem mS(x:Wd)(b:Bool)(f:List C->Option Out):ac (some (x.e++[.bool b])) [.bool,.list,(.int .i64),.list,.list,.list,.bool] f=f (x.e++[.bool b]):=rfl
theorem fR{rooms:List Int}(hr:rooms.length<=1099511627775){text:List UInt8}(ht:text.length<=1099511627775):eY [.list (rooms.map eI),.str (mkB text)]=some [.str (mkB (jh rooms text))]:=by
 rw[q_dh]
 simp only[F_dh,zu hr,mS]
 cases hw:bb rooms with
 | none =>
  simp only[Option.isSome_none,Wd.e,List.cons_append,List.nil_append,aa,C.toBool_bool,Bool.not_false,ax,jh,hw]
  rfl
 | some w =>
  have ho:=eV hw
  simp only[Option.isSome_some,Option.getD_some,Wd.e,List.cons_append,List.nil_append,aa,C.toBool_bool,C.toList_list,C.toInt_int,Bool.not_true,ar,jh,hw]
  by_cases h6:text.length>600
  ·have h6':decide (((mkB text).size:Int)>600)=true:=decide_eq_true (by rw[ak];omega)
   rw[h6',ax,if_pos h6]
   rfl
  ·have h6':decide (((mkB text).size:Int)>600)=false:=decide_eq_false (by rw[ak];omega)
   have hcut:ny [.str (mkB text),.int .u8 10]=_:=BP 10 (l:=text) (by omega)
   have hlen:=dc 10 text
   have hpc:=dZ 10 text
   rw[h6',ar,if_neg h6,hcut,sB]
   have key:=Ht ho (ls:=aL 10 text) (by intro e;rw[e]at hlen;simp at hlen) (by omega) (fun x hx=>by have:=hpc x hx;omega)
   simp only[aa,C.toList_list,aZ]
   rw[key]
   rfl
end Dx
namespace Dx
open Go
theorem tP(b:UInt8):([48,49,50,51,52,53,54,55,56,57]:List UInt8).contains b=fT b:=by
 rw[Bool.eq_iff_iff,dig_iff]
 simp only[List.contains_cons,List.contains_nil,Bool.or_false,Bool.or_eq_true,beq_iff_eq,<-UInt8.toNat_inj]
 show (b.toNat=48\/b.toNat=49\/b.toNat=50\/b.toNat=51\/b.toNat=52\/b.toNat=53\/b.toNat=54\/b.toNat=55\/b.toNat=56\/b.toNat=57)↔_
 omega
theorem sQ{p:UInt8->Bool}:∀ {l:List UInt8},l.dropWhile p=[]↔∀ x∈l,p x=true
 | []=>by simp
 | a::l=>by
  cases h:p a with
  | true=>simp[List.dropWhile_cons,h,sQ]
  | false=>simp[List.dropWhile_cons,h]
theorem sR{p:UInt8->Bool}:∀ {l:List UInt8},(∀ x∈l.dropWhile p,p x=true)↔∀ x∈l,p x=true
 | []=>by simp
 | a::l=>by
  cases h:p a with
  | true=>simp[List.dropWhile_cons,h,sR]
  | false=>simp[List.dropWhile_cons,h]
theorem sS(l cs:List UInt8):v7 l cs=[]↔l.all (cs.contains ·)=true:=by
 unfold v7
 rw[sQ,List.all_eq_true]
 have h1:(∀ x∈(l.reverse.dropWhile (cs.contains ·)).reverse,cs.contains x=true)↔∀ x∈l.reverse.dropWhile (cs.contains ·),cs.contains x=true:=by simp only[List.mem_reverse]
 rw[h1,sR]
 simp only[List.mem_reverse]
theorem Ld{l:List UInt8}(hl:l.length<=2000000):bV [.str (mkB l),.str (mkB [48,49,50,51,52,53,54,55,56,57])]=some [.str (mkB (v7 l [48,49,50,51,52,53,54,55,56,57]))]:=by
 have h1:((mkB [48,49,50,51,52,53,54,55,56,57]).data.toList.all (fun b=>decide (b.toNat<128)) && (decide ((mkB l).size<=4294967281) && decide ((mkB [48,49,50,51,52,53,54,55,56,57]).size<4294967281)))=true:=by
  rw[Bool.and_eq_true,Bool.and_eq_true]
  exact⟨by decide,decide_eq_true (by rw[ak];omega),by decide⟩
 simp only[bV]
 rw[h1]
 rfl
theorem Bf{n:Int}(h0:0<=n)(h1:n<100):jE [.int .i64 n]=some [.str (mkB (dS n))]:=by
 simp only[jE]
 rw[decide_eq_true h0,decide_eq_true h1]
 rfl
theorem Le{l:List UInt8}(h1:1<=l.length/\l.length<=2)(h:l.all fT=true):bW [.str (mkB l)]=some [.int .i64 (Ak l),.hole]:=by
 have hh:(decide (1<=(mkB l).size) && (decide ((mkB l).size<=2) && (mkB l).data.toList.all fT))=true:=by
  rw[Bool.and_eq_true,Bool.and_eq_true]
  exact⟨decide_eq_true h1.1,decide_eq_true h1.2,h⟩
 simp only[bW]
 rw[hh]
 rfl
theorem BT(c:UInt8){l:List UInt8}(hl:l.length<=1099511627775)(h:l.length<4294967281):lO [.str (mkB l),.str (mkB [c])]=some [.list ((aL c l).map eS)]:=by
 have hh:decide ((mkB l).size<4294967281)=true:=decide_eq_true h
 simp only[lO]
 rw[hh]
 rfl
theorem cd_ih(x0:Int)(f:List C->Option Out):ac (some [.int .i64 x0,.hole]) [.int .i64,.hole] f=f [.int .i64 x0,.hole]:=rfl
theorem ji{ws:List (List UInt8)}(hw:ws.length<=2000000)(hp:∀ x∈ws,x.length<=2000000)(k:Nat)(hk:k<=3):il [.list (ws.map eS),.int .i64 k]=some [.int .i64 (atL ws k)]:=by
 rw[q_fy]
 by_cases h:(k:Int)>=(ws.length:Nat)
 ·have hx:ws[k]?=none:=List.getElem?_eq_none (by omega)
  simp (disch:=first|assumption|omega|(simp only[zL];omega)) only[G0,h,decide_true,Int.reduceEq,reduceIte,zU,zT,aa]
  simp only[atL,hx]
 ·have hx:ws[k]?=some ws[k]:=List.getElem?_eq_getElem (by omega)
  have hl:=hp ws[k] (List.getElem_mem _)
  generalize ws[k]=l at hx hl
  have ht:=Ld (l:=l) (by omega)
  have hd:l.all (([48,49,50,51,52,53,54,55,56,57]:List UInt8).contains ·)=l.all fT:=by congr 1;funext b;exact tP b
  simp only[atL,hx]
  by_cases h2:1<=l.length/\l.length<=2
  ·have hi:in_ (l.length:Int) 1 2=true:=in_iff.2 (by omega)
   by_cases h3:l.all fT=true
   ·have ht0:decide (v7 l [48,49,50,51,52,53,54,55,56,57]=[])=true:=decide_eq_true ((sS _ _).2 (hd.trans h3))
    have ha:=Le h2 h3
    simp (disch:=first|assumption|omega|(simp only[zL];omega)) only[G0,List.length_map,h,decide_false,uh hx,eS,aZ,aJ,ak,aA,aO,cm,List.cons_append,List.nil_append,List.append_assoc,kh,hi,Bool.not_true,ht,ht0,ha,cd_ih,Int.reduceEq,reduceIte,zU,zT,aa]
    simp only[sc,h2,h3,and_self,if_true]
   ·have ht0:decide (v7 l [48,49,50,51,52,53,54,55,56,57]=[])=false:=decide_eq_false fun e=>h3 (hd.symm.trans ((sS _ _).1 e))
    simp (disch:=first|assumption|omega|(simp only[zL];omega)) only[G0,List.length_map,h,decide_false,uh hx,eS,aZ,aJ,ak,aA,aO,cm,List.cons_append,List.nil_append,List.append_assoc,kh,hi,Bool.not_true,ht,ht0,Bool.not_false,Int.reduceEq,reduceIte,zU,zT,aa]
    simp only[sc,h3,and_false,if_false,Bool.false_eq_true]
  ·have hi:in_ (l.length:Int) 1 2=false:=in_false.2 (by omega)
   simp (disch:=first|assumption|omega|(simp only[zL];omega)) only[G0,List.length_map,h,decide_false,uh hx,eS,aZ,aJ,ak,aA,aO,cm,List.cons_append,List.nil_append,List.append_assoc,kh,hi,Bool.not_false,Int.reduceEq,reduceIte,zU,zT,aa]
   simp only[sc,h2,false_and,if_false]
def nG(l:List Int):List UInt8:=l.flatMap fun n=>32::dS n
theorem qd{a:List UInt8}(ha:a.length<=1000){ns:List Int}(hl:ns.length<=1000)(hn:∀ n∈ns,0<=n/\n<100):jp [.str (mkB a),.list (ns.map eI)]=some [.str (mkB (a++nG ns))]:=by
 rw[q_fw]
 have key:=am (l:=ns) (F:=fun ps=>uT (ns.map eI) ((ns.length:Nat):Int) ((aa ps 0).toInt) ((aa ps 1).toStr)) (enc:=fun i (z:List UInt8)=>[.int .i64 i,.str (mkB z)])
  (res:=fun xs _ z=>.ret [.str (mkB (z++nG xs))]) (fun i z=>z.length<=1000+10*i) (s:=a) (by omega) ?_ ?_
 ·have key:aq _ [C.int .i64 0,C.str (mkB a)]=_:=key
  simp (disch:=first|assumption|omega|(simp only[zL];omega)) only[F_fw,aZ,aJ,ak,aA,aO,cm,List.cons_append,List.nil_append,List.append_assoc,List.length_nil,Nat.zero_add,List.length_map,Int.reduceEq,reduceIte,zU,zT,aa]
  rw[key];rfl
 ·intro i x xs z hx hz
  have hi:=(List.getElem?_eq_some_iff.1 hx).1
  have hi':(i:Int)<(ns.length:Nat):=by omega
  have hn':=hn x (List.mem_of_getElem? hx)
  have hd:=Bf hn'.1 hn'.2
  have h2:=(cf x).2
  refine .inl ⟨z++32::dS x,?_,by simp only[List.length_append,List.length_cons];omega,by simp only[nG,List.flatMap_cons,List.append_assoc,List.cons_append]⟩
  simp (disch:=first|assumption|omega|(simp only[zL];omega)) only[uT,hi',if_true,iP hx,eI,hd,aZ,aJ,ak,aA,aO,cm,List.cons_append,List.nil_append,List.append_assoc,ap,Int.reduceEq,reduceIte,zU,zT,aa]
 ·intro z hz
  have h:¬ ((ns.length:Int)<(ns.length:Nat)):=by omega
  simp (disch:=first|assumption|omega|(simp only[zL];omega)) only[uT,h,if_false,Int.reduceEq,reduceIte,zU,zT,aa]
  simp[nG]
theorem mT:ou []=some [.list (woNames.map eS)]:=by
 rw[q_cv];rfl
theorem zM{x:Word}(hx:WdOk x):yL [.int .i64 x.k,.int .i64 x.h,.int .i64 x.t,.int .i64 x.m]=some [.str (mkB (kn x))]:=by
 rw[q_dk]
 have hk:=hx.k;have hh:=hx.h;have ht:=hx.t
 have h1:=Bc x.k
 have hk8:x.k<(woNames.length:Nat):=by rw[wo_n];omega
 have hok:bJ ⟨x.k,x.h,x.t,x.m⟩=true:=wordOk_iff.2 hx
 by_cases k1:x.k=1
 ·have hm:=hx.m1 k1
  have hj:jp [.str (mkB (cz woNames x.k)),.list [[.int .i64 x.h],[.int .i64 x.t],[.int .i64 x.m]]]=_:=qd (a:=cz woNames x.k) (by omega) (ns:=[x.h,x.t,x.m]) (by simp) (by intro n hn;simp at hn;omega)
  have e1:((x.k==1):Bool)=true:=by simp[k1]
  simp (disch:=first|assumption|omega|(simp only[zL];omega)) only[F_dk,gV,hok,Bool.not_true,e1,mT,sd (show 0<=x.k by omega) hk8,eS,hj,cp,cm,Int.reduceEq,reduceIte,zT,aa]
  simp[kn,k1,nG]
 ·have hj:jp [.str (mkB (cz woNames x.k)),.list [[.int .i64 x.h],[.int .i64 x.t]]]=_:=qd (a:=cz woNames x.k) (by omega) (ns:=[x.h,x.t]) (by simp) (by intro n hn;simp at hn;omega)
  have e1:((x.k==1):Bool)=false:=by simp[k1]
  simp (disch:=first|assumption|omega|(simp only[zL];omega)) only[F_dk,gV,hok,Bool.not_true,e1,mT,sd (show 0<=x.k by omega) hk8,eS,hj,cp,cm,Int.reduceEq,reduceIte,zT,aa]
  simp[kn,k1,nG]
end Dx
namespace Dx
open Go
section
variable {w:Wd}
theorem tQ(ho:WOk w){t:Int}(ht:1<=t/\t<=6)(i:Nat)(hi6:i<=1000)(z:List UInt8)(hz:z.length<=100000) :
  aq (fun ps=>qA (hoNames.map eS) (i:Int) ((bt w t).map Hold.e) (((bt w t).length:Nat):Int) ((aa ps 0).toInt) ((aa ps 1).toStr)) [.int .i64 0,.str (mkB z)]=some (.jump [.int .i64 ((i+1:Nat):Int),.str (mkB (z++(fH (bt w t)++[10])))]):=by
 have hh:=BQ ho ht
 have hn:(bt w t).length=3:=by simp[bt,ho.len]
 have key:=am (l:=bt w t) (F:=fun ps=>qA (hoNames.map eS) (i:Int) ((bt w t).map Hold.e) (((bt w t).length:Nat):Int) ((aa ps 0).toInt) ((aa ps 1).toStr)) (enc:=fun j (z:List UInt8)=>[.int .i64 j,.str (mkB z)])
  (res:=fun xs _ z=>.jump [.int .i64 ((i+1:Nat):Int),.str (mkB (z++(fH xs++[10])))]) (fun j z=>z.length<=100000+10*j) (s:=z) (by omega) ?_ ?_
 ·exact key
 ·intro j x xs z hx hz
  have hj:=(List.getElem?_eq_some_iff.1 hx).1
  have hj':(j:Int)<((bt w t).length:Nat):=by omega
  obtain⟨x1,x2⟩:=hh x (List.mem_of_getElem? hx)
  have h4:=Bb x.s
  have hx4:x.s<(hoNames.length:Nat):=by rw[ho_n];omega
  refine .inl ⟨z++32::cz hoNames x.s,?_,by simp only[List.length_append,List.length_cons];omega,by simp only[fH,List.flatMap_cons,List.append_assoc,List.cons_append]⟩
  simp (disch:=first|assumption|omega|(simp only[zL];omega)) only[qA,List.length_map,hj',if_true,aZ,aJ,ak,aA,aO,cm,List.cons_append,List.nil_append,List.append_assoc,zr hx,Hold.e,x1,hx4,decide_true,Bool.and_self,sd x1 hx4,eS,ap,Int.reduceEq,reduceIte,zU,zT,aa]
 ·intro z hz
  have h:¬ (((bt w t).length:Int)<((bt w t).length:Nat)):=by omega
  simp (disch:=first|assumption|omega|(simp only[zL];omega)) only[qA,List.length_map,h,if_false,aZ,aJ,ak,aA,aO,cm,List.cons_append,List.nil_append,List.append_assoc,ap,Int.reduceEq,reduceIte,zU,zT,aa]
  simp[fH]
def kp(w:Wd):List Int:=w.hs.map fun h=>free (al h false)
theorem mw(w:Wd):ee w.hs=nG (kp w):=by
 simp[ee,nG,kp,List.flatMap_map]
theorem xa(ho:WOk w):∀ n∈kp w,0<=n/\n<100:=by
 intro n hn
 unfold kp at hn
 rw[List.mem_map]at hn
 obtain⟨h,hh,rfl⟩:=hn
 obtain⟨i,hi⟩:=List.mem_iff_getElem?.1 hh
 have:=BR ((ho.hs i h hi).1.stOk false)
 omega
theorem ww(ho:WOk w)(z:List UInt8)(hz:z.length<=100000) :
  aq (fun ps=>qB (w.hs.map House.e) (mkB z) ((w.hs.length:Nat):Int) ((aa ps 0).toInt) ((aa ps 1).toList)) [.int .i64 0,.list []]=some (.ret [.str (mkB (z++iR w))]):=by
 have h3:=ho.len
 have hfl:=xa ho
 have key:=am (l:=w.hs) (F:=fun ps=>qB (w.hs.map House.e) (mkB z) ((w.hs.length:Nat):Int) ((aa ps 0).toInt) ((aa ps 1).toList)) (enc:=fun i (s:List Int)=>[.int .i64 i,.list (s.map eI)])
  (res:=fun _ _ _=>.ret [.str (mkB (z++iR w))]) (fun i s=>s=(kp w).take i) (s:=[]) rfl ?_ ?_
 ·exact key
 ·intro i x xs s hx hs
  have hi:=(List.getElem?_eq_some_iff.1 hx).1
  have hi':(i:Int)<(w.hs.length:Nat):=by omega
  obtain⟨c1,c2,c3⟩:=ho.cells hx
  have hS:=(houseOk_iff.1 c2).stOk false
  have hfr:=AX (room:=(al ⟨x.id,x.up,x.room,⟨x.lg.rs,x.lg.f⟩⟩ false).room) (hs:=(al ⟨x.id,x.up,x.room,⟨x.lg.rs,x.lg.f⟩⟩ false).hs) hS.room hS.hold (by have:=hS.len;omega)
  have hsl:s.length<=3:=by rw[hs];simp[kp];omega
  refine .inl ⟨s++[free (al x false)],?_,?_,rfl⟩
  ·simp (disch:=first|assumption|omega|(simp only[zL];omega)) only[qB,hi',if_true,iQ hx,House.e,oY c1,Stock.e,hfr,ap,List.length_map,List.length_cons,List.length_nil,Int.reduceEq,reduceIte,zU,zT,aa]
   simp[eI]
  ·rw[hs,List.take_add_one]
   congr 1
   simp[kp,hx]
 ·intro s hs
  have h:¬ ((w.hs.length:Int)<(w.hs.length:Nat)):=by omega
  have hs':s=kp w:=by rw[hs];exact List.take_of_length_le (by simp[kp])
  subst hs'
  have hj:=qd (a:=[102,114,101,101]) (by simp) (ns:=kp w) (by simp[kp];omega) hfl
  have hl:=ko w.hs
  rw[mw]at hl
  simp (disch:=first|assumption|omega|(simp only[zL];omega)) only[qB,h,if_false,aZ,aJ,ak,aA,aO,cm,List.cons_append,List.nil_append,List.append_assoc,hj,Int.reduceEq,reduceIte,zU,zT,aa]
  simp[iR,mw]
theorem Kx(ho:WOk w):rO [.bool w.dk.up,.list (w.dk.lg.rs.map Rec.e),.int .i64 w.dk.lg.f,.list (w.dk.td.map Word.e),.list (w.hs.map House.e),.list (w.ns.map Word.e)]=some [.str (mkB (ce w))]:=by
 rw[q_dd]
 have ht:=jg (up:=w.dk.up) (rs:=w.dk.lg.rs) (f:=w.dk.lg.f) ho.dk.lg.S (tl:=w.dk.td.map Word.e)
 have hT:=ho.dk.trOk false
 have e:aF ⟨w.dk.lg.rs,w.dk.lg.f⟩ false=aj w.dk false:=rfl
 rw[e]at ht
 have hF:=mt ho
 have h6:=hT.len
 have key:=am (l:=aj w.dk false) (F:=fun ps=>uU w.dk.up (w.dk.lg.rs.map Rec.e) w.dk.lg.f (w.dk.td.map Word.e) (w.hs.map House.e) (w.ns.map Word.e) (stNames.map eS) (hoNames.map eS) ((aj w.dk false).map Trip.e) (((aj w.dk false).length:Nat):Int) ((aa ps 0).toInt) ((aa ps 1).toStr)) (enc:=fun i (z:List UInt8)=>[.int .i64 i,.str (mkB z)])
  (res:=fun xs i z=>.ret [.str (mkB (z++(eE w ((i:Nat)+1:Int) xs++iR w)))]) (fun i z=>z.length<=30*i) (s:=[]) (by simp) ?_ ?_
 ·simp (disch:=first|assumption|omega|(simp only[zL];omega)) only[F_dd,ht,aZ,aJ,ak,aA,aO,cm,List.cons_append,List.nil_append,List.append_assoc,Fy,Fz,List.length_map,Int.reduceEq,reduceIte,zU,zT,aa]
  have key:aq _ [C.int .i64 0,C.str (mkB [])]=_:=key
  rw[key];rfl
 ·intro i x xs z hx hz
  have hi:=(List.getElem?_eq_some_iff.1 hx).1
  have hi':(i:Int)<((aj w.dk false).length:Nat):=by omega
  have hx':=(tripOk_iff.1 (hT.ok x (List.mem_of_getElem? hx))).2
  have hx6:x.s<(stNames.length:Nat):=by rw[st_n];omega
  have hx0:0<=x.s:=by omega
  have hl:=mr ho ((i:Int)+1) x.s
  have hd:=Bf (n:=(i:Int)+1) (by omega) (by omega)
  have h1:=(cf ((i:Int)+1)).2
  have h2:=Ba x.s
  have hloop:=tQ ho (t:=(i:Int)+1) (by omega) i (by omega) (z++(dS ((i:Int)+1)++32::cz stNames x.s)) (by simp only[List.length_append,List.length_cons];omega)
  have hw:=tK ho (t:=(i:Int)+1) (by omega)
  refine .inl ⟨z++jx w ((i:Int)+1) x.s,?_,by simp only[List.length_append];omega,by simp only[eE,List.append_assoc,Int.natCast_add,Int.natCast_one]⟩
  have hJ:AH w.dk.up (w.dk.lg.rs.map Rec.e) w.dk.lg.f (w.dk.td.map Word.e) (w.hs.map House.e) (w.ns.map Word.e) (hoNames.map eS) (i:Int) (mkB (z++(dS ((i:Int)+1)++32::cz stNames x.s)))=some (.jump [.int .i64 ((i+1:Nat):Int),.str (mkB (z++jx w ((i:Int)+1) x.s))]):=by
   simp (disch:=first|assumption|omega|(simp only[zL];omega)) only[AH,wrap64,hw,List.length_map,Int.reduceEq,reduceIte,zU,zT,aa]
   rw[hloop]
   simp only[jx,List.append_assoc,List.cons_append]
  simp (disch:=first|assumption|omega|(simp only[zL];omega)) only[uU,List.length_map,hi',if_true,aZ,aJ,ak,aA,aO,cm,List.cons_append,List.nil_append,List.append_assoc,sb hx,Trip.e,wrap64,hx0,hx6,decide_true,Bool.and_self,hd,sd hx0 hx6,eS,cp,Int.reduceEq,reduceIte,zU,zT,aa]
  exact hJ
 ·intro z hz
  have h:¬ (((aj w.dk false).length:Int)<((aj w.dk false).length:Nat)):=by omega
  have hfl:=ww ho z (by omega)
  simp (disch:=first|assumption|omega|(simp only[zL];omega)) only[uU,List.length_map,h,if_false,hfl,Int.reduceEq,reduceIte,zU,zT,aa]
  simp[eE]
theorem Lf(ho:WOk w):yM [.bool w.dk.up,.list (w.dk.lg.rs.map Rec.e),.int .i64 w.dk.lg.f,.list (w.dk.td.map Word.e),.list (w.hs.map House.e),.list (w.ns.map Word.e)]=some [.str (mkB (o6 w))]:=by
 rw[q_cc]
 have h18:=dI ho.dk
 have hwd:lm [.bool w.dk.up,.list (w.dk.lg.rs.map Rec.e),.int .i64 w.dk.lg.f,.list (w.dk.td.map Word.e)]=some [.list ((aM w.dk).map Word.e)]:=ug ho.dk
 have key:=am (l:=aM w.dk) (F:=fun ps=>uV ((aM w.dk).map Word.e) (((aM w.dk).length:Nat):Int) ((aa ps 0).toInt) ((aa ps 1).toStr)) (enc:=fun i (z:List UInt8)=>[.int .i64 i,.str (mkB z)])
  (res:=fun xs _ z=>.ret [.str (mkB (z++(gr xs++(dS (aM w.dk).length++[10]))))]) (fun i z=>z.length<=20*i) (s:=[]) (by simp) ?_ ?_
 ·simp (disch:=first|assumption|omega|(simp only[zL];omega)) only[F_cc,hwd,aZ,aJ,ak,aA,aO,cm,List.cons_append,List.nil_append,List.append_assoc,List.length_map,Int.reduceEq,reduceIte,zU,zT,aa]
  have key:aq _ [C.int .i64 0,C.str (mkB [])]=_:=key
  rw[key];rfl
 ·intro i x xs z hx hz
  have hi:=(List.getElem?_eq_some_iff.1 hx).1
  have hi':(i:Int)<((aM w.dk).length:Nat):=by omega
  have hm:=zM (da ho.dk (List.mem_of_getElem? hx)).1
  have h15:=mu x
  refine .inl ⟨z++(kn x++[10]),?_,by simp only[List.length_append,List.length_cons,List.length_nil];omega,by simp only[gr,List.flatMap_cons,List.append_assoc]⟩
  simp (disch:=first|assumption|omega|(simp only[zL];omega)) only[uV,List.length_map,hi',if_true,aZ,aJ,ak,aA,aO,cm,List.cons_append,List.nil_append,List.append_assoc,jv hx,Word.e,hm,ap,Int.reduceEq,reduceIte,zU,zT,aa]
 ·intro z hz
  have h:¬ (((aM w.dk).length:Int)<((aM w.dk).length:Nat)):=by omega
  have hd:=Bf (n:=((aM w.dk).length:Nat)) (by omega) (by omega)
  have h4:=(cf ((aM w.dk).length:Nat)).2
  simp (disch:=first|assumption|omega|(simp only[zL];omega)) only[uV,List.length_map,h,if_false,aZ,aJ,ak,aA,aO,cm,List.cons_append,List.nil_append,List.append_assoc,hd,Int.reduceEq,reduceIte,zU,zT,aa]
  simp[gr]
end
end Dx
namespace Dx
open Go
def kTab:List (ByteArray×Int):=[(mkB [103,105,118,101],2),(mkB [115,97,121],3),(mkB [98,114,105,110,103],4),(mkB [102,111,114,99,101],7),(mkB [102,97,108,108],8),(mkB [114,105,115,101],9)]
def Hu(x:ByteArray):Bool:=([mkB [103,105,118,101],mkB [115,97,121],mkB [98,114,105,110,103],mkB [102,111,114,99,101],mkB [102,97,108,108],mkB [114,105,115,101]]:List ByteArray).any fun k=>decide (x=k)
theorem Hv{l:List UInt8}(h1:l≠DH)(h2:l≠Kw)(h3:l≠vy)(h4:l≠vz)(h5:l≠DI)(h6:l≠DJ):Hu (mkB l)=false:=by
 simp only[Hu,List.any_cons,List.any_nil,aO,Bool.or_false,Bool.or_eq_false_iff,decide_eq_false_iff_not]
 exact⟨h1,h2,h3,h4,h5,h6⟩
section
variable {w:Wd} {ws:List (List UInt8)}
theorem dM(ho:WOk w)(hw:ws.length<=2000000)(hp:∀ x∈ws,x.length<=2000000){hd:List UInt8}{tl:List (List UInt8)}(hs:ws=hd::tl){k:Int}(hk:pj kTab (mkB hd)=k)(ha:Hu (mkB hd)=true) :
  uW [.bool w.dk.up,.list (w.dk.lg.rs.map Rec.e),.int .i64 w.dk.lg.f,.list (w.dk.td.map Word.e),.list (w.hs.map House.e),.list (w.ns.map Word.e),.list (ws.map eS)]=some (.str (mkB [])::(wdo w ⟨k,atL ws 1,atL ws 2,[]⟩).e):=by
 rw[q_by]
 have a1:il [.list (ws.map eS),.int .i64 1]=_:=ji hw hp 1 (by omega)
 have a2:il [.list (ws.map eS),.int .i64 2]=_:=ji hw hp 2 (by omega)
 have hrow:∀ f:List C->Option Out,aG (.list (ws.map eS)) (.int .i64 0) [.str] f=f (eS hd):=fun f=>uh (i:=0) (by rw[hs];rfl)
 have e0:nw [.bool w.dk.up,.list (w.dk.lg.rs.map Rec.e),.int .i64 w.dk.lg.f,.list (w.dk.td.map Word.e),.list (w.hs.map House.e),.list (w.ns.map Word.e),.int .i64 k,.int .i64 (atL ws 1),.int .i64 (atL ws 2),.list []]=some (wdo w ⟨k,atL ws 1,atL ws 2,[]⟩).e:=Kv ho (e:=⟨k,atL ws 1,atL ws 2,[]⟩) (Nat.zero_le _)
 simp only[kTab,Hu]at hk ha
 simp (disch:=first|assumption|omega|(simp only[zL];omega)) only[F_by,hrow,eS,aZ,hk,ha,a1,a2,e0,Wd.e,Int.reduceEq,reduceIte,zU,zT,aa]
theorem Lg(ho:WOk w)(hw:ws.length<=2000000)(hp:∀ x∈ws,x.length<=2000000)(hne:ws≠[]) :
  uW [.bool w.dk.up,.list (w.dk.lg.rs.map Rec.e),.int .i64 w.dk.lg.f,.list (w.dk.td.map Word.e),.list (w.hs.map House.e),.list (w.ns.map Word.e),.list (ws.map eS)]=some (.str (mkB (eG w ws).2)::(eG w ws).1.e):=by
 obtain⟨hd,tl,hs⟩:∃ hd tl,ws=hd::tl:=by cases ws with
  | nil=>exact absurd rfl hne
  | cons a b=>exact⟨a,b,rfl⟩
 have hhd:ws.headD []=hd:=by rw[hs];rfl
 unfold eG
 rw[hhd]
 by_cases h1:hd=DH
 ·rw[dM ho hw hp hs (k:=2) (by rw[h1];rfl) (by rw[h1];rfl),if_neg (by rw[h1];decide),if_pos h1]
 by_cases h2:hd=Kw
 ·rw[dM ho hw hp hs (k:=3) (by rw[h2];rfl) (by rw[h2];rfl),if_neg (by rw[h2];decide),if_neg h1,if_pos h2]
 by_cases h3:hd=vy
 ·rw[dM ho hw hp hs (k:=4) (by rw[h3];rfl) (by rw[h3];rfl),if_neg (by rw[h3];decide),if_neg h1,if_neg h2,if_pos h3]
 by_cases h4:hd=vz
 ·rw[dM ho hw hp hs (k:=7) (by rw[h4];rfl) (by rw[h4];rfl),if_neg (by rw[h4];decide),if_neg h1,if_neg h2,if_neg h3,if_pos h4]
 by_cases h5:hd=DI
 ·rw[dM ho hw hp hs (k:=8) (by rw[h5];rfl) (by rw[h5];rfl),if_neg (by rw[h5];decide),if_neg h1,if_neg h2,if_neg h3,if_neg h4,if_pos h5]
 by_cases h6:hd=DJ
 ·rw[dM ho hw hp hs (k:=9) (by rw[h6];rfl) (by rw[h6];rfl),if_neg (by rw[h6];decide),if_neg h1,if_neg h2,if_neg h3,if_neg h4,if_neg h5,if_pos h6]
 rw[if_neg h1,if_neg h2,if_neg h3,if_neg h4,if_neg h5,if_neg h6,q_by]
 have ha:=Hv h1 h2 h3 h4 h5 h6
 simp only[Hu]at ha
 have a1:il [.list (ws.map eS),.int .i64 1]=_:=ji hw hp 1 (by omega)
 have a2:il [.list (ws.map eS),.int .i64 2]=_:=ji hw hp 2 (by omega)
 have a3:il [.list (ws.map eS),.int .i64 3]=_:=ji hw hp 3 (by omega)
 have hrow:∀ f:List C->Option Out,aG (.list (ws.map eS)) (.int .i64 0) [.str] f=f (eS hd):=fun f=>uh (i:=0) (by rw[hs];rfl)
 have e1:nw [.bool w.dk.up,.list (w.dk.lg.rs.map Rec.e),.int .i64 w.dk.lg.f,.list (w.dk.td.map Word.e),.list (w.hs.map House.e),.list (w.ns.map Word.e),.int .i64 1,.int .i64 0,.int .i64 0,.list [[.int .i64 (atL ws 1)],[.int .i64 (atL ws 2)],[.int .i64 (atL ws 3)]]]=some (wdo w ⟨1,0,0,[atL ws 1,atL ws 2,atL ws 3]⟩).e:=Kv ho (e:=⟨1,0,0,[atL ws 1,atL ws 2,atL ws 3]⟩) (by show 3<=_;omega)
 have hb:wdo w ⟨1,0,0,[atL ws 1,atL ws 2,atL ws 3]⟩=wdo w ⟨1,atL ws 1,atL ws 2,[atL ws 1,atL ws 2,atL ws 3]⟩:=rfl
 have hc:uR [.bool w.dk.up,.list (w.dk.lg.rs.map Rec.e),.int .i64 w.dk.lg.f,.list (w.dk.td.map Word.e),.list (w.hs.map House.e),.list (w.ns.map Word.e),.int .i64 9]=some (cH w 9).e:=wq ho (r:=9) (by omega)
 simp (disch:=first|assumption|omega|(simp only[zL];omega)) only[F_by,hrow,eS,aZ,aJ,ak,aA,aO,cm,List.cons_append,List.nil_append,List.append_assoc,ha,Int.reduceEq,reduceIte,zT,aa]
 by_cases h0:hd=Bd
 ·rw[decide_eq_true (p:=hd=[98,101,103,105,110]) h0,ax,if_pos h0]
  simp (disch:=first|assumption|omega|(simp only[zL];omega)) only[a1,a2,a3,e1,hb,Wd.e,Int.reduceEq,reduceIte,zT,aa]
  try rfl
 rw[decide_eq_false (p:=hd=[98,101,103,105,110]) h0,ar,if_neg h0]
 by_cases h7:hd=GI
 ·rw[decide_eq_true (p:=hd=[99,97,108,109]) h7,ax,if_pos h7]
  simp (disch:=first|assumption|omega|(simp only[zL];omega)) only[hc,Wd.e,Int.reduceEq,reduceIte,zT,aa]
  try rfl
 rw[decide_eq_false (p:=hd=[99,97,108,109]) h7,ar,if_neg h7]
 by_cases h8:hd=wSee
 ·rw[decide_eq_true (p:=hd=[115,101,101]) h8,ax,if_pos h8,Kx ho]
  rfl
 rw[decide_eq_false (p:=hd=[115,101,101]) h8,ar,if_neg h8]
 by_cases h9:hd=Be
 ·rw[decide_eq_true (p:=hd=[119,111,114,100,115]) h9,ax,if_pos h9,Lf ho]
  rfl
 rw[decide_eq_false (p:=hd=[119,111,114,100,115]) h9,ar,if_neg h9]
 rfl
theorem Hw(ho:WOk w){ls:List (List UInt8)}(hl:ls.length<=10000)(hp:∀ x∈ls,x.length<=1000) :
  aq (fun ps=>qC (ls.map eS) ((ls.length:Nat):Int) ((aa ps 0).toInt) ((aa ps 1).toStr) ((aa ps 2).toBool) ((aa ps 3).toList) ((aa ps 4).toInt) ((aa ps 5).toList) ((aa ps 6).toList) ((aa ps 7).toList)) [.int .i64 0,.str (mkB []),.bool w.dk.up,.list (w.dk.lg.rs.map Rec.e),.int .i64 w.dk.lg.f,.list (w.dk.td.map Word.e),.list (w.hs.map House.e),.list (w.ns.map Word.e)] =
   some (.ret [.str (mkB (lU (bw w ls)))]):=by
 have key:=am (l:=ls) (F:=fun ps=>qC (ls.map eS) ((ls.length:Nat):Int) ((aa ps 0).toInt) ((aa ps 1).toStr) ((aa ps 2).toBool) ((aa ps 3).toList) ((aa ps 4).toInt) ((aa ps 5).toList) ((aa ps 6).toList) ((aa ps 7).toList))
  (enc:=fun i (s:List UInt8×Wd)=>[.int .i64 i,.str (mkB s.1),.bool s.2.dk.up,.list (s.2.dk.lg.rs.map Rec.e),.int .i64 s.2.dk.lg.f,.list (s.2.dk.td.map Word.e),.list (s.2.hs.map House.e),.list (s.2.ns.map Word.e)])
  (res:=fun xs _ s=>.ret [.str (mkB (s.1++lU (bw s.2 xs)))]) (fun i s=>WOk s.2/\s.1.length<=300*i) (s:=([],w)) ⟨ho,by simp⟩ ?_ ?_
 ·exact key
 ·intro i x xs s hx ⟨hw,hz⟩
  obtain⟨z,v⟩:=s
  simp only at hw hz
  have hi:=(List.getElem?_eq_some_iff.1 hx).1
  have hi':(i:Int)<(ls.length:Nat):=by omega
  have hx1:=hp x (List.mem_of_getElem? hx)
  have hcut:lO [.str (mkB x),.str (mkB [32])]=_:=BT 32 (by omega) (by omega)
  have hlen:=dc 32 x
  have hpc:=dZ 32 x
  have hm:=Lg hw (ws:=aL 32 x) (by omega) (fun y hy=>by have:=hpc y hy;omega) (by intro e;rw[e]at hlen;simp at hlen)
  obtain⟨h1,h2⟩:=lC hw (aL 32 x)
  refine .inl ⟨(z++(eG v (aL 32 x)).2,(eG v (aL 32 x)).1),?_,⟨h1,by simp only[List.length_append];omega⟩,by simp only[bw,lU,List.append_assoc]⟩
  simp only[Wd.e,List.cons_append,List.nil_append]at hm
  have hc:∀(a:Bool) (b:List (List C)) (c:Int) (d e f:List (List C)) (g:ByteArray) (k:List C->Option Out),ac (some [.str g,.bool a,.list b,.int .i64 c,.list d,.list e,.list f]) [.str,.bool,.list,.int .i64,.list,.list,.list] k=k [.str g,.bool a,.list b,.int .i64 c,.list d,.list e,.list f]:=fun _ _ _ _ _ _ _ _=>rfl
  simp (disch:=first|assumption|omega|(simp only[zL];omega)) only[qC,List.length_map,ap,hi',if_true,aZ,aJ,ak,aA,aO,cm,List.cons_append,List.nil_append,List.append_assoc,uh hx,eS,hcut,sB,hm,hc,Int.reduceEq,reduceIte,zU,zT,aa]
 ·intro s ⟨hw,hz⟩
  obtain⟨z,v⟩:=s
  simp only at hw hz
  have h:¬ ((ls.length:Int)<(ls.length:Nat)):=by omega
  have ha:=Kx hw
  have hl2:=fW hw
  simp (disch:=first|assumption|omega|(simp only[zL];omega)) only[qC,List.length_map,h,if_false,aZ,aJ,ak,aA,aO,cm,List.cons_append,List.nil_append,List.append_assoc,ha,Int.reduceEq,reduceIte,zU,zT,aa]
  simp[bw,lU]
end
theorem bY{rooms:List Int}(hr:rooms.length<=1099511627775){text:List UInt8}(ht:text.length<=1099511627775):bD [.list (rooms.map eI),.str (mkB text)]=some [.str (mkB (jh rooms text))]:=by
 rw[q_dw]
 simp only[F_dw,zF hr,mS]
 cases hw:bb rooms with
 | none =>
  simp only[Option.isSome_none,Wd.e,List.cons_append,List.nil_append,aa,C.toBool_bool,Bool.not_false,ax,jh,hw]
  rfl
 | some w =>
  have ho:=eV hw
  simp only[Option.isSome_some,Option.getD_some,Wd.e,List.cons_append,List.nil_append,aa,C.toBool_bool,C.toList_list,C.toInt_int,Bool.not_true,ar,jh,hw]
  by_cases h6:text.length>600
  ·have h6':decide (((mkB text).size:Int)>600)=true:=decide_eq_true (by rw[ak];omega)
   rw[h6',ax,if_pos h6]
   rfl
  ·have h6':decide (((mkB text).size:Int)>600)=false:=decide_eq_false (by rw[ak];omega)
   have hcut:lO [.str (mkB text),.str (ByteArray.mk #[10])]=_:=BT 10 (l:=text) (by omega) (by omega)
   have hlen:=dc 10 text
   have hpc:=dZ 10 text
   rw[h6',ar,if_neg h6,hcut,sB]
   have key:=Hw ho (ls:=(aL 10 text).dropLast) (by rw[List.length_dropLast];omega) (fun x hx=>by have:=hpc x (List.dropLast_subset _ hx);omega)
   have hn:IntKind.wrap .i64 (((aL 10 text).length:Int)-1)=(((aL 10 text).length-1:Nat):Int):=by
    rw[wrap64 (by omega) (by omega)];omega
   simp only[aa,C.toList_list,aZ,List.length_map,hn,Int.toNat_natCast]
   rw[cd (by rw[Bool.and_eq_true,decide_eq_true_iff,decide_eq_true_iff];omega),<-List.map_take,<-List.dropLast_eq_take]
   rw[List.length_map,key]
   rfl
end Dx
namespace Dx
open Go
theorem lG(b c:Bool)(k:List C->Option Out):bC (af b (some (.jump [.bool true])) (some (.jump [.bool c]))) k=k [.bool (b || c)]:=by cases b<;>rfl
theorem Hx{F:List C->Option Out}{p q:List C}(h:F p=some (.jump q)):aq F p=aq F q:=by rw[fk,h];rfl
theorem it_up{F:List C->Option Out}{p:List C}{o:Out}(h:F p=some (.up o)):aq F p=some o:=by rw[fk,h];rfl
def DK(bs:List Int)(p:Int)(o:Option Out):Prop:=∃(l:List UInt8) (q:Int),o=some (.ret [.str (mkB l),.list (bs.map eB),.int .i64 q])/\l.length<=20/\p<=q/\q<=p+10
section
variable {bs:List Int}
theorem vA(a:ByteArray)(b:List (List C))(c:Int)(f:List C->Option Out):ac (some [.str a,.list b,.int .i64 c]) [.str,.list,.int .i64] f=f [.str a,.list b,.int .i64 c]:=rfl
theorem m_of(hb:Rd bs){p:Int}(h0:0<=p)(h1:p<=700000000){ws:List (List UInt8)}(hw:1<=ws.length/\ws.length<=1000) :
  ∃ l∈ws,ll [.list (bs.map eB),.int .i64 p,.list (ws.map eS)]=some [.str (mkB l),.list (bs.map eB),.int .i64 (p+1)]:=by
 rw[q_ez]
 obtain⟨pk,hpk⟩:=oS hb
 have q:=fun p n h0 h1 h2=>(hpk p n h0 h1 h2).1
 have r:=hpk p (ws.length:Nat) h0 (by omega) (by omega)
 have r3:=r.2.2.1 (by omega)
 obtain⟨n,hn⟩:∃ n:Nat,pk p (ws.length:Nat)=n:=⟨(pk p (ws.length:Nat)).toNat,by omega⟩
 have hx:ws[n]?=some ws[n]:=List.getElem?_eq_getElem (by omega)
 refine⟨_,List.mem_of_getElem? hx,?_⟩
 simp (disch:=first|assumption|omega|(simp only[zL];omega)) only[F_ez,List.length_map,q,hn,uh hx,eS,Int.reduceEq,reduceIte,zU,zT,aa]
theorem pb(n:Int):(dS n).length<=2:=(cf n).2
theorem m_ln0(hb:Rd bs){x p:Int}(h0:0<=p)(h1:p<=700000000)(b:Bool):DK bs p (Ao x (bs.map eB) p b):=by
 obtain⟨pk,hpk⟩:=oS hb
 have q:=fun p n h0 h1 h2=>(hpk p n h0 h1 h2).1
 have r4:=hpk p 4 h0 (by omega) (by omega)
 have r3:=hpk p 3 h0 (by omega) (by omega)
 have r4':=hpk (p+1) 4 (by omega) (by omega) (by omega)
 have b4:=r4.2.2.1 (by omega)
 have b3:=r3.2.2.1 (by omega)
 have b4':=r4'.2.2.1 (by omega)
 have d4:=dd (n:=pk p 4) r4.2.1 (by omega)
 have d3:=dd (n:=1+pk p 3) (by omega) (by omega)
 have d4':=dd (n:=pk (p+1) 4) r4'.2.1 (by omega)
 obtain⟨l8,m8,e8⟩:=m_of hb h0 h1 (ws:=[[99,97,108,109],[115,101,101],[119,111,114,100,115]]) (by simp)
 have e8:ll [.list (bs.map eB),.int .i64 p,.list [[.str (mkB [99,97,108,109])],[.str (mkB [115,101,101])],[.str (mkB [119,111,114,100,115])]]]=_:=e8
 obtain⟨l10,m10,e10⟩:=m_of hb h0 h1 (ws:=[[102,97,108,108,32],[114,105,115,101,32]]) (by simp)
 have e10:ll [.list (bs.map eB),.int .i64 p,.list [[.str (mkB [102,97,108,108,32])],[.str (mkB [114,105,115,101,32])]]]=_:=e10
 obtain⟨l11,m11,e11⟩:=m_of hb h0 h1 (ws:=[[119,104,97,116],[],[98,101,103,105,110],[115,97,121],[98,101,103,105,110,32,49],[99,97,108,109]]) (by simp)
 have e11:ll [.list (bs.map eB),.int .i64 p,.list [[.str (mkB [119,104,97,116])],[.str (mkB [])],[.str (mkB [98,101,103,105,110])],[.str (mkB [115,97,121])],[.str (mkB [98,101,103,105,110,32,49])],[.str (mkB [99,97,108,109])]]]=_:=e11
 have n8:l8.length<=20:=by simp only[List.mem_cons,List.mem_nil_iff,or_false]at m8;rcases m8 with rfl|rfl|rfl<;>decide
 have n10:l10.length<=5:=by simp only[List.mem_cons,List.mem_nil_iff,or_false]at m10;rcases m10 with rfl|rfl<;>decide
 have n11:l11.length<=20:=by simp only[List.mem_cons,List.mem_nil_iff,or_false]at m11;rcases m11 with rfl|rfl|rfl|rfl|rfl|rfl<;>decide
 have f4:=pb (pk p 4)
 have f3:=pb (1+pk p 3)
 have f4':=pb (pk (p+1) 4)
 unfold Ao
 cases b with
 | true =>
  refine⟨[102,111,114,99,101,32]++dS (pk p 4),p+1,?_,by simp only[List.length_append,List.length_cons,List.length_nil];omega,by omega,by omega⟩
  simp (disch:=first|assumption|omega|(simp only[zL];omega)) only[q,d4,aZ,aJ,ak,aA,aO,cm,List.cons_append,List.nil_append,List.append_assoc,Int.reduceEq,reduceIte,zU,zT,aa]
 | false =>
  cases (x==8)with
  | true =>
   refine⟨l8,p+1,?_,n8,by omega,by omega⟩
   simp (disch:=first|assumption|omega|(simp only[zL];omega)) only[aZ,aJ,ak,aA,aO,cm,List.cons_append,List.nil_append,List.append_assoc,vA,e8,Int.reduceEq,reduceIte,zU,zT,aa]
  | false =>
   cases (x==9)with
   | true =>
    refine⟨[103,105,118,101,32]++dS (1+pk p 3),p+1,?_,by simp only[List.length_append,List.length_cons,List.length_nil];omega,by omega,by omega⟩
    simp (disch:=first|assumption|omega|(simp only[zL];omega)) only[q,wrap64,d3,aZ,aJ,ak,aA,aO,cm,List.cons_append,List.nil_append,List.append_assoc,Int.reduceEq,reduceIte,zU,zT,aa]
   | false =>
    cases (x==10)with
    | true =>
     refine⟨l10++dS (pk (p+1) 4),p+1+1,?_,by simp only[List.length_append];omega,by omega,by omega⟩
     simp (disch:=first|assumption|omega|(simp only[zL];omega)) only[aZ,aJ,ak,aA,aO,cm,List.cons_append,List.nil_append,List.append_assoc,vA,e10,q,d4',Int.reduceEq,reduceIte,zU,zT,aa]
    | false =>
     cases (x==11)with
     | true =>
      refine⟨l11,p+1,?_,n11,by omega,by omega⟩
      simp (disch:=first|assumption|omega|(simp only[zL];omega)) only[aZ,aJ,ak,aA,aO,cm,List.cons_append,List.nil_append,List.append_assoc,vA,e11,Int.reduceEq,reduceIte,zU,zT,aa]
     | false=>exact⟨[115,101,101],p,rfl,by decide,by omega,by omega⟩
theorem m_ln1(hb:Rd bs){x p:Int}(h0:0<=p)(h1:p<=700000000)(b:Bool):DK bs p (Ap x (bs.map eB) p b):=by
 obtain⟨pk,hpk⟩:=oS hb
 have q:=fun p n h0 h1 h2=>(hpk p n h0 h1 h2).1
 have r3:=hpk p 3 h0 (by omega) (by omega)
 have b3:=r3.2.2.1 (by omega)
 have d3:=dd (n:=pk p 3) r3.2.1 (by omega)
 have f3:=pb (pk p 3)
 unfold Ap
 cases b with
 | true =>
  refine⟨[98,114,105,110,103,32]++dS (pk p 3),p+1,?_,by simp only[List.length_append,List.length_cons,List.length_nil];omega,by omega,by omega⟩
  simp (disch:=first|assumption|omega|(simp only[zL];omega)) only[q,d3,aZ,aJ,ak,aA,aO,cm,List.cons_append,List.nil_append,List.append_assoc,Int.reduceEq,reduceIte,zU,zT,aa]
 | false=>rw[ar,lG];exact m_ln0 hb h0 h1 _
theorem m_ln2(hb:Rd bs){x p:Int}(h0:0<=p)(h1:p<=700000000)(b:Bool):DK bs p (Aq x (bs.map eB) p b):=by
 obtain⟨pk,hpk⟩:=oS hb
 have q:=fun p n h0 h1 h2=>(hpk p n h0 h1 h2).1
 have r4:=hpk p 4 h0 (by omega) (by omega)
 have b4:=r4.2.2.1 (by omega)
 have d4:=dd (n:=pk p 4) r4.2.1 (by omega)
 have f4:=pb (pk p 4)
 unfold Aq
 cases b with
 | true =>
  refine⟨[115,97,121,32]++dS (pk p 4),p+1,?_,by simp only[List.length_append,List.length_cons,List.length_nil];omega,by omega,by omega⟩
  simp (disch:=first|assumption|omega|(simp only[zL];omega)) only[q,d4,aZ,aJ,ak,aA,aO,cm,List.cons_append,List.nil_append,List.append_assoc,Int.reduceEq,reduceIte,zU,zT,aa]
 | false=>rw[ar,lG];exact m_ln1 hb h0 h1 _
theorem m_ln3(hb:Rd bs){x p:Int}(h0:0<=p)(h1:p<=700000000)(b:Bool):DK bs p (Ar x (bs.map eB) p b):=by
 obtain⟨pk,hpk⟩:=oS hb
 have q:=fun p n h0 h1 h2=>(hpk p n h0 h1 h2).1
 have r1:=hpk p 3 h0 (by omega) (by omega)
 have r2:=hpk (p+1) 3 (by omega) (by omega) (by omega)
 have r3:=hpk (p+1+1) 2 (by omega) (by omega) (by omega)
 have b1:=r1.2.2.1 (by omega)
 have b2:=r2.2.2.1 (by omega)
 have b3:=r3.2.2.1 (by omega)
 have d1:=dd (n:=pk p 3) r1.2.1 (by omega)
 have d2:=dd (n:=pk (p+1) 3) r2.2.1 (by omega)
 have d3:=dd (n:=1+pk (p+1+1) 2) (by omega) (by omega)
 have f1:=pb (pk p 3)
 have f2:=pb (pk (p+1) 3)
 have f3:=pb (1+pk (p+1+1) 2)
 unfold Ar
 cases b with
 | true =>
  refine⟨[98,101,103,105,110,32]++(dS (pk p 3)++32::(dS (pk (p+1) 3)++32::dS (1+pk (p+1+1) 2))),p+1+1+1,?_,by simp only[List.length_append,List.length_cons,List.length_nil];omega,by omega,by omega⟩
  simp (disch:=first|assumption|omega|(simp only[zL];omega)) only[q,d1,d2,d3,wrap64,aZ,aJ,ak,aA,aO,cm,List.cons_append,List.nil_append,List.append_assoc,Int.reduceEq,reduceIte,zU,zT,aa]
 | false=>rw[ar,lG];exact m_ln2 hb h0 h1 _
theorem Dl(hb:Rd bs){p:Int}(h0:0<=p)(h1:p<=600000000):∃(l:List UInt8) (q:Int),xM [.list (bs.map eB),.int .i64 p]=some [.str (mkB l),.list (bs.map eB),.int .i64 q]/\l.length<=20/\p<=q/\q<=p+20:=by
 rw[q_ei]
 obtain⟨pk,hpk⟩:=oS hb
 obtain⟨l,q,e,hl,h2,h3⟩:=m_ln3 hb (x:=pk p 13) (p:=p+1) (by omega) (by omega) (pk p 13==0 || pk p 13==1)
 refine⟨l,q,?_,hl,by omega,by omega⟩
 simp only[F_ei,(hpk p 13 h0 (by omega) (by omega)).1]
 have hc:∀(a:Int) (b:List (List C)) (c:Int) (f:List C->Option Out),ac (some [.int .i64 a,.list b,.int .i64 c]) [.int .i64,.list,.int .i64] f=f [.int .i64 a,.list b,.int .i64 c]:=fun _ _ _ _=>rfl
 rw[hc]
 simp only[aa,C.toInt_int,C.toList_list]
 rw[lG]
 simp only[aa,C.toBool_bool]
 rw[e];rfl
end
def cI(q:List UInt8×List UInt8×Nat):List UInt8×List UInt8×Nat:=(if q.2.2 % 2=1 then q.1++q.2.1 else q.1,q.2.1++q.2.1,q.2.2 / 2)
theorem Dm{o s:List UInt8}{n:Nat}(hn:0<n)(hn2:n<=1000)(ho:o.length<=2000000)(hs:s.length<=2000000) :
  lb (mkB o) (mkB s) n=some (.jump [.str (mkB (cI (o,s,n)).1),.str (mkB (cI (o,s,n)).2.1),.int .i64 ((cI (o,s,n)).2.2:Nat)]):=by
 have h1:(n:Int)>0:=by omega
 have hq:Int.tdiv (n:Int) 2=((n / 2:Nat):Int):=rfl
 have hr:Int.tmod (n:Int) 2=((n % 2:Nat):Int):=rfl
 have hm:(((n % 2:Nat):Int)=1)↔n % 2=1:=by omega
 by_cases h:n % 2=1
 ·simp (disch:=first|assumption|omega|(simp only[zL];omega)) only[lb,h1,if_true,hq,hr,hm,h,Int.natCast_one,if_true,aZ,aJ,ak,aA,aO,cm,List.cons_append,List.nil_append,List.append_assoc,wrap64,cI,Int.reduceEq,reduceIte,zU,zT,aa]
 ·simp (disch:=first|assumption|omega|(simp only[zL];omega)) only[lb,h1,if_true,hq,hr,hm,h,if_false,aZ,aJ,ak,aA,aO,cm,List.cons_append,List.nil_append,List.append_assoc,wrap64,cI,Int.reduceEq,reduceIte,zU,zT,aa]
def DL:List UInt8:=[114,105,115,101,32,48,10]
def manyL:List UInt8:=(cI (cI (cI (cI (cI (cI (cI ([],DL,90)))))))).1
theorem lh{o s:List UInt8}{n:Nat}(q:List UInt8×List UInt8×Nat)(hq:cI (o,s,n)=q)(hn:0<n)(hn2:n<=1000)(ho:o.length<=2000000)(hs:s.length<=2000000) :
  aq (fun ps=>lb ((aa ps 0).toStr) ((aa ps 1).toStr) ((aa ps 2).toInt)) [.str (mkB o),.str (mkB s),.int .i64 n]=aq (fun ps=>lb ((aa ps 0).toStr) ((aa ps 1).toStr) ((aa ps 2).toInt)) [.str (mkB q.1),.str (mkB q.2.1),.int .i64 (q.2.2:Nat)]:=by
 subst hq
 exact Hx (Dm hn hn2 ho hs)
theorem Lh:xN [.str (mkB DL),.int .i64 90]=some [.str (mkB manyL)]:=by
 rw[q_ft]
 show ai (aq (fun ps=>lb ((aa ps 0).toStr) ((aa ps 1).toStr) ((aa ps 2).toInt)) [.str (mkB []),.str (mkB DL),.int .i64 (90:Nat)])=_
 rw[lh _ rfl (by decide +kernel) (by decide +kernel) (by decide +kernel) (by decide +kernel),lh _ rfl (by decide +kernel) (by decide +kernel) (by decide +kernel) (by decide +kernel),lh _ rfl (by decide +kernel) (by decide +kernel) (by decide +kernel) (by decide +kernel),lh _ rfl (by decide +kernel) (by decide +kernel) (by decide +kernel) (by decide +kernel),lh _ rfl (by decide +kernel) (by decide +kernel) (by decide +kernel) (by decide +kernel),lh _ rfl (by decide +kernel) (by decide +kernel) (by decide +kernel) (by decide +kernel),lh _ rfl (by decide +kernel) (by decide +kernel) (by decide +kernel) (by decide +kernel)]
 rw[it_up (o:=.ret [.str (mkB manyL)]) rfl]
 rfl
theorem sT:manyL.length=630:=by decide +kernel
end Dx
namespace Dx
open Go
def TOk(t:List UInt8):Prop:=t=[]\/∃ a,t=a++[10]
theorem TOk.snoc(t a:List UInt8):TOk (t++(a++[10])):=.inr ⟨t++a,by simp⟩
theorem EH:∃ a,manyL=a++[10]:=⟨manyL.dropLast,by decide +kernel⟩
theorem TOk.many(t:List UInt8):TOk (t++manyL):=by
 obtain⟨a,h⟩:=EH
 rw[h];exact TOk.snoc t a
theorem pc:∀ a:List UInt8,∃ p ps,∀ t,aL 10 (a++10::t)=p::ps++aL 10 t
 | []=>⟨[],[],fun t=>by simp[aL]⟩
 | b::l=>by
  obtain⟨p,ps,h⟩:=pc l
  by_cases hb:b=10
  ·exact⟨[],p::ps,fun t=>by rw[List.cons_append];simp[aL,hb,h]⟩
  ·exact⟨b::p,ps,fun t=>by rw[List.cons_append];simp[aL,hb,h]⟩
theorem TOk.split{t:List UInt8}(h:TOk t)(u:List UInt8):aL 10 (t++u)=(aL 10 t).dropLast++aL 10 u:=by
 rcases h with rfl|⟨a,rfl⟩
 ·simp[aL]
 ·obtain⟨p,ps,h⟩:=pc a
  have h1:=h u
  have h2:aL 10 (a++[10])=p::ps++[[]]:=h []
  rw[h2,List.append_assoc,List.dropLast_concat]
  exact h1
theorem TOk.splitD{t:List UInt8}(h:TOk t){u:List UInt8}:(aL 10 (t++u)).dropLast=(aL 10 t).dropLast++(aL 10 u).dropLast:=by
 rw[h.split,List.dropLast_append_of_ne_nil]
 intro e
 have:=(dc 10 u).1
 rw[e]at this;simp at this
theorem pd:∀(a b:List (List UInt8)) (w:Wd),bw w (a++b)=((bw (bw w a).1 b).1,(bw w a).2++(bw (bw w a).1 b).2)
 | [],b,w=>by simp[bw]
 | x::a,b,w=>by simp[bw,pd a b]
structure DrL (rooms:List Int) (text:List UInt8):Prop where
 len:rooms.length<=3
 ok:∀ r∈rooms,0<=r/\r<=5
 t:TOk text
 tl:text.length<=1000
theorem all3{a b c:Int}(ha:0<=a/\a<=5)(hb:0<=b/\b<=5)(hc:1<=c/\c<=5):∀ r∈[a,b,c],0<=r/\r<=5:=by
 intro r hr
 simp only[List.mem_cons,List.mem_nil_iff,or_false]at hr
 rcases hr with rfl|rfl|rfl<;>omega
theorem oh{code:List Int}(hl:code.length<=1099511627776)(hc:∀ b∈code,0<=b/\b<=255) :
  ∃(rooms:List Int) (text:List UInt8),ij [.list (code.map eB)]=some [.list (rooms.map eI),.str (mkB text)]/\DrL rooms text:=by
 rw[q_ba]
 obtain⟨bs,hb,ho⟩:=Eu hl hc
 obtain⟨pk,hpk⟩:=oS hb
 have q:=fun p n h0 h1 h2=>(hpk p n h0 h1 h2).1
 have r:=hpk 0 16 (by omega) (by omega) (by omega)
 have r2:=r.2.2.1 (by omega)
 have key:=BI (F:=fun ps=>qv ((aa ps 0).toStr) ((aa ps 1).toInt) ((aa ps 2).toList) ((aa ps 3).toInt))
  (I:=fun k ps=>∃(t:List UInt8) (p:Int),ps=[.str (mkB t),.int .i64 (k:Nat),.list (bs.map eB),.int .i64 p]/\TOk t/\t.length+21*k<=330/\0<=p/\p+20*k<=1000)
  (Q:=fun o=>∃(rooms:List Int) (text:List UInt8),o=.ret [.list (rooms.map eI),.str (mkB text)]/\DrL rooms text) ?_ (pk 0 16).toNat [.str (mkB []),.int .i64 (pk 0 16),.list (bs.map eB),.int .i64 (0+1)] ⟨[],0+1,by rw[Int.toNat_of_nonneg r.2.1],.inl rfl,by simp;omega,by omega,by omega⟩
 ·obtain⟨o,h1,rooms,text,rfl,h2⟩:=key
  refine⟨rooms,text,?_,h2⟩
  simp (disch:=first|assumption|omega|(simp only[zL];omega)) only[F_ba,ho,q,aZ,Int.reduceEq,reduceIte,zU,zT,aa]
  have h1:aq _ [.str (mkB []),.int .i64 (pk 0 16),.list (bs.map eB),.int .i64 (0+1)]=_:=h1
  rw[h1];rfl
 ·rintro k ps ⟨t,p,rfl,ht,hk,hp0,hp1⟩
  simp only[aa,C.toList_list,C.toInt_int,C.toStr_str]
  by_cases h:(k:Int)>0
  ·obtain⟨l,p',he,hl,h2,h3⟩:=Dl hb (p:=p) hp0 (by omega)
   left
   refine⟨[.str (mkB (t++(l++[10]))),.int .i64 ((k-1:Nat):Int),.list (bs.map eB),.int .i64 p'],k-1,by omega,?_,t++(l++[10]),p',rfl,TOk.snoc t l,?_,by omega,by omega⟩
   ·have hw:IntKind.wrap .i64 ((k:Int)-1)=((k-1:Nat):Int):=by rw[wrap64 (by omega) (by omega)];omega
    simp (disch:=first|assumption|omega|(simp only[zL];omega)) only[qv,h,if_true,he,vA,aZ,aJ,ak,aA,aO,cm,List.cons_append,List.nil_append,List.append_assoc,hw,Int.reduceEq,reduceIte,zU,zT,aa]
   ·simp only[List.length_append,List.length_cons,List.length_nil];omega
  ·right
   have hm:=Lh
   simp only[DL]at hm
   obtain⟨a,b,c,hr,ha1,ha2,hb1,hb2,hc1,hc2⟩:=zv hb (p:=p+1) (by omega) (by omega)
   have hall:=all3 ⟨ha1,ha2⟩ ⟨hb1,hb2⟩ ⟨hc1,hc2⟩
   have hc:∀(a:List (List C)) (b:List (List C)) (c:Int) (f:List C->Option Out),ac (some [.list a,.list b,.int .i64 c]) [.list,.list,.int .i64] f=f [.list a,.list b,.int .i64 c]:=fun _ _ _ _=>rfl
   have fin:∀ u:List UInt8,TOk u->u.length<=1000->∀(v:Bool) (X:Option Out),X=upD (af v (ae (((decide ((0:Int)<=1) && decide ((1:Int)<=(([a,b,c].map eI).length:Nat))) && ([a,b,c].map eI).all (ah [.int .i64]))) (some (.ret [.list (([a,b,c].map eI).drop 1),.str (mkB u)]))) (some (.ret [.list ([a,b,c].map eI),.str (mkB u)]))) ->
     ∃ o,X=some (.up o)/\∃(rooms:List Int) (text:List UInt8),o=.ret [.list (rooms.map eI),.str (mkB text)]/\DrL rooms text:=by
    intro u hu hul v X hX
    subst hX
    cases v with
    | true=>exact⟨_,rfl,[b,c],u,rfl,by simp,fun r hr=>hall r (List.mem_cons_of_mem _ hr),hu,hul⟩
    | false=>exact⟨_,rfl,[a,b,c],u,rfl,by simp,hall,hu,hul⟩
   by_cases h4:pk p 40=0
   ·refine fin (t++manyL) (TOk.many t) (by rw[List.length_append,sT];omega) (pk (p+1+1+1+1) 24==0) _ ?_
    have h4':(pk p 40==0)=true:=by rw[h4];rfl
    have hg:¬ ((k:Int)>0):=h
    simp (disch:=first|assumption|omega|(simp only[zL];omega)) only[qv,hg,decide_false,ar,ax,q,h4',aZ,aJ,ak,cm,hm,sT,hr,hc,zT,aa]
    rfl
   ·refine fin t ht (by omega) (pk (p+1+1+1+1) 24==0) _ ?_
    have h4':(pk p 40==0)=false:=by simpa using h4
    have hg:¬ ((k:Int)>0):=h
    simp (disch:=first|assumption|omega|(simp only[zL];omega)) only[qv,hg,decide_false,ar,ax,q,h4',hr,hc,zT,aa]
    rfl
end Dx
namespace Dx
open Go
def sU(x t:Tree):Tree :=
 .letp .len [⟨.list,(.v 0)⟩]<|
 .letp .gtI [⟨(.int .i64),(.v 1)⟩,⟨(.int .i64),(.n 1048576)⟩]<|
 .ite (.v 2) (
 .ret [⟨.bool,(.b true)⟩])<|
 .call 0 [⟨.list,(.v 0)⟩] [.list,.str]<|
 .call 1 [⟨.list,(.v 3)⟩,⟨.str,(.v 4)⟩] [.str]<|
 .call 2 [⟨.list,(.v 3)⟩,⟨.str,(.v 4)⟩] [.str]<|
 .letp .neS [⟨.str,(.v 5)⟩,⟨.str,(.v 6)⟩]<|
 .ite (.v 7) x t
def kT(code rooms:List Int)(text z:List UInt8):List C:=[.list (code.map eB),.int .i64 ((code.length:Nat):Int),.bool false,.list (rooms.map eI),.str (mkB text),.str (mkB z),.str (mkB z),.bool false]
theorem bB{Φ:Phi}{x t:Tree}{code:List Int}(h0:Φ 0=ij)(h1:Φ 1=bD)(h2:Φ 2=eY)(hl:code.length<=1099511627776)(hc:kl code)
  (ht:∀(rooms:List Int) (text:List UInt8),DrL rooms text->ai (den Φ t (kT code rooms text (jh rooms text)))=some [.bool true]) :
  ai (den Φ (sU x t) [.list (code.map eB)])=some [.bool true]:=by
 obtain⟨rooms,text,hd,hr⟩:=oh hl hc
 have r3:=hr.len
 have tl:=hr.tl
 have p1:=bY (rooms:=rooms) (text:=text) (by omega) (by omega)
 have p2:=fR (rooms:=rooms) (text:=text) (by omega) (by omega)
 unfold sU
 rw[aR,aR,bd]
 simp only[aN,Cell.den,At.den,Prim.den,List.cons_append,List.nil_append,aa,C.toInt_int,C.toList_list,C.toBool_bool,List.length_map]
 by_cases hbig:((code.length:Nat):Int)>1048576
 ·simp only[hbig,decide_true,ax,bu,aN,Cell.den,At.den,C.toBool_bool];rfl
 simp only[hbig,decide_false,ar]
 rw[aQ,h0]
 simp only[aN,Cell.den,At.den,aa,C.toList_list,hd]
 rw[bR rfl,aQ,h1]
 simp only[aN,Cell.den,At.den,List.cons_append,List.nil_append,aa,C.toList_list,C.toStr_str,p1]
 rw[bR rfl,aQ,h2]
 simp only[aN,Cell.den,At.den,List.cons_append,List.nil_append,aa,C.toList_list,C.toStr_str,p2]
 rw[bR rfl,aR,bd]
 simp only[aN,Cell.den,At.den,Prim.den,List.cons_append,List.nil_append,aa,C.toList_list,C.toStr_str,C.toBool_bool,decide_true,Bool.not_true,ar]
 exact ht rooms text hr
theorem dC{rooms:List Int}{text out:List UInt8}(hr:rooms.length<=3)(ht:text.length<=10000)(h:jh rooms text=out):bD [.list (rooms.map eI),.str (mkB text)]=some [.str (mkB out)]:=by
 rw[bY (by omega) (by omega),h]
end Dx
namespace Dx
open Go
theorem BU{F:List C->Option Out}{I:Nat->List C->Prop}{o:Out}{ps:List C}{X:Option (List C)}(n:Nat)(h0:I n ps)(h:∀ n ps,I n ps->(∃ ps' n',n'<n/\F ps=some (.jump ps')/\I n' ps')\/F ps=some (.up o))(hX:ai (some o)=X):ai (aq F ps)=X:=by
 obtain⟨o',h1,h2⟩:=BI (Q:=fun x=>x=o) (fun n ps hI=>(h n ps hI).imp id fun e=>⟨o,e,rfl⟩) n ps h0
 rw[h1,h2];exact hX
theorem uj(l:List UInt8)(i j:Nat):(mkB l).extract i j=mkB ((l.take j).drop i):=by
 apply ByteArray.ext
 rw[ByteArray.data_extract]
 apply Array.ext'
 rw[Array.toList_extract]
 show List.extract l i j=_
 simp[List.extract_eq_drop_take,List.drop_take,mkB]
theorem TOk.app{a b:List UInt8}(ha:TOk a)(hb:TOk b):TOk (a++b):=by
 rcases hb with rfl|⟨c,rfl⟩
 ·simpa using ha
 ·exact TOk.snoc a c
theorem Dn(w:Wd)(t s:Int):TOk (jx w t s):=.inr ⟨dS t++(32::(cz stNames s++fH (bt w t))),by simp[jx]⟩
theorem pe(w:Wd):∀(l:List Trip) (t:Int),TOk (eE w t l)
 | [],_=>.inl rfl
 | x::l,t=>(Dn w t x.s).app (pe w l (t+1))
theorem EI(w:Wd):TOk (ce w):=.inr ⟨eE w 1 (aj w.dk false)++([102,114,101,101]++ee w.hs),by simp[ce,iR]⟩
theorem Do(w:Wd):TOk (o6 w):=.inr ⟨gr (aM w.dk)++dS (aM w.dk).length,by simp[o6]⟩
section
variable {w:Wd}
theorem sV{P:Wd×List UInt8->Prop}(ws:List (List UInt8))(hd:∀ e,P (wdo w e,[]))(hc:P (cH w 9,[]))(h1:P (w,ce w))(h2:P (w,o6 w))(h3:P (w,wWhat)):P (eG w ws):=by
 unfold eG
 iterate 7
  refine BO (P:=P) (hd _) ?_
 exact BO (P:=P) hc (BO (P:=P) h1 (BO (P:=P) h2 h3))
theorem Dp(ws:List (List UInt8)):TOk (eG w ws).2 :=
 sV (P:=fun q=>TOk q.2) ws (fun _=>.inl rfl) (.inl rfl) (EI w) (Do w) (.inr ⟨[119,104,97,116],rfl⟩)
theorem Dq(ho:WOk w)(I:Inv (vw w))(ws:List (List UInt8)):Inv (vw (eG w ws).1) :=
 sV (P:=fun q=>Inv (vw q.1)) ws (fun e=>Hc ho I e) (CO ho I 9) I I I
theorem mU:∀(ls:List (List UInt8)) {w:Wd},WOk w->Inv (vw w)->WOk (bw w ls).1/\Inv (vw (bw w ls).1)/\TOk (bw w ls).2
 | [],_,ho,I=>⟨ho,I,.inl rfl⟩
 | l::ls,w,ho,I=>by
  have h1:=(lC ho (aL 32 l)).1
  obtain⟨h2,h3,h4⟩:=mU ls h1 (Dq ho I (aL 32 l))
  exact⟨h2,h3,(Dp _).app h4⟩
end
theorem DrL.new{rooms:List Int}{text:List UInt8}(hr:DrL rooms text)(h3:rooms.length=3):∃ w,bb rooms=some w:=by
 refine⟨⟨deskNew,cT rooms,[]⟩,?_⟩
 unfold bb
 refine if_pos ⟨h3,?_⟩
 rw[List.all_eq_true]
 exact fun n hn=>in_iff.2 (by have:=hr.ok n hn;omega)
theorem DrL.more{rooms:List Int}{text:List UInt8}(hr:DrL rooms text)(h3:rooms.length=3)(ht:text.length<=600) :
  ∃(w:Wd) (z:List UInt8),WOk w/\Inv (vw w)/\TOk z/\z.length<=300000/\∀ u,text.length+u.length<=600->jh rooms (text++u)=z++lU (bw w (aL 10 u).dropLast):=by
 obtain⟨w0,hw⟩:=hr.new h3
 have ho:=eV hw
 obtain⟨h1,h2,h4⟩:=mU (aL 10 text).dropLast ho (Hf hw)
 have h5:=(sP (aL 10 text).dropLast ho).2
 have h6:=(dc 10 text).2
 rw[List.length_dropLast]at h5
 refine⟨_,_,h1,h2,h4,by omega,fun u hu=>?_⟩
 have hu':¬ (text++u).length>600:=by rw[List.length_append];omega
 unfold jh
 simp only[hw,hu',if_false]
 rw[hr.t.splitD,pd]
 simp[lU]
theorem DrL.no{rooms:List Int}{text:List UInt8}(hr:DrL rooms text)(h3:rooms.length≠3)(u:List UInt8):jh rooms u=lT:=by
 have:bb rooms=Option.none:=by unfold bb;rw[if_neg];omega
 unfold jh;rw[this]
theorem DrL.long{rooms:List Int}{text:List UInt8}(hr:DrL rooms text)(h3:rooms.length=3){u:List UInt8}(hu:u.length>600):jh rooms u=pa:=by
 obtain⟨w,hw⟩:=hr.new h3
 unfold jh
 simp only[hw,hu,if_true]
theorem Hy{n:Int}(h:0<=n/\n<100):∀ b∈dS n,b≠10:=by
 obtain⟨m,rfl⟩:∃ m:Nat,n=m:=⟨n.toNat,by omega⟩
 intro b hb
 rintro rfl
 have hb:(10:UInt8)∈pT m:=hb
 unfold pT at hb
 split at hb
 ·rename_i h9
  rw[decide_eq_true_iff]at h9
  simp only[List.mem_singleton]at hb
  have:=congrArg UInt8.toNat hb
  rw[UInt8.toNat_ofNat']at this
  have e:(10:UInt8).toNat=10:=rfl
  omega
 ·simp only[List.mem_cons,List.mem_nil_iff,or_false]at hb
  have e:(10:UInt8).toNat=10:=rfl
  rcases hb with hb|hb
  ·have:=congrArg UInt8.toNat hb
   rw[UInt8.toNat_ofNat']at this
   omega
  ·have:=congrArg UInt8.toNat hb
   rw[UInt8.toNat_ofNat']at this
   omega
theorem Dr{w:Wd}(ho:WOk w):∀ b∈ee w.hs,b≠10:=by
 intro b hb
 rw[mw]at hb
 simp only[nG,List.mem_flatMap,List.mem_cons]at hb
 obtain⟨n,hn,rfl|hb⟩:=hb
 ·decide
 ·exact Hy (xa ho n hn) b hb
end Dx
