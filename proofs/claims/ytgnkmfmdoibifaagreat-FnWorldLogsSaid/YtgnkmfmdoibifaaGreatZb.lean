import Derived.Test.YtgnkmfmdoibifaaGreatZa
set_option linter.all false
namespace Dx
open Go
theorem rl{α:Type}[DecidableEq α]{F:List C->Option Out}{a b:List α}(hl:a.length=b.length)
  (hs:∀(i:Nat) (x y:α),a[i]?=some x->b[i]?=some y->F [.int .i64 (i:Nat)]=if x=y then some (.jump [.int .i64 ((i+1:Nat):Int)]) else some (.up (.ret [.bool false])))
  (hf:F [.int .i64 ((a.length:Nat):Int)]=some (.up (.ret [.bool true]))):aN F [.int .i64 0]=some (.ret [.bool (decide (a=b))]):=by
 have key:=aL (l:=a) (F:=F) (enc:=fun i (_:Unit)=>[.int .i64 i]) (res:=fun xs i _=>.ret [.bool (decide (xs=b.drop i))]) (fun _ _=>True) (s:=()) trivial ?_ ?_
 ·have key:aN _ [C.int .i64 0]=_:=key
  rw[key];rfl
 ·intro i x xs _ hx _
  have hi:=(List.getElem?_eq_some_iff.1 hx).1
  have hb:i<b.length:=by omega
  have hy:b[i]?=some b[i]:=by simp[hb]
  have:=hs i x b[i] hx hy
  have hdr:=List.drop_eq_getElem_cons hb
  by_cases e:x=b[i]
  ·rw[if_pos e]at this
   exact .inl ⟨(),this,trivial,by simp only[hdr,List.cons.injEq,e,true_and,false_and,decide_false]⟩
  ·rw[if_neg e]at this
   exact .inr ⟨_,this,by simp only[hdr,List.cons.injEq,e,true_and,false_and,decide_false]⟩
 ·intro _ _
  rw[hf,List.drop_of_length_le (by omega)]
  simp
theorem cy(a b:Int):(a==b)=decide (a=b):=by by_cases h:a=b<;>simp[h]
theorem cz(a b:Int):(a != b)=!decide (a=b):=by by_cases h:a=b<;>simp[h]
section
variable {a b:List Int} {up up':Bool} {rs rs':List Rec} {f f':Int} {td td':List Word} {k k' t t' id id' room room' h m:Int} {hs hs':List House} {ns ns':List Word}
theorem Ak(ha:a.length<=1099511627776):l6 [.list (a.map eI),.list (b.map eI)]=some [.bool (decide (a=b))]:=by
 rw[q_fe];unfold F_fe
 simp only[List.length_map]
 by_cases hl:a.length=b.length
 ·have e:(((a.length:Nat):Int) != ((b.length:Nat):Int))=false:=by simp[hl]
  simp only[e,aB]
  rw[rl hl]
  ·rfl
  ·intro i x y hx hy
   have hi:=(List.getElem?_eq_some_iff.1 hx).1
   have hi':(i:Int)<(a.length:Nat):=by omega
   simp (disch:=first|assumption|omega|(simp only[zL];omega)) only[wE,gl hx,gl hy,eI,al,hi',if_true,Int.reduceEq,reduceIte,zU,zT,aa]
   try (by_cases e:x=y<;>simp[e])
  ·have h:¬ ((a.length:Int)<(a.length:Nat)):=by omega
   simp (disch:=first|assumption|omega|(simp only[zL];omega)) only[wE,h,if_false,Int.reduceEq,reduceIte,zU,zT,aa]
 ·have e:(((a.length:Nat):Int) != ((b.length:Nat):Int))=true:=by simp;omega
  have:a≠b:=fun h=>hl (by rw[h])
  simp[e,this]
theorem n_Rec{r r':Rec}(hr:r.m.length<=1099511627776):uS [.int .i64 r.k,.int .i64 r.t,.list (r.m.map eI),.int .i64 r'.k,.int .i64 r'.t,.list (r'.m.map eI)]=some [.bool (decide (r=r'))]:=by
 rw[q_fq]
 obtain⟨k,t,m⟩:=r
 obtain⟨k',t',m'⟩:=r'
 simp (disch:=first|assumption|omega|(simp only[zL];omega)) only[F_fq,Ak,Int.reduceEq,reduceIte,zU,zT,aa]
 by_cases e1:k=k'<;>by_cases e2:t=t'<;>simp[e1,e2]
theorem wV(hr:rs.length<=1099511627776)(hm:∀ r∈rs,r.m.length<=1099511627776):ln [.list (rs.map Rec.e),.list (rs'.map Rec.e)]=some [.bool (decide (rs=rs'))]:=by
 rw[q_fo];unfold F_fo
 simp only[List.length_map]
 by_cases hl:rs.length=rs'.length
 ·have e:(((rs.length:Nat):Int) != ((rs'.length:Nat):Int))=false:=by simp[hl]
  simp only[e,aB]
  rw[rl hl]
  ·rfl
  ·intro i x y hx hy
   have hi:=(List.getElem?_eq_some_iff.1 hx).1
   have hi':(i:Int)<(rs.length:Nat):=by omega
   have hxm:=hm x (List.mem_of_getElem? hx)
   simp (disch:=first|assumption|omega|(simp only[zL];omega)) only[wF,mi hx,mi hy,Rec.e,al,hi',if_true,n_Rec,Int.reduceEq,reduceIte,zU,zT,aa]
   try (by_cases e:x=y<;>simp[e])
  ·have h:¬ ((rs.length:Int)<(rs.length:Nat)):=by omega
   simp (disch:=first|assumption|omega|(simp only[zL];omega)) only[wF,h,if_false,Int.reduceEq,reduceIte,zU,zT,aa]
 ·have e:(((rs.length:Nat):Int) != ((rs'.length:Nat):Int))=true:=by simp;omega
  have:rs≠rs':=fun h=>hl (by rw[h])
  simp[e,this]
theorem E2(hl:LgS ⟨rs,f⟩):o9 [.list (rs.map Rec.e),.int .i64 f,.list (rs'.map Rec.e),.int .i64 f']=some [.bool (decide ((⟨rs,f⟩:Log)=⟨rs',f'⟩))]:=by
 rw[q_fy]
 have h1:rs.length<=1099511627776:=by have:=hl.1;simp only at this;omega
 have h2:∀ r∈rs,r.m.length<=1099511627776:=hl.2
 simp (disch:=first|assumption|omega|(simp only[zL];omega)) only[F_fy,wV h1 h2,Int.reduceEq,reduceIte,zU,zT,aa]
 by_cases e1:f=f'<;>by_cases e2:rs=rs'<;>simp[e1,e2]
theorem Cp{x x':House}(hl:LgS x.lg):uU [.int .i64 x.id,.bool x.up,.int .i64 x.room,.list (x.lg.rs.map Rec.e),.int .i64 x.lg.f,.int .i64 x'.id,.bool x'.up,.int .i64 x'.room,.list (x'.lg.rs.map Rec.e),.int .i64 x'.lg.f]=some [.bool (decide (x=x'))]:=by
 rw[q_ej]
 obtain⟨id,up,room,⟨rs,f⟩⟩:=x
 obtain⟨id',up',room',⟨rs',f'⟩⟩:=x'
 have key:decide ((⟨id,up,room,⟨rs,f⟩⟩:House)=⟨id',up',room',⟨rs',f'⟩⟩)=(decide (id=id') && ((up==up') && (decide (room=room') && decide ((⟨rs,f⟩:Log)=⟨rs',f'⟩)))):=by
  rw[Bool.eq_iff_iff];simp
 simp (disch:=first|assumption|omega|(simp only[zL];omega)) only[F_ej,E2 hl,key,Int.reduceEq,reduceIte,zT,aa]
 rw[cy id,cy room]
 generalize decide (id=id')=p1
 generalize (up==up')=p2
 generalize decide (room=room')=p3
 generalize decide ((⟨rs,f⟩:Log)=⟨rs',f'⟩)=p4
 cases p1<;>cases p2<;>cases p3<;>rfl
theorem xy(hl:td.length<=1099511627776):pa [.list (td.map Word.e),.list (td'.map Word.e)]=some [.bool (decide (td=td'))]:=by
 rw[q_eg];unfold F_eg
 simp only[List.length_map]
 by_cases hl':td.length=td'.length
 ·have e:(((td.length:Nat):Int) != ((td'.length:Nat):Int))=false:=by simp[hl']
  simp only[e,aB]
  rw[rl hl']
  ·rfl
  ·intro i x y hx hy
   have hi:=(List.getElem?_eq_some_iff.1 hx).1
   have hi':(i:Int)<(td.length:Nat):=by omega
   have hb:=m9 x y
   simp (disch:=first|assumption|omega|(simp only[zL];omega)) only[wG,io hx,io hy,Word.e,al,hi',if_true,hb,Int.reduceEq,reduceIte,zU,zT,aa]
   try (by_cases e:x=y<;>simp[e])
  ·have h:¬ ((td.length:Int)<(td.length:Nat)):=by omega
   simp (disch:=first|assumption|omega|(simp only[zL];omega)) only[wG,h,if_false,Int.reduceEq,reduceIte,zU,zT,aa]
 ·have e:(((td.length:Nat):Int) != ((td'.length:Nat):Int))=true:=by simp;omega
  have:td≠td':=fun h=>hl' (by rw[h])
  simp[e,this]
theorem FL(hs:DkS ⟨up,⟨rs,f⟩,td⟩):uT [.bool up,.list (rs.map Rec.e),.int .i64 f,.list (td.map Word.e),.bool up',.list (rs'.map Rec.e),.int .i64 f',.list (td'.map Word.e)]=some [.bool (decide ((⟨up,⟨rs,f⟩,td⟩:Desk)=⟨up',⟨rs',f'⟩,td'⟩))]:=by
 rw[q_fb]
 have h1:LgS ⟨rs,f⟩:=hs.lg
 have h2:td.length<=1099511627776:=by have:=hs.td;simp only at this;omega
 have key:decide ((⟨up,⟨rs,f⟩,td⟩:Desk)=⟨up',⟨rs',f'⟩,td'⟩)=((up==up') && (decide ((⟨rs,f⟩:Log)=⟨rs',f'⟩) && decide (td=td'))):=by
  rw[Bool.eq_iff_iff];simp
 simp (disch:=first|assumption|omega|(simp only[zL];omega)) only[F_fb,E2 h1,xy h2,key,Int.reduceEq,reduceIte,zT,aa]
 generalize (up==up')=p1
 generalize decide ((⟨rs,f⟩:Log)=⟨rs',f'⟩)=p2
 generalize decide (td=td')=p3
 cases p1<;>cases p2<;>rfl
theorem qj{w w':Wd}(hd:DkS w.dk)(hh:∀ x∈w.hs,LgS x.lg)(hhl:w.hs.length<=1000)(hn:w.ns.length<=1000) :
  dV [.bool w.dk.up,.list (w.dk.lg.rs.map Rec.e),.int .i64 w.dk.lg.f,.list (w.dk.td.map Word.e),.list (w.hs.map House.e),.list (w.ns.map Word.e),.bool w'.dk.up,.list (w'.dk.lg.rs.map Rec.e),.int .i64 w'.dk.lg.f,.list (w'.dk.td.map Word.e),.list (w'.hs.map House.e),.list (w'.ns.map Word.e)]=some [.bool (decide (w=w'))]:=by
 rw[q_ea]
 obtain⟨⟨up,⟨rs,f⟩,td⟩,hs,ns⟩:=w
 obtain⟨⟨up',⟨rs',f'⟩,td'⟩,hs',ns'⟩:=w'
 simp only at hh hhl hn hd
 simp (disch:=first|assumption|omega|(simp only[zL];omega)) only[F_ea,FL hd,xy,Int.reduceEq,reduceIte,zU,zT,aa]
 by_cases e1:(⟨up,⟨rs,f⟩,td⟩:Desk)=⟨up',⟨rs',f'⟩,td'⟩
 case neg=>simp[e1]
 by_cases e2:ns=ns'
 case neg=>simp[e2]
 simp only[e1,e2,decide_true,aD]
 by_cases hl:hs.length=hs'.length
 ·have e:(((hs.length:Nat):Int) != ((hs'.length:Nat):Int))=false:=by simp[hl]
  have e':((hs.length:Nat):Int)=((hs'.length:Nat):Int):=by omega
  simp only[e',if_true]
  rw[rl (a:=hs) (b:=hs') hl]
  ·simp
  ·intro i x y hx hy
   have hi:=(List.getElem?_eq_some_iff.1 hx).1
   have hi':(i:Int)<(hs.length:Nat):=by omega
   have hxm:=hh x (List.mem_of_getElem? hx)
   simp (disch:=first|assumption|omega|(simp only[zL];omega)) only[wH,fG hx,fG hy,House.e,al,hi',if_true,Cp hxm,Int.reduceEq,reduceIte,zU,zT,aa]
   try (by_cases e:x=y<;>simp[e])
  ·have h:¬ ((hs.length:Int)<(hs.length:Nat)):=by omega
   simp (disch:=first|assumption|omega|(simp only[zL];omega)) only[wH,h,if_false,Int.reduceEq,reduceIte,zU,zT,aa]
 ·have e':¬ ((hs.length:Nat):Int)=((hs'.length:Nat):Int):=by omega
  have:hs≠hs':=fun h=>hl (by rw[h])
  simp[e',this]
theorem WOk.n{w w':Wd}(ho:WOk w) :
  dV [.bool w.dk.up,.list (w.dk.lg.rs.map Rec.e),.int .i64 w.dk.lg.f,.list (w.dk.td.map Word.e),.list (w.hs.map House.e),.list (w.ns.map Word.e),.bool w'.dk.up,.list (w'.dk.lg.rs.map Rec.e),.int .i64 w'.dk.lg.f,.list (w'.dk.td.map Word.e),.list (w'.hs.map House.e),.list (w'.ns.map Word.e)]=some [.bool (decide (w=w'))] :=
 qj ho.dk.S (fun x hx=>by
  obtain⟨i,hi⟩:=List.mem_iff_getElem?.1 hx
  exact(ho.hs i x hi).1.lg.S) (by rw[ho.len];omega) (by have:=ho.nlen;omega)
end
end Dx
namespace Dx
open Go
def gp(code:List Int):Prop:=∀ b∈code,0<=b/\b<=255
def cI(code:List Int)(rooms:List Int)(es:List Ev)(w:Wd):List C :=
 [.list (code.map eB),.int .i64 code.length,.bool false,.list (rooms.map eI),.list (es.map Ev.e),
  .bool w.dk.up,.list (w.dk.lg.rs.map Rec.e),.int .i64 w.dk.lg.f,.list (w.dk.td.map Word.e),.list (w.hs.map House.e),.list (w.ns.map Word.e),.bool true,
  .bool w.dk.up,.list (w.dk.lg.rs.map Rec.e),.int .i64 w.dk.lg.f,.list (w.dk.td.map Word.e),.list (w.hs.map House.e),.list (w.ns.map Word.e),.bool true,.bool false,.bool true,.bool false,.bool false]
theorem ar(Φ:Phi)(p:Prim)(args:List Cell)(t:Tree)(env:List C):den Φ (.letp p args t) env=den Φ t (env++[p.den (ax env args)]):=by rw[den]
theorem aH(Φ:Phi)(a:At)(t e:Tree)(env:List C):den Φ (.ite a t e) env=ae (a.den env).toBool (den Φ t env) (den Φ e env):=by rw[den]
theorem aK(Φ:Phi)(xs:List Cell)(env:List C):den Φ (.ret xs) env=some (.ret (ax env xs)):=by rw[den]
theorem bK{Φ:Phi}{t:Tree}{code:List Int}(h0:Φ 0=eV)(h1:Φ 1=dq)(h2:Φ 2=eW)(h3:Φ 3=dV)
  (hl:code.length<=1099511627776) (hc:gp code)
  (ht:∀(rooms:List Int) (es:List Ev) (w:Wd),aU rooms es=some w->rooms.length<=4->es.length<=81->(∀ e∈es,EvS e)->ai (den Φ t (cI code rooms es w))=some [.bool true]) :
  ai (den Φ (cH t) [.list (code.map eB)])=some [.bool true]:=by
 obtain⟨rooms,es,hd,hr,hel,hes⟩:=gn hl hc
 have p1:=cL (rooms:=rooms) (es:=es) (by omega) (by omega) hes
 have p2:=kM (rooms:=rooms) (es:=es) (by omega) (by omega) hes
 have hself:=qj (w:=wd0) (w':=wd0) ⟨⟨by simp[wd0],by simp[wd0]⟩,by simp[wd0]⟩ (by simp[wd0]) (by simp[wd0]) (by simp[wd0])
 unfold cH
 rw[ar,ar,aH]
 simp only[ax,Cell.den,At.den,Prim.den,List.cons_append,List.nil_append,aa,C.toInt_int,C.toList_list,C.toBool_bool,List.length_map]
 by_cases hbig:((code.length:Nat):Int)>1048576
 ·simp only[hbig,decide_true,aD,aK,ax,Cell.den,At.den,C.toBool_bool];rfl
 simp only[hbig,decide_false,aB]
 rw[ap,h0]
 simp only[ax,Cell.den,At.den,aa,C.toList_list,hd]
 rw[bv rfl,ap,h1]
 simp only[ax,Cell.den,At.den,List.cons_append,List.nil_append,aa,C.toList_list,p1]
 cases hw:aU rooms es with
 | none =>
  rw[hw]at p2
  simp only[Option.getD_none,Option.isSome_none,Wd.e,List.cons_append,List.nil_append]at p2 ⊢
  rw[bv rfl,ap,h2]
  simp only[ax,Cell.den,At.den,List.cons_append,List.nil_append,aa,C.toList_list,p2]
  rw[bv rfl]
  simp only[ar,aH,ap,h3,ax,Cell.den,At.den,Prim.den,List.cons_append,List.nil_append,aa,C.toInt_int,C.toList_list,C.toBool_bool,hself]
  simp only[BEq.rfl,Bool.not_true,aB,decide_true,qb,aa,C.toBool_bool,Bool.not_false,aD,List.cons_append,List.nil_append,ar,aH,ap,aK,ax,Cell.den,At.den,Prim.den,h3,hself]
  rfl
 | some w =>
  have ow:WOk w:=by
   unfold aU at hw
   split at hw
   ·cases hw
   ·simp only[Option.map_eq_some_iff]at hw
    obtain⟨w0,hw0,rfl⟩:=hw
    exact(co hw0).plays es
  have hn:=ow.n (w':=w)
  have key:=ht rooms es w hw hr hel hes
  rw[hw]at p2
  simp only[Option.getD_some,Option.isSome_some,Wd.e,List.cons_append,List.nil_append]at p2 ⊢
  rw[bv rfl,ap,h2]
  simp only[ax,Cell.den,At.den,List.cons_append,List.nil_append,aa,C.toList_list,p2]
  rw[bv rfl]
  simp only[ar,aH,ap,h3,ax,Cell.den,At.den,Prim.den,List.cons_append,List.nil_append,aa,C.toInt_int,C.toList_list,C.toBool_bool,hn]
  simp only[BEq.rfl,Bool.not_true,aB,decide_true,qb,aa,C.toBool_bool,Bool.not_false,aD,List.cons_append,List.nil_append,ar,aH,ap,aK,ax,Cell.den,At.den,Prim.den]
  exact key
def bp(code more:List Int)(rooms:List Int)(es:List Ev)(w:Wd):List C :=
 [.list (code.map eB),.list (more.map eB),.int .i64 code.length,.bool false,.int .i64 more.length,.bool false,.list (rooms.map eI),.list (es.map Ev.e),
  .bool w.dk.up,.list (w.dk.lg.rs.map Rec.e),.int .i64 w.dk.lg.f,.list (w.dk.td.map Word.e),.list (w.hs.map House.e),.list (w.ns.map Word.e),.bool true,
  .bool w.dk.up,.list (w.dk.lg.rs.map Rec.e),.int .i64 w.dk.lg.f,.list (w.dk.td.map Word.e),.list (w.hs.map House.e),.list (w.ns.map Word.e),.bool true,.bool false,.bool true,.bool false,.bool false]
theorem dr{Φ:Phi}{t:Tree}{code more:List Int}(h0:Φ 0=eV)(h1:Φ 1=dq)(h2:Φ 2=eW)(h3:Φ 3=dV)
  (hl:code.length<=1099511627776) (hc:gp code)
  (ht:∀(rooms:List Int) (es:List Ev) (w:Wd),more.length<=1048576->aU rooms es=some w->rooms.length<=4->es.length<=81->(∀ e∈es,EvS e)->ai (den Φ t (bp code more rooms es w))=some [.bool true]) :
  ai (den Φ (dL t) [.list (code.map eB),.list (more.map eB)])=some [.bool true]:=by
 obtain⟨rooms,es,hd,hr,hel,hes⟩:=gn hl hc
 have p1:=cL (rooms:=rooms) (es:=es) (by omega) (by omega) hes
 have p2:=kM (rooms:=rooms) (es:=es) (by omega) (by omega) hes
 have hself:=qj (w:=wd0) (w':=wd0) ⟨⟨by simp[wd0],by simp[wd0]⟩,by simp[wd0]⟩ (by simp[wd0]) (by simp[wd0]) (by simp[wd0])
 unfold dL
 rw[ar,ar,aH]
 simp only[ax,Cell.den,At.den,Prim.den,List.cons_append,List.nil_append,aa,C.toInt_int,C.toList_list,C.toBool_bool,List.length_map]
 by_cases hbig:((code.length:Nat):Int)>1048576
 ·simp only[hbig,decide_true,aD,aK,ax,Cell.den,At.den,C.toBool_bool];rfl
 simp only[hbig,decide_false,aB]
 rw[ar,ar,aH]
 simp only[ax,Cell.den,At.den,Prim.den,List.cons_append,List.nil_append,aa,C.toInt_int,C.toList_list,C.toBool_bool,List.length_map]
 by_cases hbig2:((more.length:Nat):Int)>1048576
 ·simp only[hbig2,decide_true,aD,aK,ax,Cell.den,At.den,C.toBool_bool];rfl
 simp only[hbig2,decide_false,aB]
 rw[ap,h0]
 simp only[ax,Cell.den,At.den,aa,C.toList_list,hd]
 rw[bv rfl,ap,h1]
 simp only[ax,Cell.den,At.den,List.cons_append,List.nil_append,aa,C.toList_list,p1]
 cases hw:aU rooms es with
 | none =>
  rw[hw]at p2
  simp only[Option.getD_none,Option.isSome_none,Wd.e,List.cons_append,List.nil_append]at p2 ⊢
  rw[bv rfl,ap,h2]
  simp only[ax,Cell.den,At.den,List.cons_append,List.nil_append,aa,C.toList_list,p2]
  rw[bv rfl]
  simp only[ar,aH,ap,h3,ax,Cell.den,At.den,Prim.den,List.cons_append,List.nil_append,aa,C.toInt_int,C.toList_list,C.toBool_bool,hself]
  simp only[BEq.rfl,Bool.not_true,aB,decide_true,qb,aa,C.toBool_bool,Bool.not_false,aD,List.cons_append,List.nil_append,ar,aH,ap,aK,ax,Cell.den,At.den,Prim.den,h3,hself]
  rfl
 | some w =>
  have ow:WOk w:=by
   unfold aU at hw
   split at hw
   ·cases hw
   ·simp only[Option.map_eq_some_iff]at hw
    obtain⟨w0,hw0,rfl⟩:=hw
    exact(co hw0).plays es
  have hn:=ow.n (w':=w)
  have key:=ht rooms es w (by omega) hw hr hel hes
  rw[hw]at p2
  simp only[Option.getD_some,Option.isSome_some,Wd.e,List.cons_append,List.nil_append]at p2 ⊢
  rw[bv rfl,ap,h2]
  simp only[ax,Cell.den,At.den,List.cons_append,List.nil_append,aa,C.toList_list,p2]
  rw[bv rfl]
  simp only[ar,aH,ap,h3,ax,Cell.den,At.den,Prim.den,List.cons_append,List.nil_append,aa,C.toInt_int,C.toList_list,C.toBool_bool,hn]
  simp only[BEq.rfl,Bool.not_true,aB,decide_true,qb,aa,C.toBool_bool,Bool.not_false,aD,List.cons_append,List.nil_append,ar,aH,ap,aK,ax,Cell.den,At.den,Prim.den]
  exact key
end Dx
namespace Dx
open Go
theorem be(Φ:Phi)(init:List Cell)(body:Tree)(env:List C):den Φ (.iter init body) env=aN (fun ps=>den Φ body (env++bL ps 0 (aS init))) (ax env init):=by rw[den]
theorem aP(Φ:Phi)(l i:At)(ks:List CK)(t:Tree)(env:List C):den Φ (.row l i ks t) env=aO (l.den env) (i.den env) ks fun r=>den Φ t (env++r):=by rw[den]
theorem aX(Φ:Phi)(t:Tree)(env:List C):den Φ (.up t) env=upD (den Φ t env):=by rw[den]
theorem aI(Φ:Phi)(xs:List Cell)(env:List C):den Φ (.jump xs) env=some (.jump (ax env xs)):=by rw[den]
theorem aQ(Φ:Phi)(p:Prim)(args:List Cell)(t:Tree)(env:List C):den Φ (.chk p args t) env=af (p.den (ax env args)).toBool (den Φ t env):=by rw[den]
theorem aJ(Φ:Phi)(ks:List CK)(body k:Tree)(env:List C):den Φ (.join ks body k) env=bl (den Φ body env) fun ps=>den Φ k (env++bL ps 0 ks):=by rw[den]
theorem dc{α:Type}{F:List C->Option Out}{l:List α}{o:Out}(hs:∀(i:Nat) (x:α),l[i]?=some x->F [.int .i64 (i:Nat)]=some (.jump [.int .i64 ((i+1:Nat):Int)]))
  (hf:F [.int .i64 ((l.length:Nat):Int)]=some (.up o)):aN F [.int .i64 0]=some o :=
 aL (l:=l) (F:=F) (enc:=fun i (_:Unit)=>[.int .i64 i]) (res:=fun _ _ _=>o) (fun _ _=>True) (s:=()) trivial (fun i x _ _ hx _=>.inl ⟨(),hs i x hx,trivial,rfl⟩) (fun _ _=>hf)
section
variable {code:List Int}
end
end Dx
namespace Dx
open Go
theorem rowM{m:List Int}{h:Int}(h1:1<=h)(h2:h<=m.length){kk:IntKind}{f:List C->Option Out}:aO (.list (m.map eI)) (.int kk (h-1)) [.int .i64] f=f (eI (mAt m h)) :=
 dm (by omega) (by rw[ri (by omega)];simp) rfl
section
variable {code:List Int}
end
end Dx
namespace Dx
open Go
theorem Al{α σ:Type}{F:List C->Option Out}{l:List α}{o:Out}{enc:Nat->σ->List C}{P:Nat->σ->Prop}{s0:σ}(h0:P 0 s0)
  (hs:∀(i:Nat) (x:α) (s:σ),l[i]?=some x->P i s->∃ s',F (enc i s)=some (.jump (enc (i+1) s'))/\P (i+1) s') (hf:∀ s,P l.length s->F (enc l.length s)=some (.up o)):aN F (enc 0 s0)=some o :=
 aL (l:=l) (F:=F) (enc:=enc) (res:=fun _ _ _=>o) P h0 (fun i x _ s hx h=>by
  obtain⟨s',h1,h2⟩:=hs i x s hx h
  exact .inl ⟨s',h1,h2,rfl⟩) hf
section
variable {code:List Int}
end
end Dx
namespace Dx
open Go
section
variable {room:Int} {hs:List Hold} {k h t m:Int} {ns:List Word} {w:Wd}
theorem sf(ho:StOk ⟨room,hs⟩):uW [.int .i64 room,.list (hs.map Hold.e)]=some [.int .i64 (free ⟨room,hs⟩)]:=by
 rw[q_co]
 have hl:hs.length=6:=ho.len
 have hf:=wT (room:=room) (hs:=hs) ho.room ho.hold (by omega)
 simp (disch:=first|assumption|omega|(simp only[zL];omega)) only[F_co,pu ho,hf,Int.reduceEq,reduceIte,zU,zT,aa]
theorem yJ(hL:ns.length<=1000):uZ [.list (ns.map Word.e)]=some [.bool (ns.any fun x=>!b8 x)]:=by
 have h1:∀ x:Word,uX [.int .i64 x.k,.int .i64 x.h,.int .i64 x.t,.int .i64 x.m]=some [.bool (!b8 x)]:=fun x=>by
  rw[q_cf];simp (disch:=first|assumption|omega|(simp only[zL];omega)) only[F_cf,g0,Int.reduceEq,reduceIte,zU,zT,aa]
 have hi:uY [.list (ns.map Word.e)]=some [.int .i64 (lO (fun x=>!b8 x) 0 ns)]:=by
  rw[q_aj];unfold F_aj
  simp only[List.length_map]
  rw[gx (l:=ns) (fun x=>!b8 x)]
  ·rfl
  ·intro i x hx
   have hi:=(List.getElem?_eq_some_iff.1 hx).1
   have hi':(i:Int)<(ns.length:Nat):=by omega
   simp (disch:=first|assumption|omega|(simp only[zL];omega)) only[wI,io hx,Word.e,h1,al,hi',if_true,Int.reduceEq,reduceIte,zT,aa]
   cases b8 x<;>simp[hi']
  ·have h:¬ ((ns.length:Int)<(ns.length:Nat)):=by omega
   simp (disch:=first|assumption|omega|(simp only[zL];omega)) only[wI,h,if_false,Int.reduceEq,reduceIte,zU,zT,aa]
 rw[q_af]
 simp (disch:=first|assumption|omega|(simp only[zL];omega)) only[F_af,hi,d9,Bool.decide_eq_true,Int.reduceEq,reduceIte,zU,zT,aa]
theorem WOk.cells(ho:WOk w){i:Nat}{x:House}(hx:w.hs[i]?=some x):LgOk ⟨x.lg.rs,x.lg.f⟩/\dX ⟨x.id,x.up,x.room,⟨x.lg.rs,x.lg.f⟩⟩=true/\x.id=((i+1:Nat):Int) :=
 ⟨(ho.hs i x hx).1.lg,houseOk_iff.2 (ho.hs i x hx).1,by have:=(ho.hs i x hx).2;omega⟩
theorem ir(ho:WOk w):iT [.bool w.dk.up,.list (w.dk.lg.rs.map Rec.e),.int .i64 w.dk.lg.f,.list (w.dk.td.map Word.e),.list (w.hs.map House.e),.list (w.ns.map Word.e)]=some [.bool true]:=by
 rw[q_el]
 have hdS:DkS ⟨w.dk.up,⟨w.dk.lg.rs,w.dk.lg.f⟩,w.dk.td⟩:=ho.dk.S
 have hdo:cm ⟨w.dk.up,⟨w.dk.lg.rs,w.dk.lg.f⟩,w.dk.td⟩=true:=deskOk_iff.2 ho.dk
 have h3:=ho.len
 have hn:=ho.nlen
 have h3':((w.hs.length:Nat):Int)=3:=by omega
 have hn':¬ (((w.ns.length:Nat):Int)>14):=by omega
 have hw:(w.ns.any fun x=>!b8 x)=false:=by
  rw[List.any_eq_false]
  intro x hx
  rw[wordOk_iff.2 (ho.ns x hx)];simp
 simp (disch:=first|assumption|omega|(simp only[zL];omega)) only[F_el,cG,hdo,h3',hn',if_true,if_false,Int.reduceEq,reduceIte,zU,zT,aa]
 rw[dc (l:=w.hs) (o:=.ret [.bool true])]
 ·rfl
 ·intro i x hx
  have hi:=(List.getElem?_eq_some_iff.1 hx).1
  have hi':(i:Int)<3:=by omega
  obtain⟨c1,c2,c3⟩:=ho.cells hx
  have c2':dX ⟨((i+1:Nat):Int),x.up,x.room,x.lg⟩=true:=by rw[<-c3];exact c2
  simp (disch:=first|assumption|omega|(simp only[zL];omega)) only[wJ,fG hx,House.e,dN c1.S,c2',c3,al,hi',if_true,Int.reduceEq,reduceIte,zU,zT,aa]
 ·have h:¬ ((3:Int)<3):=by omega
  simp (disch:=first|assumption|omega|(simp only[zL];omega)) only[wJ,h3',if_false,yJ,hw,Int.lt_irrefl,Int.reduceEq,reduceIte,zU,zT,aa]
  try rfl
theorem nX(ho:WOk w):u0 [.bool w.dk.up,.list (w.dk.lg.rs.map Rec.e),.int .i64 w.dk.lg.f,.list (w.dk.td.map Word.e),.list (w.hs.map House.e),.list (w.ns.map Word.e)]=some w.e:=by
 rw[q_ba]
 have hdS:DkS ⟨w.dk.up,⟨w.dk.lg.rs,w.dk.lg.f⟩,w.dk.td⟩:=ho.dk.S
 have h3:=ho.len
 have hn:=ho.nlen
 simp (disch:=first|assumption|omega|(simp only[zL];omega)) only[F_ba,dw hdS,Desk.e,sM,z9,Int.reduceEq,reduceIte,zU,zT,aa]
 refine Eq.trans (congrArg ai (aL (l:=w.hs) (enc:=fun i (s:List House)=>[.int .i64 i,.list (s.map House.e)])
  (res:=fun xs _ s=>.ret [.bool w.dk.up,.list (w.dk.lg.rs.map Rec.e),.int .i64 w.dk.lg.f,.list (w.dk.td.map Word.e),.list ((s++xs).map House.e),.list (w.ns.map Word.e)]) (fun i s=>s.length=i) (s:=[]) rfl ?_ ?_)) rfl
 ·intro i x xs s hx hs
  have hi:=(List.getElem?_eq_some_iff.1 hx).1
  have hi':(i:Int)<(w.hs.length:Nat):=by omega
  obtain⟨c1,c2,c3⟩:=ho.cells hx
  have hc:s.length+1<=1099511627776:=by omega
  simp (disch:=first|assumption|omega|(simp only[zL];omega)) only[wK,fG hx,House.e,dG c1.S,al,hi',hc,if_true,Int.reduceEq,reduceIte,zU,zT,aa]
  exact .inl ⟨s++[x],by simp[House.e],by simp[hs],by simp⟩
 ·intro s hs
  have h:¬ ((w.hs.length:Int)<(w.hs.length:Nat)):=by omega
  simp (disch:=first|assumption|omega|(simp only[zL];omega)) only[wK,h,if_false,Int.reduceEq,reduceIte,zU,zT,aa]
  simp
theorem kr(ho:WOk w){e:Ev}(hm:e.m.length<=1099511627776) :
  pb [.bool w.dk.up,.list (w.dk.lg.rs.map Rec.e),.int .i64 w.dk.lg.f,.list (w.dk.td.map Word.e),.list (w.hs.map House.e),.list (w.ns.map Word.e),.int .i64 e.k,.int .i64 e.a,.int .i64 e.b,.list (e.m.map eI)]=some (wdo w e).e:=by
 rw[q_et]
 unfold F_et
 rw[ir ho]
 simp only[qb,aa,C.toBool_bool,Bool.not_true,aB]
 rw[nX ho]
 simp only[Wd.e,dM,aa,C.toInt_int,C.toList_list,C.toBool_bool]
 rw[E1 ho hm]
 simp only[Wd.e,dM,aa,C.toInt_int,C.toList_list,C.toBool_bool]
 rfl
def bW(w:Wd)(t:Int):List Hold:=w.hs.map fun h=>hAt (am h false).hs t
theorem jv(ho:WOk w)(ht:1<=t/\t<=6):pc [.bool w.dk.up,.list (w.dk.lg.rs.map Rec.e),.int .i64 w.dk.lg.f,.list (w.dk.td.map Word.e),.list (w.hs.map House.e),.list (w.ns.map Word.e),.int .i64 t]=some [.list ((bW w t).map Hold.e)]:=by
 rw[q_cd]
 have h3:=ho.len
 have hit:=in_iff.2 ht
 simp (disch:=first|assumption|omega|(simp only[zL];omega)) only[F_cd,ir ho,jL,hit,Int.reduceEq,reduceIte,zU,zT,aa]
 have key:=aL (l:=w.hs) (F:=fun ps=>rf (w.hs.map House.e) t ((w.hs.length:Nat):Int) ((aa ps 0).toInt) ((aa ps 1).toList)) (enc:=fun i (s:List Hold)=>[.int .i64 i,.list (s.map Hold.e)])
  (res:=fun xs _ s=>.ret [.list ((s++xs.map fun h=>hAt (am h false).hs t).map Hold.e)]) (fun i s=>s.length=i) (s:=[]) rfl ?_ ?_
 ·have key:aN _ [C.int .i64 0,C.list []]=_:=key
  rw[key];rfl
 ·intro i x xs s hx hs
  have hi:=(List.getElem?_eq_some_iff.1 hx).1
  have hi':(i:Int)<(w.hs.length:Nat):=by omega
  obtain⟨c1,c2,c3⟩:=ho.cells hx
  have hc:s.length+1<=1099511627776:=by omega
  have s6:(am ⟨x.id,x.up,x.room,⟨x.lg.rs,x.lg.f⟩⟩ false).hs.length=6:=((houseOk_iff.1 c2).stOk false).len
  have ht6:t<=((am ⟨x.id,x.up,x.room,⟨x.lg.rs,x.lg.f⟩⟩ false).hs.length:Nat):=by omega
  simp (disch:=first|assumption|omega|(simp only[zL];omega)) only[rf,fG hx,House.e,mu c1,Stock.e,aE,y6 ht.1 ht6,Hold.e,al,hi',hc,if_true,Int.reduceEq,reduceIte,zU,zT,aa]
  exact .inl ⟨s++[hAt (am x false).hs t],by simp[Hold.e],by simp[hs],by simp⟩
 ·intro s hs
  have h:¬ ((w.hs.length:Int)<(w.hs.length:Nat)):=by omega
  simp (disch:=first|assumption|omega|(simp only[zL];omega)) only[rf,h,if_false,Int.reduceEq,reduceIte,zU,zT,aa]
  simp
end
end Dx
namespace Dx
open Go
section
variable {code:List Int}
end
end Dx
namespace Dx
open Go
theorem nk(a b:Nat):Int.tmod (a:Int) (b:Int)=((a % b:Nat):Int):=rfl
section
variable {code more:List Int}
theorem yK{l:Log}(h:LgOk l):dW l 40=l.rs.length:=by
 have h1:=h.hi
 have h2:=h.len
 have h3:=h.lo
 unfold dW
 rw[if_pos (by omega),Int.min_def]
 split<;>omega
theorem py{l:Log}(h:LgOk l):eX l 40=⟨l.rs,l.rs.length⟩:=by
 unfold eX
 rw[yK h,Int.toNat_natCast,List.take_length]
end
end Dx
namespace Dx
open Go
theorem sP{α:Type}{F:List C->Option Out}{l:List α}{o:Out}(hs:∀(i:Nat) (x:α),l[i]?=some x->F [.int .i64 ((i+1:Nat):Int)]=some (.jump [.int .i64 ((i+1+1:Nat):Int)]))
  (hf:F [.int .i64 ((l.length+1:Nat):Int)]=some (.up o)):aN F [.int .i64 1]=some o :=
 aL (l:=l) (F:=F) (enc:=fun i (_:Unit)=>[.int .i64 ((i+1:Nat):Int)]) (res:=fun _ _ _=>o) (fun _ _=>True) (s:=()) trivial (fun i x _ _ hx _=>.inl ⟨(),hs i x hx,trivial,rfl⟩) (fun _ _=>hf)
theorem rowN{m:List Int}(hm:m.length=3){h:Nat}(hh:h<3){kk:IntKind}{f:List C->Option Out}:aO (.list (m.map eI)) (.int kk (h:Int)) [.int .i64] f=f (eI (mAt m ((h+1:Nat):Int))):=by
 refine gl ?_
 have e:(((h+1:Nat):Int)-1).toNat=h:=by omega
 rw[mAt,e,List.getElem?_eq_getElem (by omega)];rfl
theorem sQ{w:Wd}(ow:WOk w){h:Nat}(hh:h<3)(t:Int):(bW w t)[h]?=some ((vw w).hA ((h+1:Nat):Int) t):=by
 have e:(((h+1:Nat):Int)-1).toNat=h:=by omega
 have hl:h<w.hs.length:=by rw[ow.len];exact hh
 unfold bW
 rw[List.getElem?_map,List.getElem?_eq_getElem hl]
 show some _=some (hAt (am (houseAt w ((h+1:Nat):Int)) false).hs t)
 unfold houseAt
 rw[e,List.getElem?_eq_getElem hl];rfl
section
variable {code:List Int}
end
end Dx
namespace Dx
open Go
section
variable {code more:List Int}
end
end Dx
namespace Dx
open Go
section
variable {w:Wd}
theorem E3(ow:WOk w)(I:Inv (vw w)):pd [.bool w.dk.up,.list (w.dk.lg.rs.map Rec.e),.int .i64 w.dk.lg.f,.list (w.dk.td.map Word.e),.list (w.hs.map House.e),.list (w.ns.map Word.e)]=some [.bool true]:=by
 rw[q_fv]
 have s0:DkS ⟨w.dk.up,⟨w.dk.lg.rs,w.dk.lg.f⟩,w.dk.td⟩:=ow.dk.S
 have k0:cm ⟨w.dk.up,⟨w.dk.lg.rs,w.dk.lg.f⟩,w.dk.td⟩=true:=deskOk_iff.2 ow.dk
 have dT:=cq s0 (b:=true)
 rw[k0,if_pos rfl]at dT
 have tr:TrOk (aj w.dk.lg true):=ow.dk.trOk true
 have tr6:=tr.len
 have hsF:∀ t,(vw w).sF t=(tAt (aj w.dk.lg true) t).s:=fun _=>rfl
 have hwt:∀ t h,(vw w).want t h=mAt (tAt (aj w.dk.lg true) t).m h:=fun _ _=>rfl
 unfold F_fv
 have dT':ev [.bool w.dk.up,.list (w.dk.lg.rs.map Rec.e),.int .i64 w.dk.lg.f,.list (w.dk.td.map Word.e),.bool true]=some [.list ((aj w.dk.lg true).map Trip.e)]:=dT
 rw[dT']
 simp only[Ac,aa,C.toList_list]
 rw[sP (l:=List.range 6) (o:=.ret [.bool true])]
 ·rfl
 ·intro i x hx
  have hi:i<6:=by simpa using(List.getElem?_eq_some_iff.1 hx).1
  have hi':((i+1:Nat):Int)<=6:=by omega
  have ht1:(1:Int)<=((i+1:Nat):Int):=by omega
  have ht:isT ((i+1:Nat):Int):=⟨by omega,by omega⟩
  have hho:=jv ow (t:=((i+1:Nat):Int)) ht
  have hh3:(bW w ((i+1:Nat):Int)).length=3:=by unfold bW;rw[List.length_map,ow.len]
  have hh3':(((bW w ((i+1:Nat):Int)).length:Nat):Int)=3:=by omega
  have inner:∀ st:Int,st=(tAt (aj w.dk.lg true) ((i+1:Nat):Int)).s ->
    wM ((aj w.dk.lg true).map Trip.e) ((i+1:Nat):Int) ((bW w ((i+1:Nat):Int)).map Hold.e) st=some (.jump [.int .i64 ((i+1+1:Nat):Int)]):=by
   intro st hst
   unfold wM
   rw[dc (l:=bW w ((i+1:Nat):Int)) (o:=.jump [.int .i64 ((i+1+1:Nat):Int)])]
   ·intro h y hy
    have hh:=(List.getElem?_eq_some_iff.1 hy).1
    have hh':(h:Int)<((bW w ((i+1:Nat):Int)).length:Nat):=by omega
    have hlt:h<3:=by omega
    have hyA:y=(vw w).hA ((h+1:Nat):Int) ((i+1:Nat):Int):=by
     have:=sQ ow hlt ((i+1:Nat):Int)
     rw[hy]at this
     simpa using this
    have hH:isH ((h+1:Nat):Int):=⟨by omega,by omega⟩
    have f:=fun hs=>I.hold ((h+1:Nat):Int) ((i+1:Nat):Int) hH ht hs
    have hle:=I.hle ((h+1:Nat):Int) ((i+1:Nat):Int) hH ht
    have hok:=sy (I.okA ((h+1:Nat):Int) ((i+1:Nat):Int) hH ht)
    have tf:=I.trip ((i+1:Nat):Int) ht
    have hkept:=fun h4=>tf.kept h4 ((h+1:Nat):Int) hH
    have hleft:=fun h5=>(tf.left h5).2 ((h+1:Nat):Int) hH
    have hFA:=fun h0=>I.toBase.FA_s ht.1 h0
    have hrng:=fun h0=>I.toBase.F_rng ht.1 h0
    rw[<-hyA]at f hle hok
    have hw64:IntKind.wrap .i64 (((i+1:Nat):Int)-1)=((i+1:Nat):Int)-1:=aE (by omega) (by omega)
    have hlen:st≠0->((i+1:Nat):Int)<=((aj w.dk.lg true).length:Nat):=fun h0=>by
     have:=cp (l:=aj w.dk.lg true) (t:=((i+1:Nat):Int)) (by rw[<-hst];exact h0)
     omega
    have hm3:st≠0->(tAt (aj w.dk.lg true) ((i+1:Nat):Int)).m.length=3:=fun h0=>by
     have:=cp (l:=aj w.dk.lg true) (t:=((i+1:Nat):Int)) (by rw[<-hst];exact h0)
     exact bc (tripOk_iff.1 (tr.ok _ (fa this))).1
    rw[hsF,<-hst]at hFA hrng
    generalize hwn:mAt (tAt (aj w.dk.lg true) ((i+1:Nat):Int)).m ((h+1:Nat):Int)=wn
    have fs:y.s≠0->st≠0/\0<wn/\(y.s≠3->y.m=wn)/\(y.s=2->st=2\/st=4)/\(y.s=3->st=3\/st=5):=fun h0=>by
     have g:=f h0
     have g1:=g.s;have g2:=g.w;have g3:=g.m;have g4:=g.c;have g5:=g.u
     rw[<-hyA]at g3 g4 g5
     rw[hsF,<-hst]at g1 g4 g5
     rw[hwt,hwn]at g2 g3
     exact⟨g1,g2,g3,g4,g5⟩
    have k4:st=4->0<wn->y.s=2:=fun h4 hw0=>by
     have a:=hFA (by omega)
     have:=hkept (by omega) (by rw[hwt,hwn];exact hw0)
     unfold Dx.hle at hle;omega
    have k5:st=5->0<wn->y.s=3:=fun h5 hw0=>by
     have a:=hFA (by omega)
     have:=hleft (by omega) (by rw[hwt,hwn];exact hw0)
     unfold Dx.hle at hle;omega
    have rr:∀ {f:List C->Option Out},st≠0->aO (.list ((aj w.dk.lg true).map Trip.e)) (.int .i64 (((i+1:Nat):Int)-1)) [.list,.int .i64] f=f (tAt (aj w.dk.lg true) ((i+1:Nat):Int)).e:=fun h0=>qg ht1 (hlen h0)
    have rm:∀ {f:List C->Option Out},st≠0->aO (.list ((tAt (aj w.dk.lg true) ((i+1:Nat):Int)).m.map eI)) (.int .i64 (h:Int)) [.int .i64] f=f (eI wn):=fun h0=>by rw[rowN (hm3 h0) hlt,hwn]
    have wh:IntKind.wrap .i64 ((h:Int)+1)=((h+1:Nat):Int):=al (by omega)
    have st6:0<=st/\st<=5:=by
     by_cases h0:st=0
     ·omega
     ·have:=hrng h0;omega
    have s3:y.s=0\/y.s=1\/y.s=2\/y.s=3:=by omega
    have st5:st=0\/st=1\/st=2\/st=3\/st=4\/st=5:=by omega
    clear hst hFA hrng hkept hleft tf f hle
    unfold wL
    generalize ((i+1:Nat):Int)=T at *
    generalize ((h+1:Nat):Int)=H1 at *
    simp only[List.length_map,hh',decide_true,aD,jK hy,Hold.e,aa,C.toInt_int]
    have fs':y.s=0\/(st≠0/\0<wn/\(y.s=3\/y.m=wn)/\(y.s=2->st=2\/st=4)/\(y.s=3->st=3\/st=5)):=by
     by_cases h0:y.s=0
     ·exact .inl h0
     ·obtain⟨a,b,c,d,e⟩:=fs h0
      refine .inr ⟨a,b,?_,d,e⟩
      by_cases h3:y.s=3
      ·exact .inl h3
      ·exact .inr (c h3)
    clear fs
    by_cases h00:st=0
    ·have e2:y.s=0:=by omega
     subst h00
     simp[e2,nR,nQ,nP,wh]
    ·have R:=fun f=>rr (f:=f) h00
     have Mm:=fun f=>rm (f:=f) h00
     have hwz:y.s≠0->¬ (wn=0):=by omega
     have hme:y.s=1\/y.s=2->y.m=wn:=by omega
     by_cases hwp:0<wn
     ·have hwp':wn>0:=hwp
      have hw0:¬ (wn=0):=by omega
      rcases st5 with e|e|e|e|e|e<;>rcases s3 with e2|e2|e2|e2<;>first
       | (exfalso;omega)
       | (have em:=hme (by omega);simp[e,e2,em,R,Mm,aa,hw64,wh,Trip.e,eI,hwp',hw0,nR,nQ,nP,wh,cz,cy];done)
       | (simp[e,e2,R,Mm,aa,hw64,wh,Trip.e,eI,hwp',hw0,nR,nQ,nP,wh,cz,cy];done)
     ·have e2:y.s=0:=by omega
      have hwp':¬ (wn>0):=hwp
      rcases st5 with e|e|e|e|e|e<;>first
       | (exfalso;omega)
       | (simp[e,e2,R,Mm,aa,hw64,wh,Trip.e,eI,hwp',nR,nQ,nP,wh,cz,cy];done)
   ·have h:¬ (((bW w ((i+1:Nat):Int)).length:Int)<((bW w ((i+1:Nat):Int)).length:Nat)):=by omega
    simp (disch:=first|assumption|omega|(simp only[zL];omega)) only[wL,h,if_false,al,Int.reduceEq,reduceIte,zU,zT,aa]
  unfold wN
  have hd:decide (((i+1:Nat):Int)<=6)=true:=decide_eq_true hi'
  have hd3:decide ((((bW w ((i+1:Nat):Int)).length:Nat):Int)=3)=true:=decide_eq_true hh3'
  simp only[aa,C.toInt_int,hd,aD]
  rw[hho]
  simp only[Ac,aa,C.toList_list,List.length_map,cz,hd3,Bool.not_true,aB]
  by_cases hlt:((i+1:Nat):Int)<=((aj w.dk.lg true).length:Nat)
  ·simp (disch:=first|assumption|omega|(simp only[zL];omega)) only[hlt,decide_true,aD,aE,qg ht1 hlt,Trip.e,aa,C.toInt_int,ba]
   simp only[a8,hi',if_true]
   exact inner _ rfl
  ·simp only[hlt,decide_false,aB,ba,aa,C.toInt_int]
   simp only[a8,hi',if_true]
   refine inner _ ?_
   rw[zj (by omega)]
 ·simp (disch:=first|assumption|omega|(simp only[zL];omega)) only[wN,Int.reduceEq,reduceIte,zU,zT,aa]
  try rfl
end
end Dx
namespace Dx
open Go
section
variable {code more:List Int}
end
end Dx
