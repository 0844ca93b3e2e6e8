import Derived.Test.YtmjkolpalcpgfaaGreatZa
set_option linter.all false
namespace Dx
open Go
theorem uI{α:Type}[DecidableEq α]{F:List C->Option Out}{a b:List α}(hl:a.length=b.length)
  (hs:∀(i:Nat) (x y:α),a[i]?=some x->b[i]?=some y->F [.int .i64 (i:Nat)]=if x=y then some (.jump [.int .i64 ((i+1:Nat):Int)]) else some (.up (.ret [.bool false])))
  (hf:F [.int .i64 ((a.length:Nat):Int)]=some (.up (.ret [.bool true]))):aJ F [.int .i64 0]=some (.ret [.bool (decide (a=b))]):=by
 have key:=ar (l:=a) (F:=F) (enc:=fun i (_:Unit)=>[.int .i64 i]) (res:=fun xs i _=>.ret [.bool (decide (xs=b.drop i))]) (fun _ _=>True) (s:=()) trivial ?_ ?_
 ·have key:aJ _ [C.int .i64 0]=_:=key
  rw[key];rfl
 ·intro i x xs _ hx _
  have hi:=(List.getElem?_eq_some_iff.1 hx).1
  have hb:i<b.length:=by omega
  have hy:b[i]?=some b[i]:=by simp[hb]
  have:=hs i x b[i] hx hy
  have hdr:=List.drop_eq_getElem_cons hb
  by_cases e:x=b[i]
  ·rw[if_pos e]at this
   exact .inl ⟨(),this,trivial,by simp only[hdr,List.cons.injEq,e,true_and,false_and,decide_false]⟩
  ·rw[if_neg e]at this
   exact .inr ⟨_,this,by simp only[hdr,List.cons.injEq,e,true_and,false_and,decide_false]⟩
 ·intro _ _
  rw[hf,List.drop_of_length_le (by omega)]
  simp
theorem cp(a b:Int):(a==b)=decide (a=b):=by by_cases h:a=b<;>simp[h]
theorem cr(a b:Int):(a != b)=!decide (a=b):=by by_cases h:a=b<;>simp[h]
section
variable {a b:List Int} {up up':Bool} {rs rs':List Rec} {f f':Int} {td td':List Word} {k k' t t' id id' room room' h m:Int} {hs hs':List House} {ns ns':List Word}
theorem JS(ha:a.length<=1099511627776):xV [.list (a.map eI),.list (b.map eI)]=some [.bool (decide (a=b))]:=by
 rw[q_gi];unfold F_gi
 simp only[List.length_map]
 by_cases hl:a.length=b.length
 ·have e:(((a.length:Nat):Int) != ((b.length:Nat):Int))=false:=by simp[hl]
  simp only[e,ay]
  rw[uI hl]
  ·rfl
  ·intro i x y hx hy
   have hi:=(List.getElem?_eq_some_iff.1 hx).1
   have hi':(i:Int)<(a.length:Nat):=by omega
   simp (disch:=first|assumption|omega|(simp only[zL];omega)) only[zO,ig hx,ig hy,eI,al,hi',if_true,Int.reduceEq,reduceIte,zU,zT,aa]
   try (by_cases e:x=y<;>simp[e])
  ·have h:¬ ((a.length:Int)<(a.length:Nat)):=by omega
   simp (disch:=first|assumption|omega|(simp only[zL];omega)) only[zO,h,if_false,Int.reduceEq,reduceIte,zU,zT,aa]
 ·have e:(((a.length:Nat):Int) != ((b.length:Nat):Int))=true:=by simp;omega
  have:a≠b:=fun h=>hl (by rw[h])
  simp[e,this]
theorem n_Rec{r r':Rec}(hr:r.m.length<=1099511627776):xW [.int .i64 r.k,.int .i64 r.t,.list (r.m.map eI),.int .i64 r'.k,.int .i64 r'.t,.list (r'.m.map eI)]=some [.bool (decide (r=r'))]:=by
 rw[q_gs]
 obtain⟨k,t,m⟩:=r
 obtain⟨k',t',m'⟩:=r'
 simp (disch:=first|assumption|omega|(simp only[zL];omega)) only[F_gs,JS,Int.reduceEq,reduceIte,zU,zT,aa]
 by_cases e1:k=k'<;>by_cases e2:t=t'<;>simp[e1,e2]
theorem JT(hr:rs.length<=1099511627776)(hm:∀ r∈rs,r.m.length<=1099511627776):xX [.list (rs.map Rec.e),.list (rs'.map Rec.e)]=some [.bool (decide (rs=rs'))]:=by
 rw[q_ft];unfold F_ft
 simp only[List.length_map]
 by_cases hl:rs.length=rs'.length
 ·have e:(((rs.length:Nat):Int) != ((rs'.length:Nat):Int))=false:=by simp[hl]
  simp only[e,ay]
  rw[uI hl]
  ·rfl
  ·intro i x y hx hy
   have hi:=(List.getElem?_eq_some_iff.1 hx).1
   have hi':(i:Int)<(rs.length:Nat):=by omega
   have hxm:=hm x (List.mem_of_getElem? hx)
   simp (disch:=first|assumption|omega|(simp only[zL];omega)) only[zP,kZ hx,kZ hy,Rec.e,al,hi',if_true,n_Rec,Int.reduceEq,reduceIte,zU,zT,aa]
   try (by_cases e:x=y<;>simp[e])
  ·have h:¬ ((rs.length:Int)<(rs.length:Nat)):=by omega
   simp (disch:=first|assumption|omega|(simp only[zL];omega)) only[zP,h,if_false,Int.reduceEq,reduceIte,zU,zT,aa]
 ·have e:(((rs.length:Nat):Int) != ((rs'.length:Nat):Int))=true:=by simp;omega
  have:rs≠rs':=fun h=>hl (by rw[h])
  simp[e,this]
theorem IY(hl:LgS ⟨rs,f⟩):rx [.list (rs.map Rec.e),.int .i64 f,.list (rs'.map Rec.e),.int .i64 f']=some [.bool (decide ((⟨rs,f⟩:Log)=⟨rs',f'⟩))]:=by
 rw[q_go]
 have h1:rs.length<=1099511627776:=by have:=hl.1;simp only at this;omega
 have h2:∀ r∈rs,r.m.length<=1099511627776:=hl.2
 simp (disch:=first|assumption|omega|(simp only[zL];omega)) only[F_go,JT h1 h2,Int.reduceEq,reduceIte,zU,zT,aa]
 by_cases e1:f=f'<;>by_cases e2:rs=rs'<;>simp[e1,e2]
theorem AI{x x':House}(hl:LgS x.lg):ry [.int .i64 x.id,.bool x.up,.int .i64 x.room,.list (x.lg.rs.map Rec.e),.int .i64 x.lg.f,.int .i64 x'.id,.bool x'.up,.int .i64 x'.room,.list (x'.lg.rs.map Rec.e),.int .i64 x'.lg.f]=some [.bool (decide (x=x'))]:=by
 rw[q_ey]
 obtain⟨id,up,room,⟨rs,f⟩⟩:=x
 obtain⟨id',up',room',⟨rs',f'⟩⟩:=x'
 have key:decide ((⟨id,up,room,⟨rs,f⟩⟩:House)=⟨id',up',room',⟨rs',f'⟩⟩)=(decide (id=id') && ((up==up') && (decide (room=room') && decide ((⟨rs,f⟩:Log)=⟨rs',f'⟩)))):=by
  rw[Bool.eq_iff_iff];simp
 simp (disch:=first|assumption|omega|(simp only[zL];omega)) only[F_ey,IY hl,key,Int.reduceEq,reduceIte,zT,aa]
 rw[cp id,cp room]
 generalize decide (id=id')=p1
 generalize (up==up')=p2
 generalize decide (room=room')=p3
 generalize decide ((⟨rs,f⟩:Log)=⟨rs',f'⟩)=p4
 cases p1<;>cases p2<;>cases p3<;>rfl
theorem tz(hl:td.length<=1099511627776):kT [.list (td.map Word.e),.list (td'.map Word.e)]=some [.bool (decide (td=td'))]:=by
 rw[q_en];unfold F_en
 simp only[List.length_map]
 by_cases hl':td.length=td'.length
 ·have e:(((td.length:Nat):Int) != ((td'.length:Nat):Int))=false:=by simp[hl']
  simp only[e,ay]
  rw[uI hl']
  ·rfl
  ·intro i x y hx hy
   have hi:=(List.getElem?_eq_some_iff.1 hx).1
   have hi':(i:Int)<(td.length:Nat):=by omega
   have hb:=pw x y
   simp (disch:=first|assumption|omega|(simp only[zL];omega)) only[zQ,js hx,js hy,Word.e,al,hi',if_true,hb,Int.reduceEq,reduceIte,zU,zT,aa]
   try (by_cases e:x=y<;>simp[e])
  ·have h:¬ ((td.length:Int)<(td.length:Nat)):=by omega
   simp (disch:=first|assumption|omega|(simp only[zL];omega)) only[zQ,h,if_false,Int.reduceEq,reduceIte,zU,zT,aa]
 ·have e:(((td.length:Nat):Int) != ((td'.length:Nat):Int))=true:=by simp;omega
  have:td≠td':=fun h=>hl' (by rw[h])
  simp[e,this]
theorem DY(hs:DkS ⟨up,⟨rs,f⟩,td⟩):nL [.bool up,.list (rs.map Rec.e),.int .i64 f,.list (td.map Word.e),.bool up',.list (rs'.map Rec.e),.int .i64 f',.list (td'.map Word.e)]=some [.bool (decide ((⟨up,⟨rs,f⟩,td⟩:Desk)=⟨up',⟨rs',f'⟩,td'⟩))]:=by
 rw[q_fz]
 have h1:LgS ⟨rs,f⟩:=hs.lg
 have h2:td.length<=1099511627776:=by have:=hs.td;simp only at this;omega
 have key:decide ((⟨up,⟨rs,f⟩,td⟩:Desk)=⟨up',⟨rs',f'⟩,td'⟩)=((up==up') && (decide ((⟨rs,f⟩:Log)=⟨rs',f'⟩) && decide (td=td'))):=by
  rw[Bool.eq_iff_iff];simp
 simp (disch:=first|assumption|omega|(simp only[zL];omega)) only[F_fz,IY h1,tz h2,key,Int.reduceEq,reduceIte,zT,aa]
 generalize (up==up')=p1
 generalize decide ((⟨rs,f⟩:Log)=⟨rs',f'⟩)=p2
 generalize decide (td=td')=p3
 cases p1<;>cases p2<;>rfl
theorem oG{w w':Wd}(hd:DkS w.dk)(hh:∀ x∈w.hs,LgS x.lg)(hhl:w.hs.length<=2000000)(hn:w.ns.length<=2000000) :
  cY [.bool w.dk.up,.list (w.dk.lg.rs.map Rec.e),.int .i64 w.dk.lg.f,.list (w.dk.td.map Word.e),.list (w.hs.map House.e),.list (w.ns.map Word.e),.bool w'.dk.up,.list (w'.dk.lg.rs.map Rec.e),.int .i64 w'.dk.lg.f,.list (w'.dk.td.map Word.e),.list (w'.hs.map House.e),.list (w'.ns.map Word.e)]=some [.bool (decide (w=w'))]:=by
 rw[q_fp]
 obtain⟨⟨up,⟨rs,f⟩,td⟩,hs,ns⟩:=w
 obtain⟨⟨up',⟨rs',f'⟩,td'⟩,hs',ns'⟩:=w'
 simp only at hh hhl hn hd
 simp (disch:=first|assumption|omega|(simp only[zL];omega)) only[F_fp,DY hd,tz,Int.reduceEq,reduceIte,zU,zT,aa]
 by_cases e1:(⟨up,⟨rs,f⟩,td⟩:Desk)=⟨up',⟨rs',f'⟩,td'⟩
 case neg=>simp[e1]
 by_cases e2:ns=ns'
 case neg=>simp[e2]
 simp only[e1,e2,decide_true,aB]
 by_cases hl:hs.length=hs'.length
 ·have e:(((hs.length:Nat):Int) != ((hs'.length:Nat):Int))=false:=by simp[hl]
  have e':((hs.length:Nat):Int)=((hs'.length:Nat):Int):=by omega
  simp only[e',if_true]
  rw[uI (a:=hs) (b:=hs') hl]
  ·simp
  ·intro i x y hx hy
   have hi:=(List.getElem?_eq_some_iff.1 hx).1
   have hi':(i:Int)<(hs.length:Nat):=by omega
   have hxm:=hh x (List.mem_of_getElem? hx)
   simp (disch:=first|assumption|omega|(simp only[zL];omega)) only[zR,fB hx,fB hy,House.e,al,hi',if_true,AI hxm,Int.reduceEq,reduceIte,zU,zT,aa]
   try (by_cases e:x=y<;>simp[e])
  ·have h:¬ ((hs.length:Int)<(hs.length:Nat)):=by omega
   simp (disch:=first|assumption|omega|(simp only[zL];omega)) only[zR,h,if_false,Int.reduceEq,reduceIte,zU,zT,aa]
 ·have e':¬ ((hs.length:Nat):Int)=((hs'.length:Nat):Int):=by omega
  have:hs≠hs':=fun h=>hl (by rw[h])
  simp[e',this]
theorem WOk.n{w w':Wd}(ho:WOk w) :
  cY [.bool w.dk.up,.list (w.dk.lg.rs.map Rec.e),.int .i64 w.dk.lg.f,.list (w.dk.td.map Word.e),.list (w.hs.map House.e),.list (w.ns.map Word.e),.bool w'.dk.up,.list (w'.dk.lg.rs.map Rec.e),.int .i64 w'.dk.lg.f,.list (w'.dk.td.map Word.e),.list (w'.hs.map House.e),.list (w'.ns.map Word.e)]=some [.bool (decide (w=w'))] :=
 oG ho.dk.S (fun x hx=>by
  obtain⟨i,hi⟩:=List.mem_iff_getElem?.1 hx
  exact(ho.hs i x hi).1.lg.S) (by rw[ho.len];omega) (by have:=ho.nlen;omega)
end
end Dx
namespace Dx
open Go
def fQ(code:List Int):Prop:=∀ b∈code,0<=b/\b<=255
def cA(code:List Int)(rooms:List Int)(es:List Ev)(w:Wd):List C :=
 [.list (code.map eB),.int .i64 code.length,.bool false,.list (rooms.map eI),.list (es.map Ev.e),
  .bool w.dk.up,.list (w.dk.lg.rs.map Rec.e),.int .i64 w.dk.lg.f,.list (w.dk.td.map Word.e),.list (w.hs.map House.e),.list (w.ns.map Word.e),.bool true,
  .bool w.dk.up,.list (w.dk.lg.rs.map Rec.e),.int .i64 w.dk.lg.f,.list (w.dk.td.map Word.e),.list (w.hs.map House.e),.list (w.ns.map Word.e),.bool true,.bool false,.bool true,.bool false,.bool false]
theorem aq(Φ:Phi)(p:Prim)(args:List Cell)(t:Tree)(env:List C):den Φ (.letp p args t) env=den Φ t (env++[p.den (ax env args)]):=by rw[den]
theorem aE(Φ:Phi)(a:At)(t e:Tree)(env:List C):den Φ (.ite a t e) env=ae (a.den env).toBool (den Φ t env) (den Φ e env):=by rw[den]
theorem aK(Φ:Phi)(xs:List Cell)(env:List C):den Φ (.ret xs) env=some (.ret (ax env xs)):=by rw[den]
theorem ev{Φ:Phi}{t:Tree}{code:List Int}(h0:Φ 0=gZ)(h1:Φ 1=g0)(h2:Φ 2=hD)(h3:Φ 3=cY)
  (hl:code.length<=1099511627776) (hc:fQ code)
  (ht:∀(rooms:List Int) (es:List Ev) (w:Wd),bM rooms es=some w->rooms.length<=4->es.length<=81->(∀ e∈es,EvS e)->ah (den Φ t (cA code rooms es w))=some [.bool true]) :
  ah (den Φ (fK t) [.list (code.map eB)])=some [.bool true]:=by
 obtain⟨rooms,es,hd,hr,hel,hes⟩:=il hl hc
 have p1:=mj (rooms:=rooms) (es:=es) (by omega) (by omega) hes
 have p2:=mf (rooms:=rooms) (es:=es) (by omega) (by omega) hes
 have hself:=oG (w:=wd0) (w':=wd0) ⟨⟨by simp[wd0],by simp[wd0]⟩,by simp[wd0]⟩ (by simp[wd0]) (by simp[wd0]) (by simp[wd0])
 unfold fK
 rw[aq,aq,aE]
 simp only[ax,Cell.den,At.den,Prim.den,List.cons_append,List.nil_append,aa,C.toInt_int,C.toList_list,C.toBool_bool,List.length_map]
 by_cases hbig:((code.length:Nat):Int)>1048576
 ·simp only[hbig,decide_true,aB,aK,ax,Cell.den,At.den,C.toBool_bool];rfl
 simp only[hbig,decide_false,ay]
 rw[ap,h0]
 simp only[ax,Cell.den,At.den,aa,C.toList_list,hd]
 rw[ba rfl,ap,h1]
 simp only[ax,Cell.den,At.den,List.cons_append,List.nil_append,aa,C.toList_list,p1]
 cases hw:bM rooms es with
 | none =>
  rw[hw]at p2
  simp only[Option.getD_none,Option.isSome_none,Wd.e,List.cons_append,List.nil_append]at p2 ⊢
  rw[ba rfl,ap,h2]
  simp only[ax,Cell.den,At.den,List.cons_append,List.nil_append,aa,C.toList_list,p2]
  rw[ba rfl]
  simp only[aq,aE,ap,h3,ax,Cell.den,At.den,Prim.den,List.cons_append,List.nil_append,aa,C.toInt_int,C.toList_list,C.toBool_bool,hself]
  simp only[BEq.rfl,Bool.not_true,ay,decide_true,nt,aa,C.toBool_bool,Bool.not_false,aB,List.cons_append,List.nil_append,aq,aE,ap,aK,ax,Cell.den,At.den,Prim.den,h3,hself]
  rfl
 | some w =>
  have ow:WOk w:=by
   unfold bM at hw
   split at hw
   ·cases hw
   ·simp only[Option.map_eq_some_iff]at hw
    obtain⟨w0,hw0,rfl⟩:=hw
    exact(bN hw0).plays es
  have hn:=ow.n (w':=w)
  have key:=ht rooms es w hw hr hel hes
  rw[hw]at p2
  simp only[Option.getD_some,Option.isSome_some,Wd.e,List.cons_append,List.nil_append]at p2 ⊢
  rw[ba rfl,ap,h2]
  simp only[ax,Cell.den,At.den,List.cons_append,List.nil_append,aa,C.toList_list,p2]
  rw[ba rfl]
  simp only[aq,aE,ap,h3,ax,Cell.den,At.den,Prim.den,List.cons_append,List.nil_append,aa,C.toInt_int,C.toList_list,C.toBool_bool,hn]
  simp only[BEq.rfl,Bool.not_true,ay,decide_true,nt,aa,C.toBool_bool,Bool.not_false,aB,List.cons_append,List.nil_append,aq,aE,ap,aK,ax,Cell.den,At.den,Prim.den]
  exact key
def bp(code more:List Int)(rooms:List Int)(es:List Ev)(w:Wd):List C :=
 [.list (code.map eB),.list (more.map eB),.int .i64 code.length,.bool false,.int .i64 more.length,.bool false,.list (rooms.map eI),.list (es.map Ev.e),
  .bool w.dk.up,.list (w.dk.lg.rs.map Rec.e),.int .i64 w.dk.lg.f,.list (w.dk.td.map Word.e),.list (w.hs.map House.e),.list (w.ns.map Word.e),.bool true,
  .bool w.dk.up,.list (w.dk.lg.rs.map Rec.e),.int .i64 w.dk.lg.f,.list (w.dk.td.map Word.e),.list (w.hs.map House.e),.list (w.ns.map Word.e),.bool true,.bool false,.bool true,.bool false,.bool false]
theorem da{Φ:Phi}{t:Tree}{code more:List Int}(h0:Φ 0=gZ)(h1:Φ 1=g0)(h2:Φ 2=hD)(h3:Φ 3=cY)
  (hl:code.length<=1099511627776) (hc:fQ code)
  (ht:∀(rooms:List Int) (es:List Ev) (w:Wd),more.length<=1048576->bM rooms es=some w->rooms.length<=4->es.length<=81->(∀ e∈es,EvS e)->ah (den Φ t (bp code more rooms es w))=some [.bool true]) :
  ah (den Φ (dN t) [.list (code.map eB),.list (more.map eB)])=some [.bool true]:=by
 obtain⟨rooms,es,hd,hr,hel,hes⟩:=il hl hc
 have p1:=mj (rooms:=rooms) (es:=es) (by omega) (by omega) hes
 have p2:=mf (rooms:=rooms) (es:=es) (by omega) (by omega) hes
 have hself:=oG (w:=wd0) (w':=wd0) ⟨⟨by simp[wd0],by simp[wd0]⟩,by simp[wd0]⟩ (by simp[wd0]) (by simp[wd0]) (by simp[wd0])
 unfold dN
 rw[aq,aq,aE]
 simp only[ax,Cell.den,At.den,Prim.den,List.cons_append,List.nil_append,aa,C.toInt_int,C.toList_list,C.toBool_bool,List.length_map]
 by_cases hbig:((code.length:Nat):Int)>1048576
 ·simp only[hbig,decide_true,aB,aK,ax,Cell.den,At.den,C.toBool_bool];rfl
 simp only[hbig,decide_false,ay]
 rw[aq,aq,aE]
 simp only[ax,Cell.den,At.den,Prim.den,List.cons_append,List.nil_append,aa,C.toInt_int,C.toList_list,C.toBool_bool,List.length_map]
 by_cases hbig2:((more.length:Nat):Int)>1048576
 ·simp only[hbig2,decide_true,aB,aK,ax,Cell.den,At.den,C.toBool_bool];rfl
 simp only[hbig2,decide_false,ay]
 rw[ap,h0]
 simp only[ax,Cell.den,At.den,aa,C.toList_list,hd]
 rw[ba rfl,ap,h1]
 simp only[ax,Cell.den,At.den,List.cons_append,List.nil_append,aa,C.toList_list,p1]
 cases hw:bM rooms es with
 | none =>
  rw[hw]at p2
  simp only[Option.getD_none,Option.isSome_none,Wd.e,List.cons_append,List.nil_append]at p2 ⊢
  rw[ba rfl,ap,h2]
  simp only[ax,Cell.den,At.den,List.cons_append,List.nil_append,aa,C.toList_list,p2]
  rw[ba rfl]
  simp only[aq,aE,ap,h3,ax,Cell.den,At.den,Prim.den,List.cons_append,List.nil_append,aa,C.toInt_int,C.toList_list,C.toBool_bool,hself]
  simp only[BEq.rfl,Bool.not_true,ay,decide_true,nt,aa,C.toBool_bool,Bool.not_false,aB,List.cons_append,List.nil_append,aq,aE,ap,aK,ax,Cell.den,At.den,Prim.den,h3,hself]
  rfl
 | some w =>
  have ow:WOk w:=by
   unfold bM at hw
   split at hw
   ·cases hw
   ·simp only[Option.map_eq_some_iff]at hw
    obtain⟨w0,hw0,rfl⟩:=hw
    exact(bN hw0).plays es
  have hn:=ow.n (w':=w)
  have key:=ht rooms es w (by omega) hw hr hel hes
  rw[hw]at p2
  simp only[Option.getD_some,Option.isSome_some,Wd.e,List.cons_append,List.nil_append]at p2 ⊢
  rw[ba rfl,ap,h2]
  simp only[ax,Cell.den,At.den,List.cons_append,List.nil_append,aa,C.toList_list,p2]
  rw[ba rfl]
  simp only[aq,aE,ap,h3,ax,Cell.den,At.den,Prim.den,List.cons_append,List.nil_append,aa,C.toInt_int,C.toList_list,C.toBool_bool,hn]
  simp only[BEq.rfl,Bool.not_true,ay,decide_true,nt,aa,C.toBool_bool,Bool.not_false,aB,List.cons_append,List.nil_append,aq,aE,ap,aK,ax,Cell.den,At.den,Prim.den]
  exact key
end Dx
namespace Dx
open Go
theorem cD(Φ:Phi)(init:List Cell)(body:Tree)(env:List C):den Φ (.iter init body) env=aJ (fun ps=>den Φ body (env++bU ps 0 (aR init))) (ax env init):=by rw[den]
theorem aO(Φ:Phi)(l i:At)(ks:List CK)(t:Tree)(env:List C):den Φ (.row l i ks t) env=aI (l.den env) (i.den env) ks fun r=>den Φ t (env++r):=by rw[den]
theorem aS(Φ:Phi)(t:Tree)(env:List C):den Φ (.up t) env=upD (den Φ t env):=by rw[den]
theorem aC(Φ:Phi)(xs:List Cell)(env:List C):den Φ (.jump xs) env=some (.jump (ax env xs)):=by rw[den]
theorem aN(Φ:Phi)(p:Prim)(args:List Cell)(t:Tree)(env:List C):den Φ (.chk p args t) env=af (p.den (ax env args)).toBool (den Φ t env):=by rw[den]
theorem aD(Φ:Phi)(ks:List CK)(body k:Tree)(env:List C):den Φ (.join ks body k) env=bw (den Φ body env) fun ps=>den Φ k (env++bU ps 0 ks):=by rw[den]
theorem fR{α:Type}{F:List C->Option Out}{l:List α}{o:Out}(hs:∀(i:Nat) (x:α),l[i]?=some x->F [.int .i64 (i:Nat)]=some (.jump [.int .i64 ((i+1:Nat):Int)]))
  (hf:F [.int .i64 ((l.length:Nat):Int)]=some (.up o)):aJ F [.int .i64 0]=some o :=
 ar (l:=l) (F:=F) (enc:=fun i (_:Unit)=>[.int .i64 i]) (res:=fun _ _ _=>o) (fun _ _=>True) (s:=()) trivial (fun i x _ _ hx _=>.inl ⟨(),hs i x hx,trivial,rfl⟩) (fun _ _=>hf)
section
variable {code:List Int}
end
end Dx
namespace Dx
open Go
section
variable {code:List Int}
end
end Dx
namespace Dx
open Go
theorem qm{α σ:Type}{F:List C->Option Out}{l:List α}{o:Out}{enc:Nat->σ->List C}{P:Nat->σ->Prop}{s0:σ}(h0:P 0 s0)
  (hs:∀(i:Nat) (x:α) (s:σ),l[i]?=some x->P i s->∃ s',F (enc i s)=some (.jump (enc (i+1) s'))/\P (i+1) s') (hf:∀ s,P l.length s->F (enc l.length s)=some (.up o)):aJ F (enc 0 s0)=some o :=
 ar (l:=l) (F:=F) (enc:=enc) (res:=fun _ _ _=>o) P h0 (fun i x _ s hx h=>by
  obtain⟨s',h1,h2⟩:=hs i x s hx h
  exact .inl ⟨s',h1,h2,rfl⟩) hf
section
variable {code:List Int}
end
end Dx
namespace Dx
open Go
section
variable {room:Int} {hs:List Hold} {k h t m:Int} {ns:List Word} {w:Wd}
theorem iY(ho:StOk ⟨room,hs⟩):mP [.int .i64 room,.list (hs.map Hold.e)]=some [.int .i64 (free ⟨room,hs⟩)]:=by
 rw[q_de]
 have hl:hs.length=6:=ho.len
 have hf:=z3 (room:=room) (hs:=hs) ho.room ho.hold (by omega)
 simp (disch:=first|assumption|omega|(simp only[zL];omega)) only[F_de,sa ho,hf,Int.reduceEq,reduceIte,zU,zT,aa]
theorem se(hL:ns.length<=1000):xG [.list (ns.map Word.e)]=some [.bool (ns.any fun x=>!bG x)]:=by
 have h1:∀ x:Word,xE [.int .i64 x.k,.int .i64 x.h,.int .i64 x.t,.int .i64 x.m]=some [.bool (!bG x)]:=fun x=>by
  rw[q_cv];simp (disch:=first|assumption|omega|(simp only[zL];omega)) only[F_cv,lh,Int.reduceEq,reduceIte,zU,zT,aa]
 have hi:xF [.list (ns.map Word.e)]=some [.int .i64 (nu (fun x=>!bG x) 0 ns)]:=by
  rw[q_ah];unfold F_ah
  simp only[List.length_map]
  rw[iv (l:=ns) (fun x=>!bG x)]
  ·rfl
  ·intro i x hx
   have hi:=(List.getElem?_eq_some_iff.1 hx).1
   have hi':(i:Int)<(ns.length:Nat):=by omega
   simp (disch:=first|assumption|omega|(simp only[zL];omega)) only[zB,js hx,Word.e,h1,al,hi',if_true,Int.reduceEq,reduceIte,zT,aa]
   cases bG x<;>simp[hi']
  ·have h:¬ ((ns.length:Int)<(ns.length:Nat)):=by omega
   simp (disch:=first|assumption|omega|(simp only[zL];omega)) only[zB,h,if_false,Int.reduceEq,reduceIte,zU,zT,aa]
 rw[q_ac]
 simp (disch:=first|assumption|omega|(simp only[zL];omega)) only[F_ac,hi,eV,Bool.decide_eq_true,Int.reduceEq,reduceIte,zU,zT,aa]
theorem WOk.cells(ho:WOk w){i:Nat}{x:House}(hx:w.hs[i]?=some x):LgOk ⟨x.lg.rs,x.lg.f⟩/\cN ⟨x.id,x.up,x.room,⟨x.lg.rs,x.lg.f⟩⟩=true/\x.id=((i+1:Nat):Int) :=
 ⟨(ho.hs i x hx).1.lg,houseOk_iff.2 (ho.hs i x hx).1,by have:=(ho.hs i x hx).2;omega⟩
theorem jt(ho:WOk w):jh [.bool w.dk.up,.list (w.dk.lg.rs.map Rec.e),.int .i64 w.dk.lg.f,.list (w.dk.td.map Word.e),.list (w.hs.map House.e),.list (w.ns.map Word.e)]=some [.bool true]:=by
 rw[q_eh]
 have hdS:DkS ⟨w.dk.up,⟨w.dk.lg.rs,w.dk.lg.f⟩,w.dk.td⟩:=ho.dk.S
 have hdo:bH ⟨w.dk.up,⟨w.dk.lg.rs,w.dk.lg.f⟩,w.dk.td⟩=true:=deskOk_iff.2 ho.dk
 have h3:=ho.len
 have hn:=ho.nlen
 have h3':((w.hs.length:Nat):Int)=3:=by omega
 have hn':¬ (((w.ns.length:Nat):Int)>14):=by omega
 have hw:(w.ns.any fun x=>!bG x)=false:=by
  rw[List.any_eq_false]
  intro x hx
  rw[wordOk_iff.2 (ho.ns x hx)];simp
 simp (disch:=first|assumption|omega|(simp only[zL];omega)) only[F_eh,cL,hdo,h3',hn',if_true,if_false,Int.reduceEq,reduceIte,zU,zT,aa]
 rw[fR (l:=w.hs) (o:=.ret [.bool true])]
 ·rfl
 ·intro i x hx
  have hi:=(List.getElem?_eq_some_iff.1 hx).1
  have hi':(i:Int)<3:=by omega
  obtain⟨c1,c2,c3⟩:=ho.cells hx
  have c2':cN ⟨((i+1:Nat):Int),x.up,x.room,x.lg⟩=true:=by rw[<-c3];exact c2
  simp (disch:=first|assumption|omega|(simp only[zL];omega)) only[m7,fB hx,House.e,dP c1.S,c2',c3,al,hi',if_true,Int.reduceEq,reduceIte,zU,zT,aa]
 ·have h:¬ ((3:Int)<3):=by omega
  simp (disch:=first|assumption|omega|(simp only[zL];omega)) only[m7,h3',if_false,se,hw,Int.lt_irrefl,Int.reduceEq,reduceIte,zU,zT,aa]
  try rfl
theorem jC(ho:WOk w):re [.bool w.dk.up,.list (w.dk.lg.rs.map Rec.e),.int .i64 w.dk.lg.f,.list (w.dk.td.map Word.e),.list (w.hs.map House.e),.list (w.ns.map Word.e)]=some w.e:=by
 rw[q_be]
 have hdS:DkS ⟨w.dk.up,⟨w.dk.lg.rs,w.dk.lg.f⟩,w.dk.td⟩:=ho.dk.S
 have h3:=ho.len
 have hn:=ho.nlen
 simp (disch:=first|assumption|omega|(simp only[zL];omega)) only[F_be,dW hdS,Desk.e,vY,DL,Int.reduceEq,reduceIte,zU,zT,aa]
 refine Eq.trans (congrArg ah (ar (l:=w.hs) (enc:=fun i (s:List House)=>[.int .i64 i,.list (s.map House.e)])
  (res:=fun xs _ s=>.ret [.bool w.dk.up,.list (w.dk.lg.rs.map Rec.e),.int .i64 w.dk.lg.f,.list (w.dk.td.map Word.e),.list ((s++xs).map House.e),.list (w.ns.map Word.e)]) (fun i s=>s.length=i) (s:=[]) rfl ?_ ?_)) rfl
 ·intro i x xs s hx hs
  have hi:=(List.getElem?_eq_some_iff.1 hx).1
  have hi':(i:Int)<(w.hs.length:Nat):=by omega
  obtain⟨c1,c2,c3⟩:=ho.cells hx
  have hc:s.length+1<=1099511627776:=by omega
  simp (disch:=first|assumption|omega|(simp only[zL];omega)) only[zC,fB hx,House.e,eu c1.S,al,hi',hc,if_true,Int.reduceEq,reduceIte,zU,zT,aa]
  exact .inl ⟨s++[x],by simp[House.e],by simp[hs],by simp⟩
 ·intro s hs
  have h:¬ ((w.hs.length:Int)<(w.hs.length:Nat)):=by omega
  simp (disch:=first|assumption|omega|(simp only[zL];omega)) only[zC,h,if_false,Int.reduceEq,reduceIte,zU,zT,aa]
  simp
theorem bX(ho:WOk w){e:Ev}(hm:e.m.length<=1099511627776) :
  dI [.bool w.dk.up,.list (w.dk.lg.rs.map Rec.e),.int .i64 w.dk.lg.f,.list (w.dk.td.map Word.e),.list (w.hs.map House.e),.list (w.ns.map Word.e),.int .i64 e.k,.int .i64 e.a,.int .i64 e.b,.list (e.m.map eI)]=some (wdo w e).e:=by
 rw[q_fd]
 unfold F_fd
 rw[jt ho]
 simp only[nt,aa,C.toBool_bool,Bool.not_true,ay]
 rw[jC ho]
 simp only[Wd.e,bO,aa,C.toInt_int,C.toList_list,C.toBool_bool]
 rw[IX ho hm]
 simp only[Wd.e,bO,aa,C.toInt_int,C.toList_list,C.toBool_bool]
 rfl
def bK(w:Wd)(t:Int):List Hold:=w.hs.map fun h=>hAt (am h false).hs t
theorem gU(ho:WOk w)(ht:1<=t/\t<=6):mQ [.bool w.dk.up,.list (w.dk.lg.rs.map Rec.e),.int .i64 w.dk.lg.f,.list (w.dk.td.map Word.e),.list (w.hs.map House.e),.list (w.ns.map Word.e),.int .i64 t]=some [.list ((bK w t).map Hold.e)]:=by
 rw[q_ce]
 have h3:=ho.len
 have hit:=in_iff.2 ht
 simp (disch:=first|assumption|omega|(simp only[zL];omega)) only[F_ce,jt ho,lf,hit,Int.reduceEq,reduceIte,zU,zT,aa]
 have key:=ar (l:=w.hs) (F:=fun ps=>uC (w.hs.map House.e) t ((w.hs.length:Nat):Int) ((aa ps 0).toInt) ((aa ps 1).toList)) (enc:=fun i (s:List Hold)=>[.int .i64 i,.list (s.map Hold.e)])
  (res:=fun xs _ s=>.ret [.list ((s++xs.map fun h=>hAt (am h false).hs t).map Hold.e)]) (fun i s=>s.length=i) (s:=[]) rfl ?_ ?_
 ·have key:aJ _ [C.int .i64 0,C.list []]=_:=key
  rw[key];rfl
 ·intro i x xs s hx hs
  have hi:=(List.getElem?_eq_some_iff.1 hx).1
  have hi':(i:Int)<(w.hs.length:Nat):=by omega
  obtain⟨c1,c2,c3⟩:=ho.cells hx
  have hc:s.length+1<=1099511627776:=by omega
  have s6:(am ⟨x.id,x.up,x.room,⟨x.lg.rs,x.lg.f⟩⟩ false).hs.length=6:=((houseOk_iff.1 c2).stOk false).len
  have ht6:t<=((am ⟨x.id,x.up,x.room,⟨x.lg.rs,x.lg.f⟩⟩ false).hs.length:Nat):=by omega
  simp (disch:=first|assumption|omega|(simp only[zL];omega)) only[uC,fB hx,House.e,oE c1,Stock.e,wrap64,DR ht.1 ht6,Hold.e,al,hi',hc,if_true,Int.reduceEq,reduceIte,zU,zT,aa]
  exact .inl ⟨s++[hAt (am x false).hs t],by simp[Hold.e],by simp[hs],by simp⟩
 ·intro s hs
  have h:¬ ((w.hs.length:Int)<(w.hs.length:Nat)):=by omega
  simp (disch:=first|assumption|omega|(simp only[zL];omega)) only[uC,h,if_false,Int.reduceEq,reduceIte,zU,zT,aa]
  simp
end
end Dx
namespace Dx
open Go
section
variable {code:List Int}
end
end Dx
namespace Dx
open Go
section
variable {code more:List Int}
end
end Dx
namespace Dx
open Go
theorem v7{α:Type}{F:List C->Option Out}{l:List α}{o:Out}(hs:∀(i:Nat) (x:α),l[i]?=some x->F [.int .i64 ((i+1:Nat):Int)]=some (.jump [.int .i64 ((i+1+1:Nat):Int)]))
  (hf:F [.int .i64 ((l.length+1:Nat):Int)]=some (.up o)):aJ F [.int .i64 1]=some o :=
 ar (l:=l) (F:=F) (enc:=fun i (_:Unit)=>[.int .i64 ((i+1:Nat):Int)]) (res:=fun _ _ _=>o) (fun _ _=>True) (s:=()) trivial (fun i x _ _ hx _=>.inl ⟨(),hs i x hx,trivial,rfl⟩) (fun _ _=>hf)
theorem IZ{m:List Int}(hm:m.length=3){h:Nat}(hh:h<3){kk:IntKind}{f:List C->Option Out}:aI (.list (m.map eI)) (.int kk (h:Int)) [.int .i64] f=f (eI (mAt m ((h+1:Nat):Int))):=by
 refine ig ?_
 have e:(((h+1:Nat):Int)-1).toNat=h:=by omega
 rw[mAt,e,List.getElem?_eq_getElem (by omega)];rfl
theorem pE{w:Wd}(ow:WOk w){h:Nat}(hh:h<3)(t:Int):(bK w t)[h]?=some ((vw w).hA ((h+1:Nat):Int) t):=by
 have e:(((h+1:Nat):Int)-1).toNat=h:=by omega
 have hl:h<w.hs.length:=by rw[ow.len];exact hh
 unfold bK
 rw[List.getElem?_map,List.getElem?_eq_getElem hl]
 show some _=some (hAt (am (houseAt w ((h+1:Nat):Int)) false).hs t)
 unfold houseAt
 rw[e,List.getElem?_eq_getElem hl];rfl
section
variable {code:List Int}
end
end Dx
namespace Dx
open Go
section
variable {code more:List Int}
end
end Dx
namespace Dx
open Go
section
variable {w:Wd}
theorem Cn(ow:WOk w)(I:Inv (vw w)):mR [.bool w.dk.up,.list (w.dk.lg.rs.map Rec.e),.int .i64 w.dk.lg.f,.list (w.dk.td.map Word.e),.list (w.hs.map House.e),.list (w.ns.map Word.e)]=some [.bool true]:=by
 rw[q_gq]
 have s0:DkS ⟨w.dk.up,⟨w.dk.lg.rs,w.dk.lg.f⟩,w.dk.td⟩:=ow.dk.S
 have k0:bH ⟨w.dk.up,⟨w.dk.lg.rs,w.dk.lg.f⟩,w.dk.td⟩=true:=deskOk_iff.2 ow.dk
 have dT:=bi s0 (b:=true)
 rw[k0,if_pos rfl]at dT
 have tr:TrOk (ai w.dk.lg true):=ow.dk.trOk true
 have tr6:=tr.len
 have hsF:∀ t,(vw w).sF t=(tAt (ai w.dk.lg true) t).s:=fun _=>rfl
 have hwt:∀ t h,(vw w).want t h=mAt (tAt (ai w.dk.lg true) t).m h:=fun _ _=>rfl
 unfold F_gq
 have dT':dH [.bool w.dk.up,.list (w.dk.lg.rs.map Rec.e),.int .i64 w.dk.lg.f,.list (w.dk.td.map Word.e),.bool true]=some [.list ((ai w.dk.lg true).map Trip.e)]:=dT
 rw[dT']
 simp only[AB,aa,C.toList_list]
 rw[v7 (l:=List.range 6) (o:=.ret [.bool true])]
 ·rfl
 ·intro i x hx
  have hi:i<6:=by simpa using(List.getElem?_eq_some_iff.1 hx).1
  have hi':((i+1:Nat):Int)<=6:=by omega
  have ht1:(1:Int)<=((i+1:Nat):Int):=by omega
  have ht:isT ((i+1:Nat):Int):=⟨by omega,by omega⟩
  have hho:=gU ow (t:=((i+1:Nat):Int)) ht
  have hh3:(bK w ((i+1:Nat):Int)).length=3:=by unfold bK;rw[List.length_map,ow.len]
  have hh3':(((bK w ((i+1:Nat):Int)).length:Nat):Int)=3:=by omega
  have inner:∀ st:Int,st=(tAt (ai w.dk.lg true) ((i+1:Nat):Int)).s ->
    zX ((ai w.dk.lg true).map Trip.e) ((i+1:Nat):Int) ((bK w ((i+1:Nat):Int)).map Hold.e) st=some (.jump [.int .i64 ((i+1+1:Nat):Int)]):=by
   intro st hst
   unfold zX
   rw[fR (l:=bK w ((i+1:Nat):Int)) (o:=.jump [.int .i64 ((i+1+1:Nat):Int)])]
   ·intro h y hy
    have hh:=(List.getElem?_eq_some_iff.1 hy).1
    have hh':(h:Int)<((bK w ((i+1:Nat):Int)).length:Nat):=by omega
    have hlt:h<3:=by omega
    have hyA:y=(vw w).hA ((h+1:Nat):Int) ((i+1:Nat):Int):=by
     have:=pE ow hlt ((i+1:Nat):Int)
     rw[hy]at this
     simpa using this
    have hH:isH ((h+1:Nat):Int):=⟨by omega,by omega⟩
    have f:=fun hs=>I.hold ((h+1:Nat):Int) ((i+1:Nat):Int) hH ht hs
    have hle:=I.hle ((h+1:Nat):Int) ((i+1:Nat):Int) hH ht
    have hok:=kV (I.okA ((h+1:Nat):Int) ((i+1:Nat):Int) hH ht)
    have tf:=I.trip ((i+1:Nat):Int) ht
    have hkept:=fun h4=>tf.kept h4 ((h+1:Nat):Int) hH
    have hleft:=fun h5=>(tf.left h5).2 ((h+1:Nat):Int) hH
    have hFA:=fun h0=>I.toBase.FA_s ht.1 h0
    have hrng:=fun h0=>I.toBase.F_rng ht.1 h0
    rw[<-hyA]at f hle hok
    have hw64:IntKind.wrap .i64 (((i+1:Nat):Int)-1)=((i+1:Nat):Int)-1:=wrap64 (by omega) (by omega)
    have hlen:st≠0->((i+1:Nat):Int)<=((ai w.dk.lg true).length:Nat):=fun h0=>by
     have:=cf (l:=ai w.dk.lg true) (t:=((i+1:Nat):Int)) (by rw[<-hst];exact h0)
     omega
    have hm3:st≠0->(tAt (ai w.dk.lg true) ((i+1:Nat):Int)).m.length=3:=fun h0=>by
     have:=cf (l:=ai w.dk.lg true) (t:=((i+1:Nat):Int)) (by rw[<-hst];exact h0)
     exact bt (tripOk_iff.1 (tr.ok _ (eT this))).1
    rw[hsF,<-hst]at hFA hrng
    generalize hwn:mAt (tAt (ai w.dk.lg true) ((i+1:Nat):Int)).m ((h+1:Nat):Int)=wn
    have fs:y.s≠0->st≠0/\0<wn/\(y.s≠3->y.m=wn)/\(y.s=2->st=2\/st=4)/\(y.s=3->st=3\/st=5):=fun h0=>by
     have g:=f h0
     have g1:=g.s;have g2:=g.w;have g3:=g.m;have g4:=g.c;have g5:=g.u
     rw[<-hyA]at g3 g4 g5
     rw[hsF,<-hst]at g1 g4 g5
     rw[hwt,hwn]at g2 g3
     exact⟨g1,g2,g3,g4,g5⟩
    have k4:st=4->0<wn->y.s=2:=fun h4 hw0=>by
     have a:=hFA (by omega)
     have:=hkept (by omega) (by rw[hwt,hwn];exact hw0)
     unfold Dx.hle at hle;omega
    have k5:st=5->0<wn->y.s=3:=fun h5 hw0=>by
     have a:=hFA (by omega)
     have:=hleft (by omega) (by rw[hwt,hwn];exact hw0)
     unfold Dx.hle at hle;omega
    have rr:∀ {f:List C->Option Out},st≠0->aI (.list ((ai w.dk.lg true).map Trip.e)) (.int .i64 (((i+1:Nat):Int)-1)) [.list,.int .i64] f=f (tAt (ai w.dk.lg true) ((i+1:Nat):Int)).e:=fun h0=>og ht1 (hlen h0)
    have rm:∀ {f:List C->Option Out},st≠0->aI (.list ((tAt (ai w.dk.lg true) ((i+1:Nat):Int)).m.map eI)) (.int .i64 (h:Int)) [.int .i64] f=f (eI wn):=fun h0=>by rw[IZ (hm3 h0) hlt,hwn]
    have wh:IntKind.wrap .i64 ((h:Int)+1)=((h+1:Nat):Int):=al (by omega)
    have st6:0<=st/\st<=5:=by
     by_cases h0:st=0
     ·omega
     ·have:=hrng h0;omega
    have s3:y.s=0\/y.s=1\/y.s=2\/y.s=3:=by omega
    have st5:st=0\/st=1\/st=2\/st=3\/st=4\/st=5:=by omega
    clear hst hFA hrng hkept hleft tf f hle
    unfold zW
    generalize ((i+1:Nat):Int)=T at *
    generalize ((h+1:Nat):Int)=H1 at *
    simp only[List.length_map,hh',decide_true,aB,rD hy,Hold.e,aa,C.toInt_int]
    have fs':y.s=0\/(st≠0/\0<wn/\(y.s=3\/y.m=wn)/\(y.s=2->st=2\/st=4)/\(y.s=3->st=3\/st=5)):=by
     by_cases h0:y.s=0
     ·exact .inl h0
     ·obtain⟨a,b,c,d,e⟩:=fs h0
      refine .inr ⟨a,b,?_,d,e⟩
      by_cases h3:y.s=3
      ·exact .inl h3
      ·exact .inr (c h3)
    clear fs
    by_cases h00:st=0
    ·have e2:y.s=0:=by omega
     subst h00
     simp[e2,qd,qc,qb,wh]
    ·have R:=fun f=>rr (f:=f) h00
     have Mm:=fun f=>rm (f:=f) h00
     have hwz:y.s≠0->¬ (wn=0):=by omega
     have hme:y.s=1\/y.s=2->y.m=wn:=by omega
     by_cases hwp:0<wn
     ·have hwp':wn>0:=hwp
      have hw0:¬ (wn=0):=by omega
      rcases st5 with e|e|e|e|e|e<;>rcases s3 with e2|e2|e2|e2<;>first
       | (exfalso;omega)
       | (have em:=hme (by omega);simp[e,e2,em,R,Mm,aa,hw64,wh,Trip.e,eI,hwp',hw0,qd,qc,qb,wh,cr,cp];done)
       | (simp[e,e2,R,Mm,aa,hw64,wh,Trip.e,eI,hwp',hw0,qd,qc,qb,wh,cr,cp];done)
     ·have e2:y.s=0:=by omega
      have hwp':¬ (wn>0):=hwp
      rcases st5 with e|e|e|e|e|e<;>first
       | (exfalso;omega)
       | (simp[e,e2,R,Mm,aa,hw64,wh,Trip.e,eI,hwp',qd,qc,qb,wh,cr,cp];done)
   ·have h:¬ (((bK w ((i+1:Nat):Int)).length:Int)<((bK w ((i+1:Nat):Int)).length:Nat)):=by omega
    simp (disch:=first|assumption|omega|(simp only[zL];omega)) only[zW,h,if_false,al,Int.reduceEq,reduceIte,zU,zT,aa]
  unfold zY
  have hd:decide (((i+1:Nat):Int)<=6)=true:=decide_eq_true hi'
  have hd3:decide ((((bK w ((i+1:Nat):Int)).length:Nat):Int)=3)=true:=decide_eq_true hh3'
  simp only[aa,C.toInt_int,hd,aB]
  rw[hho]
  simp only[AB,aa,C.toList_list,List.length_map,cr,hd3,Bool.not_true,ay]
  by_cases hlt:((i+1:Nat):Int)<=((ai w.dk.lg true).length:Nat)
  ·simp (disch:=first|assumption|omega|(simp only[zL];omega)) only[hlt,decide_true,aB,wrap64,og ht1 hlt,Trip.e,aa,C.toInt_int,bc]
   simp only[aP,hi',if_true]
   exact inner _ rfl
  ·simp only[hlt,decide_false,ay,bc,aa,C.toInt_int]
   simp only[aP,hi',if_true]
   refine inner _ ?_
   rw[CO (by omega)]
 ·simp (disch:=first|assumption|omega|(simp only[zL];omega)) only[zY,Int.reduceEq,reduceIte,zU,zT,aa]
  try rfl
end
end Dx
namespace Dx
open Go
theorem FY:xN=uy:=rfl
theorem sg:∀(xs:List Word) (w:Wd) (ns:List Word),cI {w with ns:=ns} xs={cI w xs with ns:=ns}
 | [],_,_=>rfl
 | x::xs,w,ns=>by
  show cI (bq {w with ns:=ns} x) xs={cI (bq w x) xs with ns:=ns}
  rw[BC];exact sg xs _ ns
section
variable {w:Wd}
theorem hs3(ho:WOk w):∃ a b c,w.hs=[a,b,c]:=by
 have h:=ho.len
 match w.hs,h with
 | [a,b,c],_=>exact⟨a,b,c,rfl⟩
theorem Dg(ho:WOk w):([0,1,2,3]:List Int).foldl (fun w i=>cw w ⟨9,i,0,[]⟩) w=c9 w:=by
 obtain⟨a,b,c,h⟩:=hs3 ho
 obtain⟨d,hs,ns⟩:=w
 simp only at h
 subst h
 rfl
theorem si(ho:WOk w):([0,1,2,3]:List Int).foldl cH w=aY w:=by
 obtain⟨a,b,c,h⟩:=hs3 ho
 obtain⟨d,hs,ns⟩:=w
 simp only at h
 subst h
 rfl
theorem fD{F:List C->Option Out}{p q:List C}(h:F p=some (.jump q)):aJ F p=aJ F q:=by rw[gI,h];rfl
theorem tB{F:List C->Option Out}{p:List C}{o:Out}(h:F p=some (.up o)):aJ F p=some o:=by rw[gI,h];rfl
theorem DZ(a b:List Word)(f:List C->Option Out):aI (.list [[.list (a.map Word.e)],[.list (b.map Word.e)]]) (.int .i64 0) [.list] f=f [.list (a.map Word.e)]:=rfl
theorem AJ(a b:List Word)(f:List C->Option Out):aI (.list [[.list (a.map Word.e)],[.list (b.map Word.e)]]) (.int .i64 1) [.list] f=f [.list (b.map Word.e)]:=rfl
theorem Dh{a b:List Word}(ha:a.length<=1000)(hb:b.length<=1000):xL [.list [[.list (a.map Word.e)],[.list (b.map Word.e)]]]=some [.list ((a++b).map Word.e)]:=by
 rw[q_ar]
 have hg:po [.list [],.int .i64 ((a.length:Int)+(b.length:Nat))]=some [.list []]:=by
  have hc:(decide ((0:Int)<=(a.length:Int)+(b.length:Nat)) && decide ((a.length:Int)+(b.length:Nat)<=1099511627776))=true:=by simp;omega
  unfold po
  simp only[hc]
 have h1:¬ ((a.length:Int)<0):=by omega
 have h2:¬ ((a.length:Int)+(b.length:Nat)<0):=by omega
 have hA:¬ ((0:Int)+(a.length:Int)<0):=by omega
 unfold F_ar
 refine Eq.trans (congrArg ah (fD (q:=[.int .i64 a.length,.int .i64 1]) ?_)) ?_
 ·show kM _ 2 0 0=_
  unfold kM
  simp (disch:=first|assumption|omega|(simp only[zL];omega)) only[DZ,wrap64,h1,if_false,Int.zero_add,Int.reduceAdd,Int.reduceLT,if_true,Int.reduceEq,reduceIte,zU,zT,aa]
 refine Eq.trans (congrArg ah (fD (q:=[.int .i64 ((a.length:Int)+(b.length:Nat)),.int .i64 2]) ?_)) ?_
 ·show kM _ 2 _ 1=_
  unfold kM
  simp (disch:=first|assumption|omega|(simp only[zL];omega)) only[AJ,wrap64,h2,if_false,Int.reduceAdd,Int.reduceLT,if_true,C.toInt_int,Int.reduceEq,reduceIte,zU,zT,aa]
 refine Eq.trans (congrArg ah (tB (o:=.ret [.list ((a++b).map Word.e)]) ?_)) rfl
 show kM _ 2 ((a.length:Int)+(b.length:Nat)) 2=_
 unfold kM
 simp only[Int.lt_irrefl,decide_false,ay,hg,AB,aa,C.toList_list]
 have key:aJ (fun ps=>jz [[C.list (a.map Word.e)],[C.list (b.map Word.e)]] 2 ((aa ps 0).toInt) ((aa ps 1).toList)) [C.int .i64 0,C.list []]=some (.ret [.list ((a++b).map Word.e)]):=by
  refine Eq.trans (fD (q:=[.int .i64 1,.list (a.map Word.e)]) ?_) ?_
  ·show jz _ 2 0 []=_
   unfold jz
   simp (disch:=first|assumption|omega|(simp only[zL];omega)) only[DZ,oe,wrap64,Int.zero_add,Int.reduceAdd,Int.reduceLT,if_true,cg,Int.reduceEq,reduceIte,zU,zT,aa]
  refine Eq.trans (fD (q:=[.int .i64 2,.list ((a++b).map Word.e)]) ?_) ?_
  ·show jz _ 2 1 (a.map Word.e)=_
   unfold jz
   simp (disch:=first|assumption|omega|(simp only[zL];omega)) only[AJ,oe,wrap64,Int.reduceAdd,Int.reduceLT,if_true,cg,List.map_append,Int.reduceEq,reduceIte,zU,zT,aa]
  refine tB ?_
  show jz _ 2 2 ((a++b).map Word.e)=_
  unfold jz
  simp only[Int.lt_irrefl,decide_false,ay]
  rfl
 exact congrArg upD key
theorem yM(ho:WOk w):∀ x∈w.ns++aV w.dk,WdOk x:=fun x hx=>by
 rcases List.mem_append.1 hx with h|h
 ·exact ho.ns x h
 ·exact(ep ho.dk h).1
theorem JU(ho:WOk w) :
  xO [.bool w.dk.up,.list (w.dk.lg.rs.map Rec.e),.int .i64 w.dk.lg.f,.list (w.dk.td.map Word.e),.list (w.hs.map House.e),.list (w.ns.map Word.e)]=some (bb w).e:=by
 rw[q_ch]
 unfold F_ch
 have L0:∀ w:Wd,WOk w->aJ (fun ps=>uo ((aa ps 0).toInt) ((aa ps 1).toBool) ((aa ps 2).toList) ((aa ps 3).toInt) ((aa ps 4).toList) ((aa ps 5).toList) ((aa ps 6).toList)) (.int .i64 0::w.e)=some (.ret (aY w).e):=by
  intro w ow
  rw[<-si ow]
  refine ar (l:=([0,1,2,3]:List Int)) (enc:=fun i (w:Wd)=>.int .i64 i::w.e) (res:=fun xs _ w=>.ret (xs.foldl cH w).e) (fun _ w=>WOk w) (s:=w) ow ?_ ?_
  ·intro i x xs w hx ow
   have hi:(i:Int)<4/\x=(i:Int):=by
    have:=(List.getElem?_eq_some_iff.1 hx).1
    simp at this
    have h4:i=0\/i=1\/i=2\/i=3:=by omega
    rcases h4 with e|e|e|e<;>subst e<;>simp at hx<;>subst hx<;>simp
   obtain⟨hi,rfl⟩:=hi
   have he:=mh (up:=w.dk.up) (rs:=w.dk.lg.rs) (f:=w.dk.lg.f) (td:=w.dk.td) (hs:=w.hs) (ns:=w.ns) ow (i:=(i:Int))
   refine .inl ⟨cH w i,?_,ow.forceEv _,rfl⟩
   simp only[Wd.e,aa,C.toInt_int,C.toBool_bool,C.toList_list]
   unfold uo
   simp only[aP,hi,if_true,he]
   simp only[la,lb,jB]
   simp only[Wd.e,bO,aa,C.toInt_int,C.toList_list,C.toBool_bool]
   rw[al (by omega)]
  ·intro w ow
   have h:¬ (((4:Nat):Int)<4):=by omega
   simp only[List.length_cons,List.length_nil,Wd.e,aa,C.toInt_int,C.toBool_bool,C.toList_list]
   unfold uo
   simp only[aP,h,if_false]
   rfl
 have L1:∀(l:List Word) (w:Wd),l.length<=1000->WOk w->(∀ x∈l,WdOk x)->aJ (fun ps=>uq (l.map Word.e) ((l.length:Nat):Int) ((aa ps 0).toInt) ((aa ps 1).toBool) ((aa ps 2).toList) ((aa ps 3).toInt) ((aa ps 4).toList) ((aa ps 5).toList) ((aa ps 6).toList))
   [.int .i64 0,.bool w.dk.up,.list (w.dk.lg.rs.map Rec.e),.int .i64 w.dk.lg.f,.list (w.ns.map Word.e),.list (w.dk.td.map Word.e),.list (w.hs.map House.e)]=some (.ret (aY {cI w l with ns:=[]}).e):=by
  intro l w hl ow hw
  refine ar (l:=l) (enc:=fun i (w:Wd)=>[.int .i64 i,.bool w.dk.up,.list (w.dk.lg.rs.map Rec.e),.int .i64 w.dk.lg.f,.list (w.ns.map Word.e),.list (w.dk.td.map Word.e),.list (w.hs.map House.e)]) (res:=fun xs _ w=>.ret (aY {cI w xs with ns:=[]}).e) (fun _ w=>WOk w) (s:=w) ow ?_ ?_
  ·intro i x xs w hx ow
   have hi:=(List.getElem?_eq_some_iff.1 hx).1
   have hi':(i:Int)<(l.length:Nat):=by omega
   have hxo:=hw x (List.mem_of_getElem? hx)
   have hhe:=AH (up:=w.dk.up) (rs:=w.dk.lg.rs) (f:=w.dk.lg.f) (td:=w.dk.td) (hs:=w.hs) (ns:=w.ns) (k:=x.k) (h:=x.h) (t:=x.t) (m:=x.m) ow hxo
   have o2:=ow.hear hxo
   refine .inl ⟨bq w x,?_,ow.hear2 hxo,rfl⟩
   simp only[aa,C.toInt_int,C.toBool_bool,C.toList_list]
   unfold uq
   have hd:(decide ((0:Int)<=(i:Int)) && decide ((i:Int)<(((l.map Word.e).length:Nat):Int)))=true:=by simp;omega
   rw[z5 (by omega) (by simpa using hx)]
   simp only[aP,hi',if_true,hd,du,Word.e,aa,C.toInt_int,FY,hhe]
   simp only[la,lb,jB,uH]
   unfold bq
   generalize bo w x=q at o2 ⊢
   obtain⟨q1,q2⟩:=q
   rw[al (by omega)]
   cases q2 with
   | none =>
    simp only[oW,Word.e,Wd.e,List.cons_append,List.nil_append,Option.isSome_none]
    rw[ba rfl]
    rfl
   | some y =>
    have hq:WOk q1:=o2.1
    have hy:=DW (up:=q1.dk.up) (rs:=q1.dk.lg.rs) (f:=q1.dk.lg.f) (td:=q1.dk.td) (k:=y.k) (h:=y.h) (t:=y.t) (m:=y.m) hq.dk
    have h4:=(o2.2 y rfl).2
    simp only[oW,Word.e,Wd.e,List.cons_append,List.nil_append,Option.isSome_some,Option.getD_some]
    rw[ba rfl]
    simp only[aa,C.toBool_bool,C.toList_list,C.toInt_int,aB,hy]
    simp only[la,lb,uH]
    rw[jp h4]
    simp only[Desk.e]
    rw[ba rfl]
    rfl
  ·intro w ow
   have h:¬ ((l.length:Int)<(l.length:Nat)):=by omega
   simp only[aa,C.toInt_int,C.toBool_bool,C.toList_list]
   unfold uq
   simp only[aP,h,if_false]
   have:=L0 {w with ns:=[]} ⟨ow.dk,ow.len,ow.hs,by simp,by simp⟩
   simp only[Wd.e,List.map_nil]at this
   rw[this];rfl
 refine Eq.trans (congrArg ah (ar (l:=([0,1,2,3]:List Int)) (enc:=fun i (w:Wd)=>.int .i64 i::w.e) (res:=fun xs _ v=>.ret (aY (cI {xs.foldl (fun w i=>cw w ⟨9,i,0,[]⟩) v with ns:=[]} ((xs.foldl (fun w i=>cw w ⟨9,i,0,[]⟩) v).ns++aV (xs.foldl (fun w i=>cw w ⟨9,i,0,[]⟩) v).dk))).e) (fun _ v=>WOk v) (s:=w) ho ?_ ?_)) ?_
 ·intro i x xs w hx ow
  have hi:(i:Int)<4/\x=(i:Int):=by
   have:=(List.getElem?_eq_some_iff.1 hx).1
   simp at this
   have h4:i=0\/i=1\/i=2\/i=3:=by omega
   rcases h4 with e|e|e|e<;>subst e<;>simp at hx<;>subst hx<;>simp
  obtain⟨hi,rfl⟩:=hi
  have he:=oF (up:=w.dk.up) (rs:=w.dk.lg.rs) (f:=w.dk.lg.f) (td:=w.dk.td) (hs:=w.hs) (ns:=w.ns) ow (i:=(i:Int))
  refine .inl ⟨cw w ⟨9,i,0,[]⟩,?_,ow.node _,rfl⟩
  simp only[Wd.e,aa,C.toInt_int,C.toBool_bool,C.toList_list]
  unfold zF
  simp only[aP,hi,if_true,he]
  simp only[la,lb,jB]
  simp only[Wd.e,bO,aa,C.toInt_int,C.toList_list,C.toBool_bool]
  rw[al (by omega)]
 ·intro v ow
  have h:¬ (((4:Nat):Int)<4):=by omega
  have hdw:=ib ow.dk
  have hnl:=ow.nlen
  simp only[List.length_cons,List.length_nil,Wd.e,aa,C.toInt_int,C.toBool_bool,C.toList_list]
  unfold zF
  have hwd:=tx (up:=v.dk.up) (rs:=v.dk.lg.rs) (f:=v.dk.lg.f) (td:=v.dk.td) ow.dk
  simp only[aP,h,if_false,hwd,AB,aa,C.toList_list]
  simp only[la,lb]
  rw[Dh (by omega) (by omega)]
  simp only[AB,aa,C.toList_list,List.length_map]
  have:=L1 (v.ns++aV v.dk) v (by rw[List.length_append];omega) ow (yM ow)
  refine(congrArg upD this).trans ?_
  show _=some (Out.up (.ret (aY (cI {v with ns:=[]} (v.ns++aV v.dk))).e))
  rw[sg (v.ns++aV v.dk) v []]
  rfl
 ·rw[Dg ho]
  rfl
theorem bA(ho:WOk w){r:Int}(hr:0<=r/\r<=9) :
  db [.bool w.dk.up,.list (w.dk.lg.rs.map Rec.e),.int .i64 w.dk.lg.f,.list (w.dk.td.map Word.e),.list (w.hs.map House.e),.list (w.ns.map Word.e),.int .i64 r]=some (bu w r.toNat).e:=by
 rw[q_cz]
 unfold H5
 rw[jt ho]
 have hin:in_ r 0 9=true:=in_iff.2 hr
 simp only[nt,aa,C.toBool_bool,Bool.not_true,ay,ly,hin]
 rw[jC ho]
 obtain⟨n,rfl⟩:∃ n:Nat,r=n:=⟨r.toNat,by omega⟩
 simp only[Wd.e,bO,aa,C.toInt_int,C.toList_list,C.toBool_bool]
 refine Eq.trans (congrArg ah (ar (l:=List.replicate n ()) (enc:=fun i (w:Wd)=>.int .i64 i::w.e) (res:=fun xs _ v=>.ret (bu v xs.length).e) (fun _ v=>WOk v) (s:=w) ho ?_ ?_)) ?_
 ·intro i x xs w hx ow
  have hi:=(List.getElem?_eq_some_iff.1 hx).1
  rw[List.length_replicate]at hi
  have hi':(i:Int)<(n:Nat):=by omega
  refine .inl ⟨bb w,?_,ow.round,rfl⟩
  simp only[Wd.e,aa,C.toInt_int,C.toBool_bool,C.toList_list]
  unfold zG
  simp only[aP,hi',if_true,JU ow]
  simp only[Wd.e,bO,aa,C.toInt_int,C.toList_list,C.toBool_bool]
  rw[al (by omega)]
 ·intro v ow
  have h:¬ ((n:Int)<(n:Nat)):=by omega
  simp only[List.length_replicate,Wd.e,aa,C.toInt_int,C.toBool_bool,C.toList_list]
  unfold zG
  simp only[aP,h,if_false]
  rfl
 ·rw[List.length_replicate];rfl
end
end Dx
namespace Dx
open Go
theorem sm{b a:List Trip}(hl:a.length=b.length)(h:∀ t:Int,1<=t->t<=b.length->((tAt b t).s=2->(tAt a t).s=4)/\((tAt b t).s=3->(tAt a t).s=5)/\((tAt a t).s=4\/(tAt a t).s=5)){i:Nat}{x:Trip}(hx:b[i]?=some x) :
  ∃ y,a[i]?=some y/\(x.s=2->y.s=4)/\(x.s=3->y.s=5)/\¬ (y.s<4):=by
 have hi:=(List.getElem?_eq_some_iff.1 hx).1
 have e:(((i+1:Nat):Int)-1).toNat=i:=by omega
 have hb:tAt b ((i+1:Nat):Int)=x:=by unfold tAt;rw[e,hx];rfl
 have ha:a[i]?=some (tAt a ((i+1:Nat):Int)):=by
  rw[qf (by omega)];simp only[e];rw[List.getElem?_eq_getElem (by omega)]
 have:=h ((i+1:Nat):Int) (by omega) (by omega)
 rw[hb]at this
 exact⟨_,ha,this.1,this.2.1,by omega⟩
theorem kP(a b c:C):mW 1 ((0+1+1+1) / 1) [a,b,c]=[[a],[b],[c]]:=rfl
theorem z6(a b:C):mW 1 ((0+1+1) / 1) [a,b]=[[a],[b]]:=rfl
end Dx
namespace Dx
open Go
structure WS (w:Wd):Prop where
 dk:DkS w.dk
 hs:∀ x∈w.hs,LgS x.lg
 hl:w.hs.length<=2000000
 nl:w.ns.length<=2000000
theorem WOk.ws{w:Wd}(h:WOk w):WS w:=⟨h.dk.S,fun x hx=>by
 obtain⟨i,hi⟩:=List.getElem?_of_mem hx
 exact(h.hs i x hi).1.lg.S,by have:=h.len;omega,by have:=h.nlen;omega⟩
section
variable {up b:Bool} {rs:List Rec} {f:Int} {td:List Word} {k h t m:Int} {id room:Int} {hs:List House} {ns:List Word} {w:Wd}
theorem AK(hl:LgS ⟨rs,f⟩):rp [.list (rs.map Rec.e),.int .i64 f]=some [.bool (gv ⟨rs,f⟩)]:=by
 rw[q_gl]
 have h1:=hl.1
 simp only at h1
 unfold F_gl
 refine Eq.trans (congrArg ah (ar (l:=rs) (enc:=fun i (_:Unit)=>[.int .i64 i]) (res:=fun xs _ _=>.ret [.bool (xs.all aL && (decide (rs.length<=40) && in_ f 0 rs.length))]) (fun _ _=>True) (s:=()) trivial ?_ ?_)) rfl
 ·intro i x xs _ hx _
  have hi:=(List.getElem?_eq_some_iff.1 hx).1
  have hi':(i:Int)<(rs.length:Nat):=by omega
  have hm:x.m.length<=1099511627776:=hl.2 x (List.mem_of_getElem? hx)
  simp only[aa,C.toInt_int]
  unfold zH
  simp (disch:=first|assumption|omega|(simp only[zL];omega)) only[kZ hx,Rec.e,hi',if_true,ol hm,al,Int.reduceEq,reduceIte,zU,zT,aa]
  cases hr:aL x with
  | true=>exact .inl ⟨(),rfl,trivial,by simp[hr]⟩
  | false=>exact .inr ⟨_,rfl,by simp[hr]⟩
 ·intro _ _
  have h:¬ ((rs.length:Int)<(rs.length:Nat)):=by omega
  simp only[aa,C.toInt_int]
  unfold zH
  by_cases h40:((rs.length:Nat):Int)<=40
  ·have h40':rs.length<=40:=by omega
   simp (disch:=first|assumption|omega|(simp only[zL];omega)) only[h,if_false,h40,h40',if_true,b8,decide_true,Bool.true_and,List.all_nil,Int.reduceEq,reduceIte,zU,zT,aa]
  ·have h40':¬ (rs.length<=40):=by omega
   simp (disch:=first|assumption|omega|(simp only[zL];omega)) only[h,if_false,h40,h40',decide_false,Bool.false_and,Bool.and_false,Int.reduceEq,reduceIte,zU,zT,aa]
theorem Di(hs:DkS ⟨up,⟨rs,f⟩,td⟩):xP [.bool up,.list (rs.map Rec.e),.int .i64 f,.list (td.map Word.e)]=some [.bool (bH ⟨up,⟨rs,f⟩,td⟩)]:=by
 rw[q_gg]
 have hS:LgS ⟨rs,f⟩:=hs.lg
 have htd:td.length<=2000000:=by have:=hs.td;simp only at this;omega
 have h12:=AE (rs:=rs) hS.1 hS.2
 unfold bH
 simp only
 simp (disch:=first|assumption|omega|(simp only[zL];omega)) only[F_gg,h12,AK hS,Int.reduceEq,reduceIte,zU,zT,aa]
 cases hlo:gv ⟨rs,f⟩with
 | false=>simp only[ay,Bool.false_and,aF]
 | true =>
  simp only[aB,Bool.true_and]
  cases htr:bj rs with
  | none=>simp only[Option.isSome_none,ay,aF]
  | some l =>
   simp only[Option.isSome_some,aB,Option.getD_some]
   have hl6:l.length<=6:=(jW htr).len
   refine Eq.trans (congrArg ah (ar (l:=td) (enc:=fun i (_:Unit)=>[.int .i64 i]) (res:=fun xs i _=>.ret [.bool (dY l.length (td.take i) xs && (up || td.isEmpty))]) (fun _ _=>True) (s:=()) trivial ?_ ?_)) rfl
   ·intro i x xs _ hx _
    have hi:=(List.getElem?_eq_some_iff.1 hx).1
    have hi':(i:Int)<(td.length:Nat):=by omega
    have hil:(i:Int)<=(td.length:Nat):=by omega
    have hi0:(0:Int)<=(i:Int):=by omega
    have htk:(td.map Word.e).take ((i:Int).toNat)=(td.take i).map Word.e:=by rw[Int.toNat_natCast,List.map_take]
    have htn:td.take (i+1)=td.take i++[x]:=by rw[List.take_add_one,hx];rfl
    have hl1:(td.take i).length<=1099511627775:=by rw[List.length_take];omega
    simp only[aa,C.toInt_int]
    unfold zI
    simp (disch:=first|assumption|omega|(simp only[zL];omega)) only[js hx,Word.e,hi',if_true,lc,hi0,hil,decide_true,Bool.and_self,htk,gy hl1,al,Int.reduceEq,reduceIte,zU,zT,aa]
    cases hw:bG x with
    | false =>
     refine .inr ⟨_,rfl,?_⟩
     simp[dY,hw]
    | true =>
     simp only[aB]
     by_cases h4:x.k<4
     ·refine .inr ⟨_,by simp only[h4,if_true];rfl,?_⟩
      have:¬ (4<=x.k):=by omega
      simp[dY,this]
     ·simp only[h4,if_false]
      by_cases htt:x.t>(l.length:Nat)
      ·refine .inr ⟨_,by simp only[htt,if_true];rfl,?_⟩
       have:¬ (x.t<=(l.length:Nat)):=by omega
       simp[dY,this]
      ·simp only[htt,if_false]
       cases hc:(td.take i).contains x with
       | true =>
        refine .inr ⟨_,rfl,?_⟩
        simp only[dY,hc,Bool.not_true,Bool.and_false,Bool.false_and]
       | false =>
        refine .inl ⟨(),rfl,trivial,?_⟩
        have g4:x.k>=4:=by omega
        have gt:x.t<=(l.length:Nat):=by omega
        simp only[dY,hw,hc,g4,gt,decide_true,Bool.and_true,Bool.not_false,Bool.true_and,htn]
   ·intro _ _
    have h:¬ ((td.length:Int)<(td.length:Nat)):=by omega
    simp only[aa,C.toInt_int]
    unfold zI
    have he:(((td.length:Nat):Int)==0)=td.isEmpty:=by cases td<;>simp;omega
    simp (disch:=first|assumption|omega|(simp only[zL];omega)) only[h,if_false,he,dY,Bool.true_and,Int.reduceEq,reduceIte,zU,zT,aa]
    cases up<;>rfl
theorem BW(hl:LgS ⟨rs,f⟩):xQ [.int .i64 id,.bool up,.int .i64 room,.list (rs.map Rec.e),.int .i64 f]=some [.bool (cN ⟨id,up,room,⟨rs,f⟩⟩)]:=by
 rw[q_es]
 have h2:=DS (room:=room) (rs:=rs) hl.1 hl.2
 simp only[Stock.e,List.cons_append,List.nil_append]at h2
 unfold cN
 simp (disch:=first|assumption|omega|(simp only[zL];omega)) only[F_es,h2,b8,AK hl,Int.reduceEq,reduceIte,zU,zT,aa]
 cases in_ id 1 3 with
 | false=>rfl
 | true=>cases gv ⟨rs,f⟩<;>rfl
theorem BX(hL:ns.length<=2000000):aJ (fun ps=>ur (ns.map Word.e) ((aa ps 0).toInt)) [.int .i64 0]=some (.ret [.bool (ns.all bG)]):=by
 refine ar (l:=ns) (enc:=fun i (_:Unit)=>[.int .i64 i]) (res:=fun xs _ _=>.ret [.bool (xs.all bG)]) (fun _ _=>True) (s:=()) trivial ?_ ?_
 ·intro i x xs _ hx _
  have hi:=(List.getElem?_eq_some_iff.1 hx).1
  have hi':(i:Int)<(ns.length:Nat):=by omega
  simp only[aa,C.toInt_int]
  unfold ur
  simp (disch:=first|assumption|omega|(simp only[zL];omega)) only[js hx,Word.e,hi',if_true,lc,al,Int.reduceEq,reduceIte,zU,zT,aa]
  cases hr:bG x with
  | true=>exact .inl ⟨(),rfl,trivial,by simp[hr]⟩
  | false=>exact .inr ⟨_,rfl,by simp[hr]⟩
 ·intro _ _
  have h:¬ ((ns.length:Int)<(ns.length:Nat)):=by omega
  simp only[aa,C.toInt_int]
  unfold ur
  simp (disch:=first|assumption|omega|(simp only[zL];omega)) only[h,if_false,Int.reduceEq,reduceIte,zU,zT,aa]
  rfl
theorem ju(hw:WS w):iG [.bool w.dk.up,.list (w.dk.lg.rs.map Rec.e),.int .i64 w.dk.lg.f,.list (w.dk.td.map Word.e),.list (w.hs.map House.e),.list (w.ns.map Word.e)]=some [.bool (bZ w)]:=by
 rw[q_fm]
 obtain⟨⟨up,⟨rs,f⟩,td⟩,hs,ns⟩:=w
 have hd:DkS ⟨up,⟨rs,f⟩,td⟩:=hw.dk
 have hhs:=hw.hs
 have hhl:=hw.hl
 have hnl:=hw.nl
 simp only at hhs hhl hnl
 unfold bZ
 simp only
 simp (disch:=first|assumption|omega|(simp only[zL];omega)) only[F_fm,Di hd,Int.reduceEq,reduceIte,zU,zT,aa]
 cases bH ⟨up,⟨rs,f⟩,td⟩with
 | false=>rfl
 | true =>
  simp only[aB,Bool.true_and]
  by_cases h3:((hs.length:Nat):Int)=3
  ·have h3':hs.length=3:=by omega
   have h3b:(hs.length==3)=true:=by simp[h3']
   simp only[h3,if_true,h3b,Bool.true_and]
   by_cases h14:((ns.length:Nat):Int)>14
   ·have h14':¬ (ns.length<=14):=by omega
    simp[h14,h14']
   ·have h14':ns.length<=14:=by omega
    simp only[h14,h14',if_false,decide_true,Bool.true_and]
    refine Eq.trans (congrArg ah (ar (l:=hs) (enc:=fun i (_:Unit)=>[.int .i64 i]) (res:=fun xs i _=>.ret [.bool (xs.all cN && ((xs.zipIdx (i+1)).all (fun p=>p.1.id==(p.2:Int)) && ns.all bG))]) (fun _ _=>True) (s:=()) trivial ?_ ?_)) rfl
    ·intro i x xs _ hx _
     have hi:=(List.getElem?_eq_some_iff.1 hx).1
     have hi':(i:Int)<((3:Nat):Int):=by omega
     have hxl:LgS ⟨x.lg.rs,x.lg.f⟩:=hhs x (List.mem_of_getElem? hx)
     simp only[aa,C.toInt_int]
     unfold zJ
     simp (disch:=first|assumption|omega|(simp only[zL];omega)) only[fB hx,House.e,h3',h3,hi',if_true,BW hxl,al,Int.reduceEq,reduceIte,zU,zT,aa]
     cases hr:cN x with
     | false=>exact .inr ⟨_,rfl,by simp[hr]⟩
     | true =>
      simp only[aB]
      by_cases hid:x.id=((i+1:Nat):Int)
      ·refine .inl ⟨(),by simp only[hid,if_true],trivial,?_⟩
       have:(x.id==((i+1:Nat):Int))=true:=by simpa using hid
       simp only[List.all_cons,hr,Bool.true_and,List.zipIdx_cons,this]
      ·refine .inr ⟨_,by simp only[hid,if_false];rfl,?_⟩
       have:(x.id==((i+1:Nat):Int))=false:=by simpa using hid
       simp only[List.all_cons,hr,Bool.true_and,List.zipIdx_cons,this,Bool.false_and,Bool.and_false]
    ·intro _ _
     have h:¬ ((hs.length:Int)<(hs.length:Nat)):=by omega
     simp only[aa,C.toInt_int]
     unfold zJ
     simp (disch:=first|assumption|omega|(simp only[zL];omega)) only[h,if_false,BX hnl,Int.reduceEq,reduceIte,zU,zT,aa]
     simp
  ·have h3b:(hs.length==3)=false:=by simp;omega
   simp only[h3,if_false,ay,aB,h3b,Bool.false_and,aF]
end
end Dx
namespace Dx
open Go
section
variable {up b:Bool} {rs:List Rec} {f:Int} {td:List Word} {k h t m:Int} {id room:Int} {hs:List House} {ns:List Word} {w:Wd}
theorem kc(hw:WS w):jh [.bool w.dk.up,.list (w.dk.lg.rs.map Rec.e),.int .i64 w.dk.lg.f,.list (w.dk.td.map Word.e),.list (w.hs.map House.e),.list (w.ns.map Word.e)]=some [.bool (bZ w)]:=by
 rw[q_eh]
 obtain⟨⟨up,⟨rs,f⟩,td⟩,hs,ns⟩:=w
 have hd:DkS ⟨up,⟨rs,f⟩,td⟩:=hw.dk
 have hhs:=hw.hs
 have hhl:=hw.hl
 have hnl:=hw.nl
 simp only at hhs hhl hnl
 unfold bZ
 simp only
 simp (disch:=first|assumption|omega|(simp only[zL];omega)) only[F_eh,cL hd,Int.reduceEq,reduceIte,zU,zT,aa]
 cases bH ⟨up,⟨rs,f⟩,td⟩with
 | false=>rfl
 | true =>
  simp only[aB,Bool.true_and]
  by_cases h3:((hs.length:Nat):Int)=3
  ·have h3':hs.length=3:=by omega
   have h3b:(hs.length==3)=true:=by simp[h3']
   simp only[h3,if_true,h3b,Bool.true_and]
   by_cases h14:((ns.length:Nat):Int)>14
   ·have h14':¬ (ns.length<=14):=by omega
    simp[h14,h14']
   ·have h14':ns.length<=14:=by omega
    simp only[h14,h14',if_false,decide_true,Bool.true_and]
    have key:=ar (l:=hs) (F:=fun ps=>m7 (hs.map House.e) (ns.map Word.e) 3 ((aa ps 0).toInt)) (enc:=fun i (_:Unit)=>[.int .i64 i]) (res:=fun xs i _=>.ret [.bool (xs.all cN && ((xs.zipIdx (i+1)).all (fun p=>p.1.id==(p.2:Int)) && ns.all bG))]) (fun _ _=>True) (s:=()) trivial ?_ ?_
    ·refine Eq.trans (congrArg ah key) rfl
    ·intro i x xs _ hx _
     have hi:=(List.getElem?_eq_some_iff.1 hx).1
     have hi':(i:Int)<3:=by omega
     have hxl:LgS ⟨x.lg.rs,x.lg.f⟩:=hhs x (List.mem_of_getElem? hx)
     simp only[aa,C.toInt_int]
     unfold m7
     simp (disch:=first|assumption|omega|(simp only[zL];omega)) only[fB hx,House.e,hi',if_true,dP hxl,al,Int.reduceEq,reduceIte,zU,zT,aa]
     cases hr:cN x with
     | false=>exact .inr ⟨_,rfl,by simp[hr]⟩
     | true =>
      simp only[aB]
      by_cases hid:x.id=((i+1:Nat):Int)
      ·refine .inl ⟨(),by simp only[hid,if_true],trivial,?_⟩
       have:(x.id==((i+1:Nat):Int))=true:=by simpa using hid
       simp only[List.all_cons,hr,Bool.true_and,List.zipIdx_cons,this]
      ·refine .inr ⟨_,by simp only[hid,if_false];rfl,?_⟩
       have:(x.id==((i+1:Nat):Int))=false:=by simpa using hid
       simp only[List.all_cons,hr,Bool.true_and,List.zipIdx_cons,this,Bool.false_and,Bool.and_false]
    ·intro _ _
     have h:¬ ((3:Int)<3):=by omega
     have hall:(!(ns.any fun x=>!bG x))=ns.all bG:=by simp[List.all_eq_not_any_not]
     simp only[aa,C.toInt_int]
     unfold m7
     simp (disch:=first|assumption|omega|(simp only[zL];omega)) only[h3,h,if_false,se,Int.reduceEq,reduceIte,zU,zT,aa]
     rw[<-hall];simp
  ·have h3b:(hs.length==3)=false:=by simp;omega
   simp only[h3,if_false,ay,aB,h3b,Bool.false_and,aF]
theorem yN(hw:WS w){e:Ev}(he:EvS e) :
  dI [.bool w.dk.up,.list (w.dk.lg.rs.map Rec.e),.int .i64 w.dk.lg.f,.list (w.dk.td.map Word.e),.list (w.hs.map House.e),.list (w.ns.map Word.e),.int .i64 e.k,.int .i64 e.a,.int .i64 e.b,.list (e.m.map eI)]=some (if bZ w then wdo w e else wd0).e:=by
 cases hok:bZ w with
 | true=>rw[if_pos rfl];exact bX (worldOk_iff.1 hok) (by unfold EvS at he;omega)
 | false =>
  rw[q_fd]
  unfold F_fd
  rw[kc hw,hok]
  rfl
theorem sW(hw:WS w){r:Int} :
  db [.bool w.dk.up,.list (w.dk.lg.rs.map Rec.e),.int .i64 w.dk.lg.f,.list (w.dk.td.map Word.e),.list (w.hs.map House.e),.list (w.ns.map Word.e),.int .i64 r]=some (if bZ w && in_ r 0 9 then bu w r.toNat else wd0).e:=by
 cases hok:bZ w with
 | true =>
  cases hr:in_ r 0 9 with
  | true=>exact bA (worldOk_iff.1 hok) (in_iff.1 hr)
  | false =>
   rw[q_cz]
   unfold H5
   rw[kc hw,hok]
   simp only[nt,aa,C.toBool_bool,Bool.not_true,ay,ly,hr]
   rfl
 | false =>
  rw[q_cz]
  unfold H5
  rw[kc hw,hok]
  rfl
theorem vz{ms:List Int}(hm:ms.length<=1099511627776):xR [.int .i64 k,.int .i64 t,.list (ms.map eI)]=some [.int .i64 k,.int .i64 t,.list (ms.map eI)]:=by
 rw[q_ct]
 simp (disch:=first|assumption|omega|(simp only[zL];omega)) only[F_ct,Int.reduceEq,reduceIte,zU,zT,aa]
theorem v8(hl:LgS ⟨rs,f⟩):rq [.list (rs.map Rec.e),.int .i64 f]=some [.list (rs.map Rec.e),.int .i64 f]:=by
 rw[q_fx]
 have h1:=hl.1
 simp only at h1
 unfold F_fx
 refine Eq.trans (congrArg ah (ar (l:=rs) (enc:=fun i (s:List Rec)=>[.int .i64 i,.list (s.map Rec.e)]) (res:=fun xs _ s=>.ret [.list ((s++xs).map Rec.e),.int .i64 f]) (fun i s=>s.length=i) (s:=[]) rfl ?_ ?_)) rfl
 ·intro i x xs s hx hs
  have hi:=(List.getElem?_eq_some_iff.1 hx).1
  have hi':(i:Int)<(rs.length:Nat):=by omega
  have hm:x.m.length<=1099511627776:=hl.2 x (List.mem_of_getElem? hx)
  have hc:s.length+1<=1099511627776:=by omega
  simp only[aa,C.toInt_int,C.toList_list]
  unfold zK
  simp (disch:=first|assumption|omega|(simp only[zL];omega)) only[kZ hx,Rec.e,hi',if_true,vz hm,hc,al,Int.reduceEq,reduceIte,zU,zT,aa]
  refine .inl ⟨s++[x],?_,by simp[hs],by simp⟩
  simp[Rec.e]
 ·intro s _
  have h:¬ ((rs.length:Int)<(rs.length:Nat)):=by omega
  simp only[aa,C.toInt_int,C.toList_list]
  unfold zK
  simp (disch:=first|assumption|omega|(simp only[zL];omega)) only[h,if_false,Int.reduceEq,reduceIte,zU,zT,aa]
  simp
theorem BY(hl:LgS ⟨rs,f⟩):xT [.int .i64 id,.bool up,.int .i64 room,.list (rs.map Rec.e),.int .i64 f]=some [.int .i64 id,.bool up,.int .i64 room,.list (rs.map Rec.e),.int .i64 f]:=by
 rw[q_fi]
 simp (disch:=first|assumption|omega|(simp only[zL];omega)) only[F_fi,v8 hl,Int.reduceEq,reduceIte,zU,zT,aa]
theorem BZ(hd:DkS ⟨up,⟨rs,f⟩,td⟩):xS [.bool up,.list (rs.map Rec.e),.int .i64 f,.list (td.map Word.e)]=some [.bool up,.list (rs.map Rec.e),.int .i64 f,.list (td.map Word.e)]:=by
 rw[q_el]
 have htd:td.length<=1099511627776:=by have:=hd.td;simp only at this;omega
 have hl:LgS ⟨rs,f⟩:=hd.lg
 simp (disch:=first|assumption|omega|(simp only[zL];omega)) only[F_el,v8 hl,htd,Int.reduceEq,reduceIte,zU,zT,aa]
theorem sn(hw:WS w):rt [.bool w.dk.up,.list (w.dk.lg.rs.map Rec.e),.int .i64 w.dk.lg.f,.list (w.dk.td.map Word.e),.list (w.hs.map House.e),.list (w.ns.map Word.e)]=some w.e:=by
 rw[q_fb]
 have hd:DkS ⟨w.dk.up,⟨w.dk.lg.rs,w.dk.lg.f⟩,w.dk.td⟩:=hw.dk
 have hnl:=hw.nl
 have hhl:=hw.hl
 simp (disch:=first|assumption|omega|(simp only[zL];omega)) only[F_fb,BZ hd,DM,Int.reduceEq,reduceIte,zU,zT,aa]
 have key:=ar (l:=w.hs) (F:=fun ps=>ut (w.hs.map House.e) w.dk.up w.dk.lg.f (w.dk.lg.rs.map Rec.e) (w.dk.td.map Word.e) (w.ns.map Word.e) ((aa ps 0).toInt) ((aa ps 1).toList)) (enc:=fun i (s:List House)=>[.int .i64 i,.list (s.map House.e)])
  (res:=fun xs _ s=>.ret [.bool w.dk.up,.list (w.dk.lg.rs.map Rec.e),.int .i64 w.dk.lg.f,.list (w.dk.td.map Word.e),.list ((s++xs).map House.e),.list (w.ns.map Word.e)]) (fun i s=>s.length=i) (s:=[]) rfl ?_ ?_
 ·have key:aJ _ [C.int .i64 0,C.list []]=_:=key
  rw[key];rfl
 ·intro i x xs s hx hs
  have hi:=(List.getElem?_eq_some_iff.1 hx).1
  have hi':(i:Int)<(w.hs.length:Nat):=by omega
  have hxl:LgS ⟨x.lg.rs,x.lg.f⟩:=hw.hs x (List.mem_of_getElem? hx)
  have hc:s.length+1<=1099511627776:=by omega
  simp (disch:=first|assumption|omega|(simp only[zL];omega)) only[ut,fB hx,House.e,BY hxl,al,hi',hc,if_true,Int.reduceEq,reduceIte,zU,zT,aa]
  exact .inl ⟨s++[x],by simp[House.e],by simp[hs],by simp⟩
 ·intro s hs
  have h:¬ ((w.hs.length:Int)<(w.hs.length:Nat)):=by omega
  simp (disch:=first|assumption|omega|(simp only[zL];omega)) only[ut,h,if_false,Int.reduceEq,reduceIte,zU,zT,aa]
  simp
theorem oH(hw:WS w){e:Ev}(he:EvS e) :
  nN [.bool w.dk.up,.list (w.dk.lg.rs.map Rec.e),.int .i64 w.dk.lg.f,.list (w.dk.td.map Word.e),.list (w.hs.map House.e),.list (w.ns.map Word.e),.int .i64 e.k,.int .i64 e.a,.int .i64 e.b,.list (e.m.map eI)]=some (if bZ w then wdo w e else wd0).e:=by
 rw[q_eg]
 unfold F_eg
 rw[ju hw]
 cases hok:bZ w with
 | false=>rfl
 | true =>
  simp only[nt,aa,C.toBool_bool,Bool.not_true,ay,if_true]
  rw[sn hw]
  simp only[Wd.e,bO,aa,C.toInt_int,C.toList_list,C.toBool_bool]
  rw[ld (worldOk_iff.1 hok) he]
  simp only[Wd.e,bO,aa,C.toInt_int,C.toList_list,C.toBool_bool]
  rfl
end
end Dx
namespace Dx
open Go
section
variable {w:Wd}
theorem Ca(ho:WOk w) :
  xU [.bool w.dk.up,.list (w.dk.lg.rs.map Rec.e),.int .i64 w.dk.lg.f,.list (w.dk.td.map Word.e),.list (w.hs.map House.e),.list (w.ns.map Word.e)]=some (bb w).e:=by
 rw[q_fc]
 unfold F_fc
 have L0:∀ w:Wd,WOk w->aJ (fun ps=>uu ((aa ps 0).toInt) ((aa ps 1).toBool) ((aa ps 2).toInt) ((aa ps 3).toList) ((aa ps 4).toList) ((aa ps 5).toList) ((aa ps 6).toList))
   [.int .i64 0,.bool w.dk.up,.int .i64 w.dk.lg.f,.list (w.dk.lg.rs.map Rec.e),.list (w.dk.td.map Word.e),.list (w.hs.map House.e),.list (w.ns.map Word.e)]=some (.ret (aY w).e):=by
  intro w ow
  rw[<-si ow]
  refine ar (l:=([0,1,2,3]:List Int)) (enc:=fun i (w:Wd)=>[.int .i64 i,.bool w.dk.up,.int .i64 w.dk.lg.f,.list (w.dk.lg.rs.map Rec.e),.list (w.dk.td.map Word.e),.list (w.hs.map House.e),.list (w.ns.map Word.e)]) (res:=fun xs _ w=>.ret (xs.foldl cH w).e) (fun _ w=>WOk w) (s:=w) ow ?_ ?_
  ·intro i x xs w hx ow
   have hi:(i:Int)<=3/\x=(i:Int):=by
    have:=(List.getElem?_eq_some_iff.1 hx).1
    simp at this
    have h4:i=0\/i=1\/i=2\/i=3:=by omega
    rcases h4 with e|e|e|e<;>subst e<;>simp at hx<;>subst hx<;>simp
   obtain⟨hi,rfl⟩:=hi
   have he:=ou (up:=w.dk.up) (rs:=w.dk.lg.rs) (f:=w.dk.lg.f) (td:=w.dk.td) (hs:=w.hs) (ns:=w.ns) ow.len (fun x hx=>by have:=(ow.ws.hs x hx).1;exact this) (i:=(i:Int)) ⟨by omega,hi⟩
   refine .inl ⟨cH w i,?_,ow.forceEv _,rfl⟩
   simp only[aa,C.toInt_int,C.toBool_bool,C.toList_list]
   unfold uu
   simp only[aP,hi,if_true,he]
   simp only[la,lb,jB]
   simp only[Wd.e,bO,aa,C.toInt_int,C.toList_list,C.toBool_bool]
   rw[al (by omega)]
  ·intro w ow
   have h:¬ (((4:Nat):Int)<=3):=by omega
   simp only[List.length_cons,List.length_nil,Wd.e,aa,C.toInt_int,C.toBool_bool,C.toList_list]
   unfold uu
   simp only[aP,h,if_false]
   rfl
 have L1:∀(l:List Word) (w:Wd),l.length<=1000->WOk w->(∀ x∈l,WdOk x)->aJ (fun ps=>uw (l.map Word.e) ((aa ps 0).toInt) ((aa ps 1).toBool) ((aa ps 2).toInt) ((aa ps 3).toList) ((aa ps 4).toList) ((aa ps 5).toList) ((aa ps 6).toList))
   [.int .i64 0,.bool w.dk.up,.int .i64 w.dk.lg.f,.list (w.dk.lg.rs.map Rec.e),.list (w.dk.td.map Word.e),.list (w.hs.map House.e),.list (w.ns.map Word.e)]=some (.ret (aY (cI w l)).e):=by
  intro l w hl ow hw
  refine ar (l:=l) (enc:=fun i (w:Wd)=>[.int .i64 i,.bool w.dk.up,.int .i64 w.dk.lg.f,.list (w.dk.lg.rs.map Rec.e),.list (w.dk.td.map Word.e),.list (w.hs.map House.e),.list (w.ns.map Word.e)]) (res:=fun xs _ w=>.ret (aY (cI w xs)).e) (fun _ w=>WOk w) (s:=w) ow ?_ ?_
  ·intro i x xs w hx ow
   have hi:=(List.getElem?_eq_some_iff.1 hx).1
   have hi':(i:Int)<(l.length:Nat):=by omega
   have hxo:=hw x (List.mem_of_getElem? hx)
   have htd:∀ {v:Wd},WOk v->v.dk.td.length<=1099511627774:=fun h=>by have:=h.dk.tdlen;omega
   have hhe:=lR (up:=w.dk.up) (rs:=w.dk.lg.rs) (f:=w.dk.lg.f) (td:=w.dk.td) (hs:=w.hs) (ns:=w.ns) (k:=x.k) (h:=x.h) (t:=x.t) (m:=x.m) ow (htd ow) hxo
   have o2:=ow.hear hxo
   refine .inl ⟨bq w x,?_,ow.hear2 hxo,rfl⟩
   simp only[aa,C.toInt_int,C.toBool_bool,C.toList_list]
   unfold uw
   have hd:(decide ((0:Int)<=(i:Int)) && decide ((i:Int)<(((l.map Word.e).length:Nat):Int)))=true:=by simp;omega
   rw[z5 (by omega) (by simpa using hx)]
   simp only[List.length_map]at hd
   simp only[List.length_map,aP,hi',if_true,hd,du,Word.e,aa,C.toInt_int,hhe]
   simp only[la,lb,jB,uH]
   unfold bq
   generalize bo w x=q at o2 ⊢
   obtain⟨q1,q2⟩:=q
   rw[al (by omega)]
   cases q2 with
   | none =>
    simp only[oW,Word.e,Wd.e,List.cons_append,List.nil_append,Option.isSome_none]
    rw[ba rfl]
    rfl
   | some y =>
    have hq:WOk q1:=o2.1
    have hyo:=(o2.2 y rfl).1
    have h4:=(o2.2 y rfl).2
    have hy:=lR (up:=q1.dk.up) (rs:=q1.dk.lg.rs) (f:=q1.dk.lg.f) (td:=q1.dk.td) (hs:=q1.hs) (ns:=q1.ns) (k:=y.k) (h:=y.h) (t:=y.t) (m:=y.m) hq (htd hq) hyo
    simp only[oW,Word.e,Wd.e,List.cons_append,List.nil_append,Option.isSome_some,Option.getD_some]
    rw[ba rfl]
    simp only[aa,C.toBool_bool,C.toList_list,C.toInt_int,aB,hy]
    simp only[la,lb,uH,jB]
    generalize bo q1 y=r
    obtain⟨r1,r2⟩:=r
    simp only[Word.e,Wd.e,List.cons_append,List.nil_append]
    rw[ba rfl]
    rfl
  ·intro w ow
   have h:¬ ((l.length:Int)<(l.length:Nat)):=by omega
   simp only[aa,C.toInt_int,C.toBool_bool,C.toList_list]
   unfold uw
   simp only[List.length_map,aP,h,if_false]
   exact congrArg upD (L0 w ow)
 have or:=pu ho
 have hnl:=ho.nlen
 refine Eq.trans (congrArg ah (ar (l:=w.hs) (enc:=fun i (s:List House)=>[.int .i64 i,.list ((s++w.hs.drop i).map House.e)]) (res:=fun xs _ s=>.ret (aY (cI ⟨ej w.dk,s++xs.map fj,[]⟩ (w.ns++aV (ej w.dk)))).e) (fun i s=>s=(w.hs.take i).map fj) (s:=[]) (by simp) ?_ ?_)) ?_
 ·intro i x xs s hx hs
  have hi:=(List.getElem?_eq_some_iff.1 hx).1
  have hsl:s.length=i:=by rw[hs];simp;omega
  have hi':(i:Int)<((s++w.hs.drop i).length:Nat):=by rw[List.length_append,List.length_drop];omega
  have hxr:(s++w.hs.drop i)[i]?=some x:=by
   rw[List.getElem?_append_right (by omega),hsl,Nat.sub_self,List.getElem?_drop,Nat.add_zero];exact hx
  have hd:(decide ((0:Int)<=(i:Int)) && decide ((i:Int)<((s++w.hs.drop i).length:Nat)))=true:=by simp only[Bool.and_eq_true,decide_eq_true_eq];omega
  refine .inl ⟨s++[fj x],?_,?_,by simp⟩
  ·simp only[aa,C.toInt_int,C.toList_list]
   unfold zM
   rw[fB hxr]
   simp only[List.length_map,aP,hi',if_true,hd,du,House.e,aa,C.toInt_int,C.toBool_bool,C.toList_list,BEq.rfl]
   have h3:=ho.len
   rw[al (by omega)]
   have hset:((s++w.hs.drop i).map House.e).set (Int.toNat (i:Int)) [.int .i64 x.id,.bool true,.int .i64 x.room,.list (x.lg.rs.map Rec.e),.int .i64 x.lg.f]=((s++[fj x])++w.hs.drop (i+1)).map House.e:=by
    rw[show [C.int .i64 x.id,C.bool true,C.int .i64 x.room,C.list (x.lg.rs.map Rec.e),C.int .i64 x.lg.f]=(fj x).e from rfl,<-List.map_set,Int.toNat_natCast,List.set_append_right _ _ (by omega),hsl,Nat.sub_self,List.drop_eq_getElem_cons hi]
    simp only[List.set_cons_zero,List.map_append,List.map_cons,List.append_assoc,List.cons_append,List.nil_append,List.map_nil]
   rw[hset]
   simp
  ·rw[hs,List.take_add_one,hx];simp
 ·intro s hs
  have hs':s=w.hs.map fj:=by rw[hs,List.take_length]
  have h:¬ ((w.hs.length:Int)<(w.hs.length:Nat)):=by omega
  simp only[List.drop_length,List.append_nil,aa,C.toInt_int,C.toList_list]
  unfold zM
  have hsl:s.length=w.hs.length:=by rw[hs'];simp
  simp only[List.length_map,hsl,aP,h,if_false]
  have hdw:=ib or.dk
  have htd:=ho.dk.tdlen
  have hdr:DkOk ⟨true,⟨w.dk.lg.rs,w.dk.lg.f⟩,w.dk.td⟩:=ho.dk.rise
  have hwd:=oq hdr (by omega)
  have hdd:(aV (ej w.dk)).length<=18:=hdw
  have e1:(⟨true,⟨w.dk.lg.rs,w.dk.lg.f⟩,w.dk.td⟩:Desk)=ej w.dk:=rfl
  rw[e1]at hwd
  have hc1:w.ns.length<=1099511627776:=by omega
  have hc2:w.ns.length+(aV (ej w.dk)).length<=1099511627776:=by omega
  simp (disch:=first|assumption|omega|(simp only[zL];omega)) only[hwd,hc1,hc2,Int.reduceEq,reduceIte,zU,zT,aa]
  rw[<-List.map_append]
  have o3:WOk ⟨ej w.dk,s,[]⟩:=by rw[hs'];exact⟨or.dk,or.len,or.hs,by simp,by simp⟩
  have:=L1 (w.ns++aV (ej w.dk)) ⟨ej w.dk,s,[]⟩ (by rw[List.length_append];omega) o3 (fun x hx=>by
   rcases List.mem_append.1 hx with h|h
   ·exact ho.ns x h
   ·exact(ep or.dk h).1)
  simp only[List.map_nil]at this
  have hle:w.ns.length+(aV (ej w.dk)).length<=1099511627776:=hc2
  simp only[decide_true,du,List.map_nil,List.append_nil]
  exact congrArg upD this
 ·rfl
theorem sX(hw:WS w){r:Int} :
  ru [.bool w.dk.up,.list (w.dk.lg.rs.map Rec.e),.int .i64 w.dk.lg.f,.list (w.dk.td.map Word.e),.list (w.hs.map House.e),.list (w.ns.map Word.e),.int .i64 r]=some (if bZ w && in_ r 0 9 then bu w r.toNat else wd0).e:=by
 rw[q_cu]
 unfold F_cu
 rw[ju hw]
 cases hok:bZ w with
 | false=>rfl
 | true =>
  have ho:=worldOk_iff.1 hok
  simp only[nt,aa,C.toBool_bool,Bool.not_true,ay,b8]
  cases hr:in_ r 0 9 with
  | false=>rfl
  | true =>
   have hr:=in_iff.1 hr
   simp only[Bool.not_true,ay,Bool.and_self,if_true]
   rw[sn hw]
   obtain⟨n,rfl⟩:∃ n:Nat,r=n:=⟨r.toNat,by omega⟩
   simp only[Wd.e,bO,aa,C.toInt_int,C.toList_list,C.toBool_bool]
   refine Eq.trans (congrArg ah (ar (l:=List.replicate n ()) (enc:=fun i (w:Wd)=>[.int .i64 i,.bool w.dk.up,.int .i64 w.dk.lg.f,.list (w.dk.lg.rs.map Rec.e),.list (w.dk.td.map Word.e),.list (w.hs.map House.e),.list (w.ns.map Word.e)]) (res:=fun xs _ v=>.ret (bu v xs.length).e) (fun _ v=>WOk v) (s:=w) ho ?_ ?_)) ?_
   ·intro i x xs w hx ow
    have hi:=(List.getElem?_eq_some_iff.1 hx).1
    rw[List.length_replicate]at hi
    have hi':(i:Int)<(n:Nat):=by omega
    refine .inl ⟨bb w,?_,ow.round,rfl⟩
    simp only[aa,C.toInt_int,C.toBool_bool,C.toList_list]
    unfold zN
    simp only[aP,hi',if_true,Ca ow]
    simp only[Wd.e,bO,aa,C.toInt_int,C.toList_list,C.toBool_bool]
    rw[al (by omega)]
   ·intro v ow
    have h:¬ ((n:Int)<(n:Nat)):=by omega
    simp only[List.length_replicate,Wd.e,aa,C.toInt_int,C.toBool_bool,C.toList_list]
    unfold zN
    simp only[aP,h,if_false]
    rfl
   ·rw[List.length_replicate];rfl
end
end Dx
namespace Dx
open Go
section
variable {bs:List Int}
def WOut(bs:List Int)(p:Int)(r:Option (List C)):Prop:=∃(x:Word) (p':Int),r=some (x.e++[.list (bs.map eB),.int .i64 p'])/\p<=p'/\p'<=p+10
theorem WOut.ite{p:Int}{c:Prop}[Decidable c]{a b:Option (List C)}(ha:WOut bs p a)(hb:WOut bs p b):WOut bs p (if c then a else b):=by split<;>assumption
theorem FZ{p p' k h t m:Int}(h1:p<=p')(h2:p'<=p+10):WOut bs p (some [.int .i64 k,.int .i64 h,.int .i64 t,.int .i64 m,.list (bs.map eB),.int .i64 p']):=⟨⟨k,h,t,m⟩,p',rfl,h1,h2⟩
theorem Cb(hb:Rd bs){p:Int}(h0:0<=p)(h1:p<=800000000):WOut bs p (ug [.list (bs.map eB),.int .i64 p]):=by
 rw[q_fh]
 obtain⟨pk,hpk⟩:=ij hb
 have q:=fun p n h0 h1 h2=>(hpk p n h0 h1 h2).1
 have j:∀(k h t m p':Int),p<=p'->p'<=p+5->WOut bs p (ah (zr k h t m (bs.map eB) p')):=by
  intro k h t m p' g1 g2
  unfold zr
  simp (disch:=first|assumption|omega|(simp only[zL];omega)) only[q,Int.reduceEq,reduceIte,zU,zT,aa]
  exact WOut.ite (FZ (by omega) (by omega)) (WOut.ite (FZ (by omega) (by omega)) (WOut.ite (FZ (by omega) (by omega)) (WOut.ite (FZ (by omega) (by omega)) (FZ (by omega) (by omega)))))
 simp (disch:=first|assumption|omega|(simp only[zL];omega)) only[F_fh,q,Int.reduceEq,reduceIte,zU,zT,aa]
 split
 ·exact j _ _ _ _ _ (by omega) (by omega)
 ·exact j _ _ _ _ _ (by omega) (by omega)
def MOut(bs:List Int)(p:Int)(r:Option (List C)):Prop:=∃(m:List Int) (p':Int),r=some [.list (m.map eI),.list (bs.map eB),.int .i64 p']/\p<=p'/\p'<=p+10/\m.length<=3
theorem MOut.ite{p:Int}{c:Prop}[Decidable c]{a b:Option (List C)}(ha:MOut bs p a)(hb:MOut bs p b):MOut bs p (if c then a else b):=by split<;>assumption
theorem row3{a b c i:Int}(h0:0<=i)(h3:i<3){kk:IntKind}:∃ x,(∀ f:List C->Option Out,aI (.list [[.int .i64 a],[.int .i64 b],[.int .i64 c]]) (.int kk i) [.int .i64] f=f [.int .i64 x]):=by
 obtain⟨n,rfl⟩:=Int.eq_ofNat_of_zero_le h0
 rcases (show n=0\/n=1\/n=2 by omega)with e|e|e<;>subst e
 ·exact⟨a,fun _=>rfl⟩
 ·exact⟨b,fun _=>rfl⟩
 ·exact⟨c,fun _=>rfl⟩
theorem set3{a b c i x:Int}(h0:0<=i)(h3:i<3):∃ m:List Int,setRow 0 [[C.int .i64 a],[.int .i64 b],[.int .i64 c]] (Int.toNat i) [.int .i64 x]=m.map eI/\m.length=3:=by
 obtain⟨n,rfl⟩:=Int.eq_ofNat_of_zero_le h0
 rcases (show n=0\/n=1\/n=2 by omega)with e|e|e<;>subst e
 ·exact⟨[x,b,c],rfl,rfl⟩
 ·exact⟨[a,x,c],rfl,rfl⟩
 ·exact⟨[a,b,x],rfl,rfl⟩
theorem setN{m:List Int}{i x:Int}(h0:0<=i)(h3:i<m.length):∃ m':List Int,setRow 0 (m.map eI) (Int.toNat i) [.int .i64 x]=m'.map eI/\m'.length=m.length:=by
 have hx:m[i.toNat]?=some (m[i.toNat]'(by omega)):=List.getElem?_eq_getElem (by omega)
 exact⟨m.set i.toNat x,dL hx rfl,by simp⟩
theorem oI(hb:Rd bs){p p':Int}{m:List Int}(h0:0<=p)(h1:p<=800000000)(g1:p<=p')(g2:p'<=p+5)(hm:m.length=3):MOut bs p (ah (zZ (m.map eI) (bs.map eB) p')):=by
 obtain⟨pk,hpk⟩:=ij hb
 have q:=fun p n h0 h1 h2=>(hpk p n h0 h1 h2).1
 unfold zZ
 simp (disch:=first|assumption|omega|(simp only[zL];omega)) only[q,List.length_map,hm,Int.reduceEq,reduceIte,zU,zT,aa]
 have k1:=hpk (p'+1) 3 (by omega) (by omega) (by omega)
 have k2:=hpk (p'+1+1) 3 (by omega) (by omega) (by omega)
 have u1:=k1.2.2.1 (by omega)
 have u2:=k2.2.2.1 (by omega)
 refine MOut.ite ?_ (MOut.ite ?_ (MOut.ite ?_ ?_))
 ·obtain⟨x,e1⟩:=row3 (a:=-1) (b:=3) (c:=4) (kk:=.i64) k2.2.1 u2
  obtain⟨m',s1,s2⟩:=setN (m:=m) (x:=x) k1.2.1 (by omega)
  rw[bE (by simp only[Bool.and_eq_true,decide_eq_true_eq];omega),e1,bE (by simp only[Bool.and_eq_true,decide_eq_true_eq];omega)]
  simp only[aa,C.toInt_int,s1]
  exact⟨m',p'+1+1+1,rfl,by omega,by omega,by omega⟩
 ·exact⟨m.drop 1,p'+1,by simp,by omega,by omega,by simp;omega⟩
 ·exact⟨[0,0,0],p'+1,rfl,by omega,by omega,by simp⟩
 ·exact⟨m,p'+1,rfl,by omega,by omega,by omega⟩
theorem row3a{a b c:Int}{f:List C->Option Out}:aI (.list [[.int .i64 a],[.int .i64 b],[.int .i64 c]]) (.int .i64 0) [.int .i64] f=f [.int .i64 a]:=rfl
theorem row3b{a b c:Int}{f:List C->Option Out}:aI (.list [[.int .i64 a],[.int .i64 b],[.int .i64 c]]) (.int .i64 1) [.int .i64] f=f [.int .i64 b]:=rfl
theorem row3c{a b c:Int}{f:List C->Option Out}:aI (.list [[.int .i64 a],[.int .i64 b],[.int .i64 c]]) (.int .i64 2) [.int .i64] f=f [.int .i64 c]:=rfl
theorem Cc(hb:Rd bs){p:Int}(h0:0<=p)(h1:p<=800000000):MOut bs p (yi [.list (bs.map eB),.int .i64 p]):=by
 rw[q_ef]
 obtain⟨pk,hpk⟩:=ij hb
 have q:=fun p n h0 h1 h2=>(hpk p n h0 h1 h2).1
 have a1:=hpk p 3 (by omega) (by omega) (by omega)
 have a2:=hpk (p+1) 3 (by omega) (by omega) (by omega)
 have a3:=hpk (p+1+1) 3 (by omega) (by omega) (by omega)
 have a4:=hpk (p+1+1+1) 3 (by omega) (by omega) (by omega)
 have u1:=a1.2.2.1 (by omega)
 have u2:=a2.2.2.1 (by omega)
 have u3:=a3.2.2.1 (by omega)
 have u4:=a4.2.2.1 (by omega)
 have v1:=a1.2.1
 have v2:=a2.2.1
 have v3:=a3.2.1
 have v4:=a4.2.1
 simp (disch:=first|assumption|omega|(simp only[zL];omega)) only[F_ef,q,row3a,row3b,row3c,wrap64,Int.reduceEq,reduceIte,zU,zT,aa]
 simp only[dK,fC,bc,aa,C.toInt_int,C.toList_list,eG]
 have e3:∀ a b c:Int,[[C.int .i64 a],[C.int .i64 b],[C.int .i64 c]]=[a,b,c].map eI:=fun _ _ _=>rfl
 refine MOut.ite ?_ ?_
 ·obtain⟨m',s1,s2⟩:=set3 (a:=pk p 3) (b:=pk (p+1) 3) (c:=pk (p+1+1) 3) (x:=1) v4 u4
  rw[s1]
  exact oI hb (p:=p) h0 h1 (by omega) (by omega) s2
 ·rw[e3]
  exact oI hb (p:=p) h0 h1 (by omega) (by omega) rfl
theorem Cd(a b c d:Int)(l:List (List C))(e:Int)(f:List C->Option Out):ac (some [.int .i64 a,.int .i64 b,.int .i64 c,.int .i64 d,.list l,.int .i64 e]) [.int .i64,.int .i64,.int .i64,.int .i64,.list,.int .i64] f=f [.int .i64 a,.int .i64 b,.int .i64 c,.int .i64 d,.list l,.int .i64 e]:=ba rfl
theorem v9(a:Bool)(l:List (List C))(b:Int)(m n o q:List (List C))(e:Int)(f:List C->Option Out):ac (some [.bool a,.list l,.int .i64 b,.list m,.list n,.list o,.list q,.int .i64 e]) [.bool,.list,.int .i64,.list,.list,.list,.list,.int .i64] f=f [.bool a,.list l,.int .i64 b,.list m,.list n,.list o,.list q,.int .i64 e]:=ba rfl
structure WdS (w:Wd):Prop extends WS w where
 bare:DkOk ⟨w.dk.up,⟨w.dk.lg.rs,w.dk.lg.f⟩,[]⟩
 tl:w.dk.td.length<=1000
 ns5:w.ns.length<=1000
theorem WOk.wds{w:Wd}(h:WOk w):WdS w:={h.ws with bare:=h.dk.bare,tl:=by have:=h.dk.tdlen;omega,ns5:=by have:=h.nlen;omega}
def WdOut(bs:List Int)(r:Option (List C)):Prop:=∃(w:Wd) (p':Int),r=some (w.e++[.list (bs.map eB),.int .i64 p'])/\0<=p'/\p'<=5000/\WdS w
theorem WdOut.ite{c:Prop}[Decidable c]{a b:Option (List C)}(ha:WdOut bs a)(hb:WdOut bs b):WdOut bs (if c then a else b):=by split<;>assumption
theorem Dj(m:List House):(m.map House.e).all (aj [.int .i64,.bool,.int .i64,.list,.int .i64])=true:=by
 rw[List.all_map,List.all_eq_true];intro x _;rfl
theorem oJ(hb:Rd bs){p:Int}(h0:0<=p)(h1:p<=100):WdOut bs (nH [.list (bs.map eB),.int .i64 p]):=by
 rw[q_dp]
 obtain⟨pk,hpk⟩:=ij hb
 have q:=fun p n h0 h1 h2=>(hpk p n h0 h1 h2).1
 obtain⟨a,b,c,w0,es,w,p',hp,_,_,_,_,_,_,hw0,hd,hp0,hp1⟩:=rW hb (p:=p) (by omega) (by omega)
 simp only[Wd.e,List.cons_append,List.nil_append]at hp
 have ow:WOk w:=by rw[hd.play];exact(bN hw0).plays es
 have hds:=ow.wds
 have h3:=ow.len
 have hnl:=ow.nlen
 have htd:=ow.dk.tdlen
 obtain⟨x,px,hx,hx1,hx2⟩:=Cb hb (p:=p'+1) (by omega) (by omega)
 simp only[Word.e,List.cons_append,List.nil_append]at hx
 have hc1:w.ns.length+1<=1099511627776:=by omega
 have hc2:w.dk.td.length+1<=1099511627776:=by omega
 have k1:(1:Int)<=((w.hs.length:Nat):Int):=by omega
 have k0:(0:Int)<((w.hs.length:Nat):Int):=by omega
 obtain⟨y,ys,hys⟩:∃ y ys,w.hs=y::ys:=by
  match hq:w.hs,h3 with
  | y::ys,_=>exact⟨y,ys,rfl⟩
 have hrow:∀ f:List C->Option Out,aI (.list (w.hs.map House.e)) (.int .i64 0) [.int .i64,.bool,.int .i64,.list,.int .i64] f=f y.e:=fun f=>by rw[hys];rfl
 simp (disch:=first|assumption|omega|(simp only[zL];omega)) only[F_dp,hp,q,hx,Cd,Dj,k1,k0,hrow,House.e,hc1,hc2,Int.reduceLE,decide_true,Bool.and_self,Int.reduceEq,reduceIte,zU,zT,aa]
 refine WdOut.ite ?_ (WdOut.ite ?_ (WdOut.ite ?_ (WdOut.ite ?_ (WdOut.ite ?_ ?_))))
 ·refine⟨⟨w.dk,w.hs.drop 1,w.ns⟩,p'+1,by simp[Wd.e],by omega,by omega,{hds with hs:=fun x hx=>hds.hs x (List.mem_of_mem_drop hx),hl:=by simp;omega}⟩
 ·refine⟨⟨w.dk,w.hs,w.ns++[x]⟩,px,by simp[Wd.e,Word.e],by omega,by omega,{hds with nl:=by simp;omega,ns5:=by simp;omega}⟩
 ·have r:=hpk (p'+1) 3 (by omega) (by omega) (by omega)
  refine⟨⟨w.dk,⟨y.id,y.up,pk (p'+1) 3,y.lg⟩::ys,w.ns⟩,p'+1+1,by rw[hys];rfl,by omega,by omega,{hds with hs:=fun x hx=>?_,hl:=by have:=h3;rw[hys,List.length_cons]at this;show ys.length+1<=2000000;omega}⟩
  rcases List.mem_cons.1 hx with e|hx
  ·subst e;exact hds.hs y (by rw[hys];simp)
  ·exact hds.hs x (by rw[hys];simp[hx])
 ·refine⟨⟨⟨w.dk.up,w.dk.lg,w.dk.td++[x]⟩,w.hs,w.ns⟩,px,by simp[Wd.e,Word.e],by omega,by omega,{hds with dk:=⟨hds.dk.lg,by simp;omega⟩,tl:=by simp;omega}⟩
 ·have key:=tv (F:=fun ps=>zt w.dk.up (w.dk.lg.rs.map Rec.e) w.dk.lg.f (w.dk.td.map Word.e) (w.hs.map House.e) (bs.map eB) (p'+1) ((aa ps 0).toList))
   (I:=fun k ps=>∃ ns:List Word,ps=[.list (ns.map Word.e)]/\ns.length+k=15)
   (Q:=fun o=>∃ ns:List Word,o=.ret ([.bool w.dk.up,.list (w.dk.lg.rs.map Rec.e),.int .i64 w.dk.lg.f,.list (w.dk.td.map Word.e),.list (w.hs.map House.e),.list (ns.map Word.e)]++[.list (bs.map eB),.int .i64 (p'+1+1)])/\ns.length<=15) ?_ (15-w.ns.length) _ ⟨w.ns,rfl,by omega⟩
  ·obtain⟨o,g1,ns,rfl,g2⟩:=key
   refine⟨⟨w.dk,w.hs,ns⟩,p'+1+1,by rw[g1];rfl,by omega,by omega,{hds with nl:=by simp only;omega,ns5:=by simp only;omega}⟩
  ·rintro k ps ⟨ns,rfl,hk⟩
   simp only[aa,C.toList_list]
   unfold zt
   have r:=hpk (p'+1) 2 (by omega) (by omega) (by omega)
   have r1:=r.2.2.1 (by omega)
   have r0:=r.2.1
   by_cases h14:((ns.length:Nat):Int)<=14
   ·left
    have hc:ns.length+1<=1099511627776:=by omega
    simp (disch:=first|assumption|omega|(simp only[zL];omega)) only[h14,hc,if_true,Int.reduceEq,reduceIte,zU,zT,aa]
    exact⟨_,k-1,by omega,rfl,ns++[⟨3,1,1,0⟩],by simp[Word.e],by simp;omega⟩
   ·right
    have hw1:IntKind.wrap .i64 (14+pk (p'+1) 2)=14+pk (p'+1) 2:=wrap64 (by omega) (by omega)
    have hu1:(0:Int)<=14+pk (p'+1) 2:=by omega
    have hu2:14+pk (p'+1) 2<=((ns.length:Nat):Int):=by omega
    simp (disch:=first|assumption|omega|(simp only[zL];omega)) only[h14,if_false,q,hw1,hu1,hu2,decide_true,Bool.and_self,Int.reduceEq,reduceIte,zU,zT,aa]
    refine⟨_,rfl,ns.take (14+pk (p'+1) 2).toNat,by simp,by simp;omega⟩
 ·exact⟨w,p'+1,rfl,by omega,by omega,hds⟩
theorem qn{code:List Int}(hl:code.length<=1099511627776)(hc:∀ b∈code,0<=b/\b<=255) :
  ∃(w:Wd) (e:Ev),rB [.list (code.map eB)]=some (w.e++e.e)/\WS w/\EvS e:=by
 rw[q_bm]
 obtain⟨bs,hb,ho⟩:=pC hl hc
 obtain⟨pk,hpk⟩:=ij hb
 have q:=fun p n h0 h1 h2=>(hpk p n h0 h1 h2).1
 obtain⟨w,p,hw,hp0,hp1,hws⟩:=oJ hb (p:=0) (by omega) (by omega)
 simp only[Wd.e,List.cons_append,List.nil_append]at hw
 obtain⟨e,p2,he,he1,he2,he3⟩:=me hb hp0 (by omega) hws.bare hws.tl hws.ns5
 simp only[Ev.e,List.cons_append,List.nil_append]at he
 obtain⟨m,p3,hm,hm1,hm2,hm3⟩:=Cc hb (p:=p2+1) (by omega) (by omega)
 have r:=hpk (p2+1) 3 (by omega) (by omega) (by omega)
 have r1:=r.2.2.1 (by omega)
 have r0:=r.2.1
 obtain⟨x,ex⟩:=row3 (a:=0) (b:=10) (c:=-1) (kk:=.i64) r0 r1
 obtain⟨y,ey⟩:=row3 (a:=-1) (b:=4) (c:=20) (kk:=.i64) r0 r1
 have r1':pk (p2+1) 3<((0+1+1+1:Nat):Int):=by omega
 simp (disch:=first|assumption|omega|(simp only[zL];omega)) only[F_bm,ho,hw,he,hm,q,v9,ex,ey,r0,r1',decide_true,Bool.and_self,Int.reduceEq,reduceIte,zU,zT,aa]
 have wout:∀(k a b:Int) (m:List Int),m.length<=2000000->∃(w':Wd) (e':Ev),(some [C.bool w.dk.up,C.list (w.dk.lg.rs.map Rec.e),C.int .i64 w.dk.lg.f,C.list (w.dk.td.map Word.e),C.list (w.hs.map House.e),C.list (w.ns.map Word.e),C.int .i64 k,C.int .i64 a,C.int .i64 b,C.list (m.map eI)]:Option (List C))=some (w'.e++e'.e)/\WS w'/\EvS e' :=
  fun k a b m hm=>⟨w,⟨k,a,b,m⟩,rfl,hws.toWS,hm⟩
 by_cases c0:pk p2 20=0
 ·simp only[c0,if_true];exact wout _ _ _ _ he3
 ·simp only[c0,if_false]
  by_cases c1:pk p2 20=1
  ·simp only[c1,if_true];exact wout _ _ _ _ he3
  ·simp only[c1,if_false]
   by_cases c2:pk p2 20=2
   ·simp only[c2,if_true];exact wout _ _ _ _ (by omega)
   ·simp only[c2,if_false];exact wout _ _ _ _ he3
theorem row7{a b c d e g h i:Int}(h0:0<=i)(h7:i<7){kk:IntKind}:∃ x,(∀ f:List C->Option Out,aI (.list [[.int .i64 a],[.int .i64 b],[.int .i64 c],[.int .i64 d],[.int .i64 e],[.int .i64 g],[.int .i64 h]]) (.int kk i) [.int .i64] f=f [.int .i64 x]):=by
 obtain⟨n,rfl⟩:=Int.eq_ofNat_of_zero_le h0
 rcases (show n=0\/n=1\/n=2\/n=3\/n=4\/n=5\/n=6 by omega)with e'|e'|e'|e'|e'|e'|e'<;>subst e'
 ·exact⟨a,fun _=>rfl⟩
 ·exact⟨b,fun _=>rfl⟩
 ·exact⟨c,fun _=>rfl⟩
 ·exact⟨d,fun _=>rfl⟩
 ·exact⟨e,fun _=>rfl⟩
 ·exact⟨g,fun _=>rfl⟩
 ·exact⟨h,fun _=>rfl⟩
theorem mV{code:List Int}(hl:code.length<=1099511627776)(hc:∀ b∈code,0<=b/\b<=255) :
  ∃(w:Wd) (r:Int),xg [.list (code.map eB)]=some (w.e++[.int .i64 r])/\WS w:=by
 rw[q_ay]
 obtain⟨bs,hb,ho⟩:=pC hl hc
 obtain⟨pk,hpk⟩:=ij hb
 have q:=fun p n h0 h1 h2=>(hpk p n h0 h1 h2).1
 obtain⟨w,p,hw,hp0,hp1,hws⟩:=oJ hb (p:=0) (by omega) (by omega)
 simp only[Wd.e,List.cons_append,List.nil_append]at hw
 have r:=hpk p 7 (by omega) (by omega) (by omega)
 have r1:=r.2.2.1 (by omega)
 have r0:=r.2.1
 obtain⟨x,ex⟩:=row7 (a:=0) (b:=1) (c:=2) (d:=4) (e:=9) (g:=10) (h:=-1) (kk:=.i64) r0 r1
 have r1':pk p 7<((0+1+1+1+1+1+1+1:Nat):Int):=by omega
 simp (disch:=first|assumption|omega|(simp only[zL];omega)) only[F_ay,ho,hw,q,v9,ex,r0,r1',decide_true,Bool.and_self,dK,Int.reduceEq,reduceIte,zU,zT,aa]
 exact⟨w,x,rfl,hws.toWS⟩
end
end Dx
namespace Dx
open Go
theorem uJ{x:Wd}(hx:WS x):cY (x.e++x.e)=some [.bool true]:=by
 have:=oG (w:=x) (w':=x) hx.dk hx.hs hx.hl hx.nl
 simp only[decide_true]at this
 exact this
theorem JV{code:List Int}(hl:code.length<=1099511627776)(hc:fQ code):∃(w:Wd) (e:Ev),WS w/\EvS e ∧
  rB [.list (code.map eB)]=some [.bool w.dk.up,.list (w.dk.lg.rs.map Rec.e),.int .i64 w.dk.lg.f,.list (w.dk.td.map Word.e),.list (w.hs.map House.e),.list (w.ns.map Word.e),.int .i64 e.k,.int .i64 e.a,.int .i64 e.b,.list (e.m.map eI)] ∧
  iG [.bool w.dk.up,.list (w.dk.lg.rs.map Rec.e),.int .i64 w.dk.lg.f,.list (w.dk.td.map Word.e),.list (w.hs.map House.e),.list (w.ns.map Word.e)]=some [.bool (bZ w)]/\∃ x:Wd,WS x/\(bZ w=false->x=wd0)/\(bZ w=true->x=wdo w e) ∧
  dI [.bool w.dk.up,.list (w.dk.lg.rs.map Rec.e),.int .i64 w.dk.lg.f,.list (w.dk.td.map Word.e),.list (w.hs.map House.e),.list (w.ns.map Word.e),.int .i64 e.k,.int .i64 e.a,.int .i64 e.b,.list (e.m.map eI)]=some x.e ∧
  nN [.bool w.dk.up,.list (w.dk.lg.rs.map Rec.e),.int .i64 w.dk.lg.f,.list (w.dk.td.map Word.e),.list (w.hs.map House.e),.list (w.ns.map Word.e),.int .i64 e.k,.int .i64 e.a,.int .i64 e.b,.list (e.m.map eI)]=some x.e ∧
  cY (x.e++x.e)=some [.bool true]:=by
 obtain⟨w,e,hd,hw,he⟩:=qn hl hc
 have hx:WS (if bZ w then wdo w e else wd0):=by
  split
  ·rename_i h;exact((worldOk_iff.1 h).do_ e).ws
  ·exact⟨⟨⟨by simp[wd0],by simp[wd0]⟩,by simp[wd0]⟩,by simp[wd0],by simp[wd0],by simp[wd0]⟩
 refine⟨w,e,hw,he,hd,ju hw,_,hx,fun h=>by rw[h];rfl,fun h=>by rw[h];rfl,yN hw he,oH hw he,uJ hx⟩
def D0(t:Tree):Tree :=
 .letp .len [⟨.list,(.v 0)⟩]<|
 .letp .gtI [⟨(.int .i64),(.v 1)⟩,⟨(.int .i64),(.n 1048576)⟩]<|
 .ite (.v 2) (
 .ret [⟨.bool,(.b true)⟩])<|
 .call 0 [⟨.list,(.v 0)⟩] [.bool,.list,(.int .i64),.list,.list,.list,(.int .i64),(.int .i64),(.int .i64),.list]<|
 .call 1 [⟨.bool,(.v 3)⟩,⟨.list,(.v 4)⟩,⟨(.int .i64),(.v 5)⟩,⟨.list,(.v 6)⟩,⟨.list,(.v 7)⟩,⟨.list,(.v 8)⟩,⟨(.int .i64),(.v 9)⟩,⟨(.int .i64),(.v 10)⟩,⟨(.int .i64),(.v 11)⟩,⟨.list,(.v 12)⟩] [.bool,.list,(.int .i64),.list,.list,.list]<|
 .call 2 [⟨.bool,(.v 3)⟩,⟨.list,(.v 4)⟩,⟨(.int .i64),(.v 5)⟩,⟨.list,(.v 6)⟩,⟨.list,(.v 7)⟩,⟨.list,(.v 8)⟩,⟨(.int .i64),(.v 9)⟩,⟨(.int .i64),(.v 10)⟩,⟨(.int .i64),(.v 11)⟩,⟨.list,(.v 12)⟩] [.bool,.list,(.int .i64),.list,.list,.list]<|
 .call 3 [⟨.bool,(.v 13)⟩,⟨.list,(.v 14)⟩,⟨(.int .i64),(.v 15)⟩,⟨.list,(.v 16)⟩,⟨.list,(.v 17)⟩,⟨.list,(.v 18)⟩,⟨.bool,(.v 19)⟩,⟨.list,(.v 20)⟩,⟨(.int .i64),(.v 21)⟩,⟨.list,(.v 22)⟩,⟨.list,(.v 23)⟩,⟨.list,(.v 24)⟩] [.bool]<|
 .letp .not [⟨.bool,(.v 25)⟩]<|
 .ite (.v 26) (
 .call 2 [⟨.bool,(.v 3)⟩,⟨.list,(.v 4)⟩,⟨(.int .i64),(.v 5)⟩,⟨.list,(.v 6)⟩,⟨.list,(.v 7)⟩,⟨.list,(.v 8)⟩,⟨(.int .i64),(.v 9)⟩,⟨(.int .i64),(.v 10)⟩,⟨(.int .i64),(.v 11)⟩,⟨.list,(.v 12)⟩] [.bool,.list,(.int .i64),.list,.list,.list]<|
 .call 3 [⟨.bool,(.v 13)⟩,⟨.list,(.v 14)⟩,⟨(.int .i64),(.v 15)⟩,⟨.list,(.v 16)⟩,⟨.list,(.v 17)⟩,⟨.list,(.v 18)⟩,⟨.bool,(.v 27)⟩,⟨.list,(.v 28)⟩,⟨(.int .i64),(.v 29)⟩,⟨.list,(.v 30)⟩,⟨.list,(.v 31)⟩,⟨.list,(.v 32)⟩] [.bool]<|
 .ret [⟨.bool,(.v 33)⟩])<|
 .call 4 [⟨.bool,(.v 3)⟩,⟨.list,(.v 4)⟩,⟨(.int .i64),(.v 5)⟩,⟨.list,(.v 6)⟩,⟨.list,(.v 7)⟩,⟨.list,(.v 8)⟩] [.bool]<|
 .letp .not [⟨.bool,(.v 27)⟩]<|
 .ite (.v 28) (
 .call 2 [⟨.bool,(.v 3)⟩,⟨.list,(.v 4)⟩,⟨(.int .i64),(.v 5)⟩,⟨.list,(.v 6)⟩,⟨.list,(.v 7)⟩,⟨.list,(.v 8)⟩,⟨(.int .i64),(.v 9)⟩,⟨(.int .i64),(.v 10)⟩,⟨(.int .i64),(.v 11)⟩,⟨.list,(.v 12)⟩] [.bool,.list,(.int .i64),.list,.list,.list]<|
 .call 3 [⟨.bool,(.v 13)⟩,⟨.list,(.v 14)⟩,⟨(.int .i64),(.v 15)⟩,⟨.list,(.v 16)⟩,⟨.list,(.v 17)⟩,⟨.list,(.v 18)⟩,⟨.bool,(.v 29)⟩,⟨.list,(.v 30)⟩,⟨(.int .i64),(.v 31)⟩,⟨.list,(.v 32)⟩,⟨.list,(.v 33)⟩,⟨.list,(.v 34)⟩] [.bool]<|
 .ret [⟨.bool,(.v 35)⟩]) t
def sq(t:Tree):Tree :=
 .letp .len [⟨.list,(.v 0)⟩]<|
 .letp .gtI [⟨(.int .i64),(.v 2)⟩,⟨(.int .i64),(.n 1048576)⟩]<|
 .ite (.v 3) (
 .ret [⟨.bool,(.b true)⟩])<|
 .letp .len [⟨.list,(.v 1)⟩]<|
 .letp .gtI [⟨(.int .i64),(.v 4)⟩,⟨(.int .i64),(.n 1048576)⟩]<|
 .ite (.v 5) (
 .ret [⟨.bool,(.b true)⟩])<|
 .call 0 [⟨.list,(.v 0)⟩] [.bool,.list,(.int .i64),.list,.list,.list,(.int .i64)]<|
 .call 1 [⟨.bool,(.v 6)⟩,⟨.list,(.v 7)⟩,⟨(.int .i64),(.v 8)⟩,⟨.list,(.v 9)⟩,⟨.list,(.v 10)⟩,⟨.list,(.v 11)⟩,⟨(.int .i64),(.v 12)⟩] [.bool,.list,(.int .i64),.list,.list,.list]<|
 .call 2 [⟨.bool,(.v 6)⟩,⟨.list,(.v 7)⟩,⟨(.int .i64),(.v 8)⟩,⟨.list,(.v 9)⟩,⟨.list,(.v 10)⟩,⟨.list,(.v 11)⟩,⟨(.int .i64),(.v 12)⟩] [.bool,.list,(.int .i64),.list,.list,.list]<|
 .call 3 [⟨.bool,(.v 13)⟩,⟨.list,(.v 14)⟩,⟨(.int .i64),(.v 15)⟩,⟨.list,(.v 16)⟩,⟨.list,(.v 17)⟩,⟨.list,(.v 18)⟩,⟨.bool,(.v 19)⟩,⟨.list,(.v 20)⟩,⟨(.int .i64),(.v 21)⟩,⟨.list,(.v 22)⟩,⟨.list,(.v 23)⟩,⟨.list,(.v 24)⟩] [.bool]<|
 .letp .not [⟨.bool,(.v 25)⟩]<|
 .ite (.v 26) (
 .call 2 [⟨.bool,(.v 6)⟩,⟨.list,(.v 7)⟩,⟨(.int .i64),(.v 8)⟩,⟨.list,(.v 9)⟩,⟨.list,(.v 10)⟩,⟨.list,(.v 11)⟩,⟨(.int .i64),(.v 12)⟩] [.bool,.list,(.int .i64),.list,.list,.list]<|
 .call 3 [⟨.bool,(.v 13)⟩,⟨.list,(.v 14)⟩,⟨(.int .i64),(.v 15)⟩,⟨.list,(.v 16)⟩,⟨.list,(.v 17)⟩,⟨.list,(.v 18)⟩,⟨.bool,(.v 27)⟩,⟨.list,(.v 28)⟩,⟨(.int .i64),(.v 29)⟩,⟨.list,(.v 30)⟩,⟨.list,(.v 31)⟩,⟨.list,(.v 32)⟩] [.bool]<|
 .ret [⟨.bool,(.v 33)⟩])<|
 .call 4 [⟨.bool,(.v 6)⟩,⟨.list,(.v 7)⟩,⟨(.int .i64),(.v 8)⟩,⟨.list,(.v 9)⟩,⟨.list,(.v 10)⟩,⟨.list,(.v 11)⟩] [.bool]<|
 .letp .not [⟨.bool,(.v 27)⟩]<|
 .ite (.v 28) (
 .call 2 [⟨.bool,(.v 6)⟩,⟨.list,(.v 7)⟩,⟨(.int .i64),(.v 8)⟩,⟨.list,(.v 9)⟩,⟨.list,(.v 10)⟩,⟨.list,(.v 11)⟩,⟨(.int .i64),(.v 12)⟩] [.bool,.list,(.int .i64),.list,.list,.list]<|
 .call 3 [⟨.bool,(.v 13)⟩,⟨.list,(.v 14)⟩,⟨(.int .i64),(.v 15)⟩,⟨.list,(.v 16)⟩,⟨.list,(.v 17)⟩,⟨.list,(.v 18)⟩,⟨.bool,(.v 29)⟩,⟨.list,(.v 30)⟩,⟨(.int .i64),(.v 31)⟩,⟨.list,(.v 32)⟩,⟨.list,(.v 33)⟩,⟨.list,(.v 34)⟩] [.bool]<|
 .ret [⟨.bool,(.v 35)⟩]) t
section
variable {Φ:Phi} {f:Nat} {xs:List Cell} {ks:List CK} {t e b:Tree} {env r cs:List C} {F:List C->Option (List C)} {X:Option (List C)} {a:At} {p:Prim} {v:C}
theorem sc(hΦ:Φ f=F)(h:F cs=some r)(ha:ax env xs=cs)(hk:aj ks r=true)(g:ah (den Φ t (env++r))=X):ah (den Φ (.call f xs ks t) env)=X:=by
 rw[ap,hΦ,ha,h,ba hk];exact g
theorem st(h:(a.den env).toBool=true)(g:ah (den Φ t env)=X):ah (den Φ (.ite a t e) env)=X:=by rw[aE,h];exact g
theorem sf(h:(a.den env).toBool=false)(g:ah (den Φ e env)=X):ah (den Φ (.ite a t e) env)=X:=by rw[aE,h];exact g
theorem sl(h:p.den (ax env xs)=v)(g:ah (den Φ t (env++[v]))=X):ah (den Φ (.letp p xs t) env)=X:=by rw[aq,h];exact g
theorem sk(h:(p.den (ax env xs)).toBool=true)(g:ah (den Φ t env)=X):ah (den Φ (.chk p xs t) env)=X:=by rw[aN,h];exact g
theorem sj(h:den Φ b env=some (.jump cs))(hk:aj ks cs=true)(g:ah (den Φ t (env++cs))=X):ah (den Φ (.join ks b t) env)=X:=by
 rw[aD,h];simp only[bc,iz hk];exact g
theorem dc{Y:Option Out}(hΦ:Φ f=F)(h:F cs=some r)(ha:ax env xs=cs)(hk:aj ks r=true)(g:den Φ t (env++r)=Y):den Φ (.call f xs ks t) env=Y:=by
 rw[ap,hΦ,ha,h,ba hk];exact g
theorem dl{Y:Option Out}(h:p.den (ax env xs)=v)(g:den Φ t (env++[v])=Y):den Φ (.letp p xs t) env=Y:=by rw[aq,h];exact g
theorem dj(h:ax env xs=cs):den Φ (.jump xs) env=some (.jump cs):=by rw[aC,h]
theorem tC(h:ax env xs=cs):ah (den Φ (.ret xs) env)=some cs:=by rw[aK,h];rfl
end
def Fe(code:List Int)(w:Wd)(e:Ev)(x:Wd):List C :=
 [.list (code.map eB),.int .i64 ((code.map eB).length:Nat),.bool false,
  .bool w.dk.up,.list (w.dk.lg.rs.map Rec.e),.int .i64 w.dk.lg.f,.list (w.dk.td.map Word.e),.list (w.hs.map House.e),.list (w.ns.map Word.e),
  .int .i64 e.k,.int .i64 e.a,.int .i64 e.b,.list (e.m.map eI),
  .bool x.dk.up,.list (x.dk.lg.rs.map Rec.e),.int .i64 x.dk.lg.f,.list (x.dk.td.map Word.e),.list (x.hs.map House.e),.list (x.ns.map Word.e),
  .bool x.dk.up,.list (x.dk.lg.rs.map Rec.e),.int .i64 x.dk.lg.f,.list (x.dk.td.map Word.e),.list (x.hs.map House.e),.list (x.ns.map Word.e),.bool true,.bool false,.bool true,.bool false]
def wa(code more:List Int)(w:Wd)(r:Int)(x:Wd):List C :=
 [.list (code.map eB),.list (more.map eB),.int .i64 ((code.map eB).length:Nat),.bool false,.int .i64 ((more.map eB).length:Nat),.bool false,
  .bool w.dk.up,.list (w.dk.lg.rs.map Rec.e),.int .i64 w.dk.lg.f,.list (w.dk.td.map Word.e),.list (w.hs.map House.e),.list (w.ns.map Word.e),.int .i64 r,
  .bool x.dk.up,.list (x.dk.lg.rs.map Rec.e),.int .i64 x.dk.lg.f,.list (x.dk.td.map Word.e),.list (x.hs.map House.e),.list (x.ns.map Word.e),
  .bool x.dk.up,.list (x.dk.lg.rs.map Rec.e),.int .i64 x.dk.lg.f,.list (x.dk.td.map Word.e),.list (x.hs.map House.e),.list (x.ns.map Word.e),.bool true,.bool false,.bool true,.bool false]
section
variable {Φ:Phi} {t:Tree} {code more:List Int}
theorem oK(h0:Φ 0=rB)(h1:Φ 1=dI)(h2:Φ 2=nN)(h3:Φ 3=cY)(h4:Φ 4=iG)
  (hl:code.length<=1099511627776) (hc:fQ code)
  (ht:∀(w:Wd) (e:Ev) (x:Wd),WOk w->EvS e->x=wdo w e->ah (den Φ t (Fe code w e x))=some [.bool true]) :
  ah (den Φ (D0 t) [.list (code.map eB)])=some [.bool true]:=by
 obtain⟨w,e,hw,he,hd,hok,x,hx,x0,x1,p1,p2,hn⟩:=JV hl hc
 simp only[Wd.e,List.cons_append,List.nil_append]at p1 p2 hn
 unfold D0
 refine sl rfl ?_
 by_cases hbig:(((code.map eB).length:Nat):Int)>1048576
 ·exact sl (congrArg C.bool (decide_eq_true hbig)) (st rfl (tC rfl))
 refine sl (congrArg C.bool (decide_eq_false hbig)) (sf rfl (sc h0 hd rfl rfl (sc h1 p1 rfl rfl (sc h2 p2 rfl rfl (sc h3 hn rfl rfl (sl rfl (sf rfl ?_)))))))
 cases hwo:bZ w with
 | false =>
  rw[hwo]at hok
  exact sc h4 hok rfl rfl (sl rfl (st rfl (sc h2 p2 rfl rfl (sc h3 hn rfl rfl (tC rfl)))))
 | true =>
  rw[hwo]at hok
  exact sc h4 hok rfl rfl (sl rfl (sf rfl (ht w e x (worldOk_iff.1 hwo) he (x1 hwo))))
set_option maxHeartbeats 2000000 in
theorem qo(h0:Φ 0=xg)(h1:Φ 1=db)(h2:Φ 2=ru)(h3:Φ 3=cY)(h4:Φ 4=iG)
  (hl:code.length<=1099511627776) (hc:fQ code)
  (ht:∀(w:Wd) (r:Int) (x:Wd),more.length<=1048576->WOk w->WS x->x=(if in_ r 0 9 then bu w r.toNat else wd0) ->
   ru [.bool w.dk.up,.list (w.dk.lg.rs.map Rec.e),.int .i64 w.dk.lg.f,.list (w.dk.td.map Word.e),.list (w.hs.map House.e),.list (w.ns.map Word.e),.int .i64 r]=some x.e ->
   ah (den Φ t (wa code more w r x))=some [.bool true]) :
  ah (den Φ (sq t) [.list (code.map eB),.list (more.map eB)])=some [.bool true]:=by
 obtain⟨w,r,hd,hw⟩:=mV hl hc
 have p1:=sW hw (r:=r)
 have p2:=sX hw (r:=r)
 have hok:=ju hw
 obtain⟨x,hx⟩:∃ x,x=(if bZ w && in_ r 0 9 then bu w r.toNat else wd0):=⟨_,rfl⟩
 rw[<-hx]at p1 p2
 have hxs:WS x:=by
  rw[hx];split
  ·rename_i h
   simp only[Bool.and_eq_true]at h
   exact((worldOk_iff.1 h.1).calm _).ws
  ·exact⟨⟨⟨by simp[wd0],by simp[wd0]⟩,by simp[wd0]⟩,by simp[wd0],by simp[wd0],by simp[wd0]⟩
 have hn:=uJ hxs
 have p2':=p2
 simp only[Wd.e,List.cons_append,List.nil_append]at p1 p2 hn hd
 unfold sq
 refine sl rfl ?_
 by_cases hbig:(((code.map eB).length:Nat):Int)>1048576
 ·exact sl (congrArg C.bool (decide_eq_true hbig)) (st rfl (tC rfl))
 refine sl (congrArg C.bool (decide_eq_false hbig)) (sf rfl (sl rfl ?_))
 by_cases hbig2:(((more.map eB).length:Nat):Int)>1048576
 ·exact sl (congrArg C.bool (decide_eq_true hbig2)) (st rfl (tC rfl))
 refine sl (congrArg C.bool (decide_eq_false hbig2)) (sf rfl (sc h0 hd rfl rfl (sc h1 p1 rfl rfl (sc h2 p2 rfl rfl (sc h3 hn rfl rfl (sl rfl (sf rfl ?_)))))))
 rw[List.length_map]at hbig2
 cases hwo:bZ w with
 | false =>
  rw[hwo]at hok
  exact sc h4 hok rfl rfl (sl rfl (st rfl (sc h2 p2 rfl rfl (sc h3 hn rfl rfl (tC rfl)))))
 | true =>
  rw[hwo]at hok
  rw[hwo,Bool.true_and]at hx
  exact sc h4 hok rfl rfl (sl rfl (sf rfl (ht w r x (by omega) (worldOk_iff.1 hwo) hxs hx p2')))
end
end Dx
