import Derived.Test.YtgnkmfmdoibifaaGreatTa
import Derived.Test.YtgnkmfmdoibifaaGreatYq1
import Derived.Test.YtgnkmfmdoibifaaGreatYq2
import Derived.Test.YtgnkmfmdoibifaaGreatYq3
set_option linter.all false
namespace Dx
open Go
theorem aE{x:Int}(h1:-9223372036854775808<=x)(h2:x<=9223372036854775807):IntKind.wrap .i64 x=x:=by
 have e:IntKind.wrap .i64 x=if x % 18446744073709551616>=9223372036854775808 then x % 18446744073709551616-18446744073709551616 else x % 18446744073709551616:=by
  simp[IntKind.wrap,IntKind.bits,IntKind.signed]
 rw[e]
 split<;>omega
theorem yv{i:Nat}(h:i<=bd):IntKind.wrap .i64 ((i:Int)+1)=((i+1:Nat):Int):=by
 rw[aE]<;>(simp[bd]at h;omega)
theorem bv{cs:List C}{ks:List CK}{f:List C->Option Out}(hk:ah ks cs=true):ac (some cs) ks f=f cs:=by
 simp only[ac,af,hk,iH hk]
theorem Ac(x0:List (List C))(f:List C->Option Out):ac (some [.list x0]) [.list] f=f [.list x0]:=rfl
theorem qb(x0:Bool)(f:List C->Option Out):ac (some [.bool x0]) [.bool] f=f [.bool x0]:=rfl
theorem cd_i(x0:Int)(f:List C->Option Out):ac (some [.int .i64 x0]) [(.int .i64)] f=f [.int .i64 x0]:=rfl
theorem ET(x0:List (List C))(x1:Bool)(f:List C->Option Out):ac (some [.list x0,.bool x1]) [.list,.bool] f=f [.list x0,.bool x1]:=rfl
theorem cd_bb(x0:Bool)(x1:Bool)(f:List C->Option Out):ac (some [.bool x0,.bool x1]) [.bool,.bool] f=f [.bool x0,.bool x1]:=rfl
theorem EU(x0:List (List C))(x1:Int)(f:List C->Option Out):ac (some [.list x0,.int .i64 x1]) [.list,(.int .i64)] f=f [.list x0,.int .i64 x1]:=rfl
theorem cd_il(x0:Int)(x1:List (List C))(f:List C->Option Out):ac (some [.int .i64 x0,.list x1]) [(.int .i64),.list] f=f [.int .i64 x0,.list x1]:=rfl
theorem Fv(x0:List (List C))(x1:Int)(x2:Bool)(f:List C->Option Out):ac (some [.list x0,.int .i64 x1,.bool x2]) [.list,(.int .i64),.bool] f=f [.list x0,.int .i64 x1,.bool x2]:=rfl
theorem Fw(x0:List (List C))(x1:List (List C))(x2:Int)(f:List C->Option Out):ac (some [.list x0,.list x1,.int .i64 x2]) [.list,.list,(.int .i64)] f=f [.list x0,.list x1,.int .i64 x2]:=rfl
theorem Fx(x0:Int)(x1:List (List C))(x2:Bool)(f:List C->Option Out):ac (some [.int .i64 x0,.list x1,.bool x2]) [(.int .i64),.list,.bool] f=f [.int .i64 x0,.list x1,.bool x2]:=rfl
theorem Fy(x0:Int)(x1:List (List C))(x2:Int)(f:List C->Option Out):ac (some [.int .i64 x0,.list x1,.int .i64 x2]) [(.int .i64),.list,(.int .i64)] f=f [.int .i64 x0,.list x1,.int .i64 x2]:=rfl
theorem Fz(x0:Int)(x1:Int)(x2:List (List C))(f:List C->Option Out):ac (some [.int .i64 x0,.int .i64 x1,.list x2]) [(.int .i64),(.int .i64),.list] f=f [.int .i64 x0,.int .i64 x1,.list x2]:=rfl
theorem qc(x0:Bool)(x1:List (List C))(x2:Int)(x3:List (List C))(f:List C->Option Out):ac (some [.bool x0,.list x1,.int .i64 x2,.list x3]) [.bool,.list,(.int .i64),.list] f=f [.bool x0,.list x1,.int .i64 x2,.list x3]:=rfl
theorem gY(x0:Bool)(x1:List (List C))(x2:Int)(x3:List (List C))(x4:Bool)(f:List C->Option Out):ac (some [.bool x0,.list x1,.int .i64 x2,.list x3,.bool x4]) [.bool,.list,(.int .i64),.list,.bool] f=f [.bool x0,.list x1,.int .i64 x2,.list x3,.bool x4]:=rfl
theorem jJ(x0:Bool)(x1:Bool)(x2:List (List C))(x3:Int)(x4:List (List C))(f:List C->Option Out):ac (some [.bool x0,.bool x1,.list x2,.int .i64 x3,.list x4]) [.bool,.bool,.list,(.int .i64),.list] f=f [.bool x0,.bool x1,.list x2,.int .i64 x3,.list x4]:=rfl
theorem dM(x0:Bool)(x1:List (List C))(x2:Int)(x3:List (List C))(x4:List (List C))(x5:List (List C))(f:List C->Option Out):ac (some [.bool x0,.list x1,.int .i64 x2,.list x3,.list x4,.list x5]) [.bool,.list,(.int .i64),.list,.list,.list] f=f [.bool x0,.list x1,.int .i64 x2,.list x3,.list x4,.list x5]:=rfl
theorem zp(x0:Int)(x1:Bool)(x2:Int)(x3:List (List C))(x4:Int)(f:List C->Option Out):ac (some [.int .i64 x0,.bool x1,.int .i64 x2,.list x3,.int .i64 x4]) [(.int .i64),.bool,(.int .i64),.list,(.int .i64)] f=f [.int .i64 x0,.bool x1,.int .i64 x2,.list x3,.int .i64 x4]:=rfl
theorem vf(x0:Bool)(x1:List (List C))(x2:Int)(x3:List (List C))(x4:List (List C))(x5:List (List C))(x6:Bool)(f:List C->Option Out):ac (some [.bool x0,.list x1,.int .i64 x2,.list x3,.list x4,.list x5,.bool x6]) [.bool,.list,(.int .i64),.list,.list,.list,.bool] f=f [.bool x0,.list x1,.int .i64 x2,.list x3,.list x4,.list x5,.bool x6]:=rfl
theorem zq(x0:Int)(x1:Int)(x2:Int)(x3:Int)(x4:Bool)(f:List C->Option Out):ac (some [.int .i64 x0,.int .i64 x1,.int .i64 x2,.int .i64 x3,.bool x4]) [(.int .i64),(.int .i64),(.int .i64),(.int .i64),.bool] f=f [.int .i64 x0,.int .i64 x1,.int .i64 x2,.int .i64 x3,.bool x4]:=rfl
theorem kp(x0:Int)(x1:Bool)(x2:Int)(x3:List (List C))(x4:Int)(x5:Bool)(f:List C->Option Out):ac (some [.int .i64 x0,.bool x1,.int .i64 x2,.list x3,.int .i64 x4,.bool x5]) [(.int .i64),.bool,(.int .i64),.list,(.int .i64),.bool] f=f [.int .i64 x0,.bool x1,.int .i64 x2,.list x3,.int .i64 x4,.bool x5]:=rfl
theorem pn(x0:Int)(x1:Int)(x2:Int)(x3:List (List C))(x4:List (List C))(x5:Int)(f:List C->Option Out):ac (some [.int .i64 x0,.int .i64 x1,.int .i64 x2,.list x3,.list x4,.int .i64 x5]) [(.int .i64),(.int .i64),(.int .i64),.list,.list,(.int .i64)] f=f [.int .i64 x0,.int .i64 x1,.int .i64 x2,.list x3,.list x4,.int .i64 x5]:=rfl
theorem nU(x0:List (List C))(x1:List (List C))(x2:Bool)(x3:List (List C))(x4:Int)(x5:List (List C))(x6:List (List C))(x7:List (List C))(x8:List (List C))(x9:Int)(f:List C->Option Out):ac (some [.list x0,.list x1,.bool x2,.list x3,.int .i64 x4,.list x5,.list x6,.list x7,.list x8,.int .i64 x9]) [.list,.list,.bool,.list,(.int .i64),.list,.list,.list,.list,(.int .i64)] f=f [.list x0,.list x1,.bool x2,.list x3,.int .i64 x4,.list x5,.list x6,.list x7,.list x8,.int .i64 x9]:=rfl
theorem lT(x0:Bool)(x1:List (List C))(x2:Int)(x3:List (List C))(x4:List (List C))(x5:List (List C))(x6:Int)(x7:Int)(x8:Int)(x9:Int)(x10:Bool)(f:List C->Option Out):ac (some [.bool x0,.list x1,.int .i64 x2,.list x3,.list x4,.list x5,.int .i64 x6,.int .i64 x7,.int .i64 x8,.int .i64 x9,.bool x10]) [.bool,.list,(.int .i64),.list,.list,.list,(.int .i64),(.int .i64),(.int .i64),(.int .i64),.bool] f=f [.bool x0,.list x1,.int .i64 x2,.list x3,.list x4,.list x5,.int .i64 x6,.int .i64 x7,.int .i64 x8,.int .i64 x9,.bool x10]:=rfl
theorem nV(x0:Int)(x1:Bool)(x2:Int)(x3:List (List C))(x4:Int)(x5:Int)(x6:Int)(x7:Int)(x8:Int)(x9:Bool)(f:List C->Option Out):ac (some [.int .i64 x0,.bool x1,.int .i64 x2,.list x3,.int .i64 x4,.int .i64 x5,.int .i64 x6,.int .i64 x7,.int .i64 x8,.bool x9]) [(.int .i64),.bool,(.int .i64),.list,(.int .i64),(.int .i64),(.int .i64),(.int .i64),(.int .i64),.bool] f=f [.int .i64 x0,.bool x1,.int .i64 x2,.list x3,.int .i64 x4,.int .i64 x5,.int .i64 x6,.int .i64 x7,.int .i64 x8,.bool x9]:=rfl
theorem mh{es:List (List C)}{i:Int}{r:List C}(h0:0<=i)(hx:es[i.toNat]?=some r){kk:IntKind}{ks:List CK}{f:List C->Option Out}(hk:ah ks r=true):aO (.list es) (.int kk i) ks f=f r:=by
 obtain⟨n,rfl⟩:=Int.eq_ofNat_of_zero_le h0
 unfold aO
 simp only[C.toInt,C.toList]
 show (match es[n]? with|some r=>af (ah ks r) (f (bL r 0 ks))|none=>none)=f r
 rw[show es[n]?=some r from hx]
 simp only[af,hk,iH hk]
theorem fg{α:Type}{e:α->List C}{l:List α}{i:Nat}{x:α}(hx:l[i]?=some x){kk:IntKind}{ks:List CK}{f:List C->Option Out}(hk:ah ks (e x)=true):aO (.list (l.map e)) (.int kk i) ks f=f (e x) :=
 mh (by omega) (by simp[hx]) hk
theorem dm{α:Type}{e:α->List C}{l:List α}{i:Int}{x:α}(h0:0<=i)(hx:l[i.toNat]?=some x){kk:IntKind}{ks:List CK}{f:List C->Option Out}(hk:ah ks (e x)=true):aO (.list (l.map e)) (.int kk i) ks f=f (e x) :=
 mh h0 (by simp[hx]) hk
theorem kq{α σ:Type}{F:List C->Option Out}{l:List α}{enc:Nat->σ->List C}{res:List α->Nat->σ->Out}{P:Nat->σ->Prop}
  (hs:∀(i:Nat) (x:α) (xs:List α) (s:σ),l[i]?=some x->P i s->(∃ s',F (enc i s)=some (.jump (enc (i+1) s'))/\P (i+1) s'/\res (x::xs) i s=res xs (i+1) s')\/(∃ o,F (enc i s)=some (.up o)/\res (x::xs) i s=o))
  (hf:∀ s,P l.length s->F (enc l.length s)=some (.up (res [] l.length s))):∀(n i:Nat) (s:σ),n+i=l.length->P i s->aN F (enc i s)=some (res (l.drop i) i s)
 | 0,i,s,hn,h=>by
  have:i=l.length:=by omega
  subst this
  rw[jS,hf s h,List.drop_of_length_le (Nat.le_refl _)]
  rfl
 | n+1,i,s,hn,h=>by
  have hi:i<l.length:=by omega
  have hx:l[i]?=some l[i]:=by simp[hi]
  rw[jS,List.drop_eq_getElem_cons hi]
  rcases hs i _ (l.drop (i+1)) s hx h with ⟨s',h1,h2,h3⟩|⟨o,h1,h2⟩
  ·rw[h1,h3]
   simp only[bl]
   exact kq hs hf n (i+1) s' (by omega) h2
  ·rw[h1,h2]
   rfl
theorem aL{α σ:Type}{F:List C->Option Out}{l:List α}{enc:Nat->σ->List C}{res:List α->Nat->σ->Out}(P:Nat->σ->Prop){s:σ}(h:P 0 s)
  (hs:∀(i:Nat) (x:α) (xs:List α) (s:σ),l[i]?=some x->P i s->(∃ s',F (enc i s)=some (.jump (enc (i+1) s'))/\P (i+1) s'/\res (x::xs) i s=res xs (i+1) s')\/(∃ o,F (enc i s)=some (.up o)/\res (x::xs) i s=o))
  (hf:∀ s,P l.length s->F (enc l.length s)=some (.up (res [] l.length s))):aN F (enc 0 s)=some (res l 0 s):=by
 have:=kq hs hf l.length 0 s (by omega) h
 simpa using this
def eI(n:Int):List C:=[.int .i64 n]
def eB(n:Int):List C:=[.int .u8 n]
def Rec.e(r:Rec):List C:=[.int .i64 r.k,.int .i64 r.t,.list (r.m.map eI)]
def Log.e(l:Log):List C:=[.list (l.rs.map Rec.e),.int .i64 l.f]
def Hold.e(h:Hold):List C:=[.int .i64 h.m,.int .i64 h.s]
def Stock.e(s:Stock):List C:=[.int .i64 s.room,.list (s.hs.map Hold.e)]
def Word.e(w:Word):List C:=[.int .i64 w.k,.int .i64 w.h,.int .i64 w.t,.int .i64 w.m]
def House.e(h:House):List C:=[.int .i64 h.id,.bool h.up,.int .i64 h.room,.list (h.lg.rs.map Rec.e),.int .i64 h.lg.f]
def Trip.e(t:Trip):List C:=[.list (t.m.map eI),.int .i64 t.s]
def Desk.e(d:Desk):List C:=[.bool d.up,.list (d.lg.rs.map Rec.e),.int .i64 d.lg.f,.list (d.td.map Word.e)]
def Wd.e(w:Wd):List C:=[.bool w.dk.up,.list (w.dk.lg.rs.map Rec.e),.int .i64 w.dk.lg.f,.list (w.dk.td.map Word.e),.list (w.hs.map House.e),.list (w.ns.map Word.e)]
def Ev.e(e:Ev):List C:=[.int .i64 e.k,.int .i64 e.a,.int .i64 e.b,.list (e.m.map eI)]
section
variable {kk:IntKind} {i:Nat} {f:List C->Option Out}
theorem gl{l:List Int}{x:Int}(h:l[i]?=some x):aO (.list (l.map eI)) (.int kk i) [.int .i64] f=f (eI x):=fg h rfl
theorem mi{l:List Rec}{x:Rec}(h:l[i]?=some x):aO (.list (l.map Rec.e)) (.int kk i) [.int .i64,.int .i64,.list] f=f x.e:=fg h rfl
theorem jK{l:List Hold}{x:Hold}(h:l[i]?=some x):aO (.list (l.map Hold.e)) (.int kk i) [.int .i64,.int .i64] f=f x.e:=fg h rfl
theorem io{l:List Word}{x:Word}(h:l[i]?=some x):aO (.list (l.map Word.e)) (.int kk i) [.int .i64,.int .i64,.int .i64,.int .i64] f=f x.e:=fg h rfl
theorem ip{l:List Trip}{x:Trip}(h:l[i]?=some x):aO (.list (l.map Trip.e)) (.int kk i) [.list,.int .i64] f=f x.e:=fg h rfl
theorem fG{l:List House}{x:House}(h:l[i]?=some x):aO (.list (l.map House.e)) (.int kk i) [.int .i64,.bool,.int .i64,.list,.int .i64] f=f x.e:=fg h rfl
end
end Dx
namespace Dx
open Go
@[simp] theorem aD (t e:Option Out):ae true t e=t:=rfl
@[simp] theorem aB (t e:Option Out):ae false t e=e:=rfl
theorem zr(b:Bool)(t e:Option Out):ae (!b) t e=ae b e t:=by cases b<;>rfl
theorem a8(p:Prop)[Decidable p](t e:Option Out):ae (decide p) t e=if p then t else e:=by by_cases h:p<;>simp[h,ae]
theorem Ad(b:Bool)(t e:Option Out):ae b t e=if b=true then t else e:=by cases b<;>rfl
theorem bn(a b:Int)(t e:Option Out):ae (a==b) t e=if a=b then t else e:=by rw[Ad];simp
theorem xq(a b:Int)(t e:Option Out):ae (a != b) t e=if a=b then e else t:=by rw[Ad];by_cases h:a=b<;>simp[h]
theorem bo{b:Bool}{k:Option Out}(h:b=true):af b k=k:=by subst h;rfl
@[simp] theorem az (cs:List C):ai (some (.ret cs))=some cs:=rfl
theorem zt(o:Out):ai (some (.up o))=none:=rfl
@[simp] theorem jY (o:Out):upD (some o)=some (.up o):=rfl
theorem eL(p:Prop)[Decidable p](a b:Option Out):ai (if p then a else b)=if p then ai a else ai b:=by split<;>rfl
theorem al{i:Nat}(h:i<=1099511627776):IntKind.wrap .i64 ((i:Int)+1)=((i+1:Nat):Int):=yv h
theorem fb(t:Option Out):da t t=t:=by unfold da;rw[if_pos rfl]
theorem m9(x w:Word):(([x.k,x.h,x.t,x.m]:List Int)==[w.k,w.h,w.t,w.m])=decide (x=w):=by
 obtain⟨a,b,c,d⟩:=x;obtain⟨a',b',c',d'⟩:=w
 rw[Bool.eq_iff_iff];simp
theorem Ae(s:Stock):(⟨s.room,s.hs⟩:Stock)=s:=rfl
theorem eta_R(s:Rec):(⟨s.k,s.t,s.m⟩:Rec)=s:=rfl
theorem EV(s:Word):(⟨s.k,s.h,s.t,s.m⟩:Word)=s:=rfl
theorem EW(s:Log):(⟨s.rs,s.f⟩:Log)=s:=rfl
theorem EX(s:Desk):(⟨s.up,s.lg,s.td⟩:Desk)=s:=rfl
theorem eta_H(s:House):(⟨s.id,s.up,s.room,s.lg⟩:House)=s:=rfl
theorem eta_T(s:Trip):(⟨s.m,s.s⟩:Trip)=s:=rfl
theorem Af(s:Wd):(⟨s.dk,s.hs,s.ns⟩:Wd)=s:=rfl
theorem FB(s:Ev):(⟨s.k,s.a,s.b,s.m⟩:Ev)=s:=rfl
@[simp] theorem fj (k:Option Out):af true k=k:=rfl
theorem yw{p:Prop}[Decidable p](h:p)(k:Option Out):af (decide p) k=k:=by simp[h,af]
theorem cM{p q:Prop}[Decidable p][Decidable q](h1:p)(h2:q)(k:Option Out):af (decide p && decide q) k=k:=by simp[h1,h2,af]
@[simp] theorem ba (ps:List C) (k:List C->Option Out):bl (some (.jump ps)) k=k ps:=rfl
theorem fO(p:Prop)[Decidable p](a b:Option Out)(k:List C->Option Out):bl (if p then a else b) k=if p then bl a k else bl b k:=by split<;>rfl
theorem Cf{b:Bool}{k:Option Out}(h:b=true):ai (af b k)=ai k:=by subst h;rfl
theorem le_B{i n:Int}(h1:0<=i)(h2:i<=n):(decide ((0:Int)<=i) && decide (i<=n))=true:=by simp[h1,h2]
theorem lt_B{i n:Int}(h1:0<=i)(h2:i<n):(decide ((0:Int)<=i) && decide (i<n))=true:=by simp[h1,h2]
theorem bJ:bd=1099511627776:=rfl
theorem qd(m:List Int):(m.map eI).all (ah [.int .i64])=true:=by simp[List.all_map,eI,ah,fA,el,Function.comp_def]
theorem xr(m:List Word):(m.map Word.e).all (ah [.int .i64,.int .i64,.int .i64,.int .i64])=true:=by simp[List.all_map,Word.e,ah,fA,el,Function.comp_def]
theorem Cg(m:List Rec):(m.map Rec.e).all (ah [.int .i64,.int .i64,.list])=true:=by simp[List.all_map,Rec.e,ah,fA,el,Function.comp_def]
theorem dF{α:Type}{e:α->List C}{l:List α}{off j:Nat}{cs:List C}{x y:α}(hx:l[j]?=some x)(hy:sX (e x) off cs=e y):setRow off (l.map e) j cs=(l.set j y).map e:=by
 unfold setRow
 simp only[List.getElem?_map,hx,Option.map_some,hy,List.map_set]
theorem bV(n lo hi:Int):cK [.int .i64 n,.int .i64 lo,.int .i64 hi]=some [.bool (in_ n lo hi)]:=by
 rw[q_fz]
 simp only[F_fz,ge_iff_le,in_]
 cases decide (lo<=n)<;>rfl
theorem qe{l:List Trip}{t:Int}(h1:1<=t)(h2:t<=l.length):l[(t-1).toNat]?=some (tAt l t):=by rw[wQ (by omega)];exact List.getElem?_eq_getElem (by omega)
theorem qf{l:List Hold}{t:Int}(h1:1<=t)(h2:t<=l.length):l[(t-1).toNat]?=some (hAt l t):=by rw[rh (by omega)];exact List.getElem?_eq_getElem (by omega)
theorem qg{l:List Trip}{t:Int}(h1:1<=t)(h2:t<=l.length){kk:IntKind}{f:List C->Option Out}:aO (.list (l.map Trip.e)) (.int kk (t-1)) [.list,.int .i64] f=f (tAt l t).e :=
 dm (by omega) (qe h1 h2) rfl
theorem y6{l:List Hold}{t:Int}(h1:1<=t)(h2:t<=l.length){kk:IntKind}{f:List C->Option Out}:aO (.list (l.map Hold.e)) (.int kk (t-1)) [.int .i64,.int .i64] f=f (hAt l t).e :=
 dm (by omega) (qf h1 h2) rfl
def zL:=And.intro @List.length_append.{0}<|And.intro @List.length_map.{0,0}<|And.intro @List.length_cons.{0}<|@List.length_nil.{0}
def zS:=And.intro @Bool.and_true<|And.intro @List.length_map.{0,0}<|And.intro @List.length_nil.{0}<|And.intro @List.length_cons.{0}<|@List.nil_append.{0}
def zT:=And.intro zS<|And.intro @zr<|And.intro @aD<|And.intro @aB<|And.intro @Ae<|And.intro @eta_R<|And.intro @EV<|And.intro @EW<|And.intro @EX<|And.intro @eta_H<|And.intro @eta_T<|And.intro @Af<|And.intro @FB<|And.intro @bJ<|And.intro @fj<|And.intro @yw<|And.intro @cM<|And.intro @qd<|And.intro @xr<|And.intro @Cg<|And.intro @az<|And.intro @zt<|And.intro @jY<|And.intro @Cf<|And.intro @ba<|And.intro @Ac<|And.intro @qb<|And.intro @cd_i<|And.intro @ET<|And.intro @cd_bb<|And.intro @EU<|And.intro @cd_il<|And.intro @Fv<|And.intro @Fw<|And.intro @Fx<|And.intro @Fy<|And.intro @Fz<|And.intro @qc<|And.intro @gY<|And.intro @jJ<|And.intro @dM<|And.intro @zp<|And.intro @vf<|And.intro @zq<|And.intro @kp<|And.intro @pn<|And.intro @nU<|And.intro @lT<|And.intro @nV<|And.intro @C.toInt_int<|And.intro @C.toBool_bool<|And.intro @C.toList_list<|@C.toStr_str
def zU:=And.intro @bn<|And.intro @xq<|And.intro @a8<|And.intro @eL<|@fO
theorem sE{l:List Trip}(hl:l.length<=1099511627776){k t:Int}{m:List Int}(hr:aF ⟨k,t,m⟩=true) :
  oE [.list (l.map Trip.e),.int .i64 k,.int .i64 t,.list (m.map eI)]=some [.bool (cg l ⟨k,t,m⟩)]:=by
 have ht:=cE hr
 simp only at ht
 rw[q_ff]
 simp (disch:=first|assumption|omega|(simp only[zL];omega)) only[F_ff,cg,aE,Int.reduceEq,reduceIte,zU,zT,aa]
 split
 ·rfl
 ·split
  ·rfl
  ·simp (disch:=first|assumption|omega|(simp only[zL];omega)) only[qg,Trip.e,Int.reduceEq,reduceIte,zU,zT,aa]
   grind
theorem Ch{l:List Trip}(hl:l.length<=1099511627775){k t:Int}{m:List Int}(hr:aF ⟨k,t,m⟩=true)(hm:cg l ⟨k,t,m⟩=true)(hT:TrOk l) :
  db [.list (l.map Trip.e),.int .i64 k,.int .i64 t,.list (m.map eI)]=some [.list ((cv l ⟨k,t,m⟩).map Trip.e)]:=by
 have ht:=cE hr
 have hml:=eZ hr
 simp only at ht hml
 rw[pU]
 rcases jH hr hm with ⟨h4,h⟩|⟨h1,h2,h⟩
 ·simp only at h4;subst h4
  have c1:decide (([]:List (List C)).length+(m.map eI).length<=bd)=true:=by simp[bJ];omega
  have c2:decide ((l.map Trip.e).length+[[C.list (m.map eI),C.int .i64 1]].length<=bd)=true:=by simp[bJ];omega
  simp only[ga,cv,bn,if_true,bo (qd m),bo c1,List.nil_append,bo c2]
  simp[az,Trip.e]
 ·simp only at h1 h2 h
  have hx:=qe h1 h2
  have hw:IntKind.wrap .i64 (t-1)=t-1:=aE (by omega) (by omega)
  have hb:(decide ((0:Int)<=t-1) && decide (t-1<((l.map Trip.e).length:Nat)))=true:=lt_B (by omega) (by simp;omega)
  have st:∀ s:Int,setRow 1 (l.map Trip.e) (t-1).toNat [C.int .i64 s]=(l.set (t-1).toNat ⟨(tAt l t).m,s⟩).map Trip.e:=fun s=>dF hx rfl
  simp only[ga,hw,cv,bn,bo hb,qg h1 h2,Trip.e,aa,C.toInt,st]
  rcases h with ⟨h|h,_⟩|⟨h,hs⟩
  ·subst h;rfl
  ·subst h;rfl
  ·subst h;rw[aE (by omega) (by omega)];rfl
end Dx
namespace Dx
open Go
theorem zu(m:List Int)(hL:m.length<=1099511627776):tR [.list (m.map eI)]=some [.bool (cQ m)]:=by
 rw[q_fc];unfold F_fc
 have key:=aL (l:=m) (F:=fun ps=>qF (m.map eI) ((aa ps 0).toInt) ((aa ps 1).toInt)) (enc:=fun i (s:Int)=>[.int .i64 s,.int .i64 i])
  (res:=fun xs _ s=>.ret [.bool (xs.all (fun n=>in_ n 0 3) && (m.length==3 && decide (s+xs.sum>0)))]) (fun i s=>0<=s/\s<=3*i) (s:=0) (by simp) ?_ ?_
 ·have key:aN _ [C.int .i64 0,C.int .i64 0]=_:=key
  rw[key];simp[ai,cQ]
 ·intro i x xs s hx ⟨h1,h2⟩
  have hi:=(List.getElem?_eq_some_iff.1 hx).1
  have hi':(i:Int)<(m.length:Nat):=by omega
  simp (disch:=first|assumption|omega|(simp only[zL];omega)) only[qF,gl hx,bV,eI,al,hi',if_true,Int.reduceEq,reduceIte,zU,zT,aa]
  cases hin:in_ x 0 3 with
  | true =>
   have:=in_iff.1 hin
   refine .inl ⟨s+x,?_,by omega,by simp[hin,Int.add_assoc]⟩
   simp (disch:=first|assumption|omega|(simp only[zL];omega)) only[aD,aE]
  | false=>exact .inr ⟨_,rfl,by simp[hin]⟩
 ·intro s _
  have h:¬ ((m.length:Int)<(m.length:Nat)):=by omega
  simp only[qF,h,if_false,Int.reduceEq,reduceIte,zU,zT,aa]
  by_cases h3:m.length=3
  ·have h3':((m.length:Nat):Int)=3:=by omega
   simp[h3,upD]
  ·have h3':¬ ((m.length:Nat):Int)=3:=by omega
   simp[h3,h3',upD]
theorem qh{k t:Int}{m:List Int}(hL:m.length<=1099511627776):lf [.int .i64 k,.int .i64 t,.list (m.map eI)]=some [.bool (aF ⟨k,t,m⟩)]:=by
 rw[q_ft]
 simp (disch:=first|assumption|omega|(simp only[zL];omega)) only[F_ft,bV,zu,aF,Int.reduceEq,reduceIte,zU,zT,aa]
 cases in_ t 1 6 with
 | false=>rfl
 | true =>
  simp only[Bool.true_and]
  by_cases h1:k=1
  ·simp only[h1,if_true]
   match m with
   | []=>rfl
   | [n]=>have hr:∀ f,aO (.list ([n].map eI)) (.int .i64 0) [.int .i64] f=f (eI n):=fun f=>rfl
          simp (disch:=first|assumption|omega|(simp only[zL];omega)) only[hr,eI,bV,Int.reduceEq,reduceIte,zU,zT,aa];rfl
   | a::b::l=>have:¬ ((((a::b::l).length:Nat):Int)=1):=by simp;omega
              simp only[List.length_map,this,if_false];rfl
  ·by_cases h4:k=4
   ·simp[h4,ai]
   ·simp only[h1,h4,if_false]
    cases in_ k 2 7 with
    | false=>rfl
    | true=>cases m with
     | nil=>rfl
     | cons a l=>simp;omega
theorem xt{rs:List Rec}{f k t:Int}{m:List Int}(hL:rs.length<=1099511627775) :
  oG [.list (rs.map Rec.e),.int .i64 f,.int .i64 k,.int .i64 t,.list (m.map eI)]=some [.list ((dA ⟨rs,f⟩ ⟨k,t,m⟩).rs.map Rec.e),.int .i64 f,.bool (l7 ⟨rs,f⟩)]:=by
 rw[q_fx]
 simp (disch:=first|assumption|omega|(simp only[zL];omega)) only[F_fx,dA,l7,Int.reduceEq,reduceIte,zU,zT,aa]
 by_cases h:rs.length>=40
 ·have h':((rs.length:Nat):Int)>=40:=by omega
  simp only[h,h',if_true];simp
 ·have h':¬ (((rs.length:Nat):Int)>=40):=by omega
  simp only[h,h',if_false];simp[Rec.e]
theorem Ci{rs:List Rec}(hL:rs.length<=2000000)(hm:∀ r∈rs,r.m.length<=1099511627776) :
  oF [.list (rs.map Rec.e)]=some [.list (((bb rs).getD []).map Trip.e),.bool (bb rs).isSome]:=by
 rw[q_fu];unfold F_fu
 have key:=aL (l:=rs) (F:=fun ps=>qG (rs.map Rec.e) ((aa ps 0).toInt) ((aa ps 1).toList)) (enc:=fun i (s:List Trip)=>[.int .i64 i,.list (s.map Trip.e)])
  (res:=fun xs _ s=>.ret [.list (((bN xs s).getD []).map Trip.e),.bool (bN xs s).isSome]) (fun _ s=>TrOk s) (s:=[]) TrOk.nil ?_ ?_
 ·have key:aN _ [C.int .i64 0,C.list []]=_:=key
  rw[key];rfl
 ·intro i x xs s hx hs
  have hi:=(List.getElem?_eq_some_iff.1 hx).1
  have hi':(i:Int)<(rs.length:Nat):=by omega
  have hxm:=hm x (List.mem_of_getElem? hx)
  have hsl:=hs.len
  simp (disch:=first|assumption|omega|(simp only[zL];omega)) only[qG,mi hx,Rec.e,qh,al,hi',if_true,Int.reduceEq,reduceIte,zU,zT,aa]
  cases hr:aF ⟨x.k,x.t,x.m⟩with
  | false=>exact .inr ⟨_,rfl,by simp[bN,hr]⟩
  | true =>
   simp (disch:=first|assumption|omega|(simp only[zL];omega)) only[sE,Int.reduceEq,reduceIte,zU,zT,aa]
   cases hmay:cg s ⟨x.k,x.t,x.m⟩with
   | false=>exact .inr ⟨_,rfl,by simp[bN,hr,hmay]⟩
   | true =>
    simp (disch:=first|assumption|omega|(simp only[zL];omega)) only[Ch,Int.reduceEq,reduceIte,zU,zT,aa]
    exact .inl ⟨cv s x,rfl,l9 hs hr hmay,by simp[bN,hr,hmay]⟩
 ·intro s _
  have h:¬ ((rs.length:Int)<(rs.length:Nat)):=by omega
  simp only[qG,h,if_false,Int.reduceEq,reduceIte,zU,zT,aa]
  rfl
def LgS(l:Log):Prop:=l.rs.length<=2000000/\∀ r∈l.rs,r.m.length<=1099511627776
theorem LgOk.S{l:Log}(h:LgOk l):LgS l:=⟨by have:=h.len;omega,fun r hr=>by have:=eZ (h.ok r hr);omega⟩
theorem mj{up:Bool}{rs:List Rec}{f:Int}{b:Bool}(hl:LgS ⟨rs,f⟩)(hf:b=true->0<=f/\f<=rs.length){tl:List (List C)} :
  ep [.bool up,.list (rs.map Rec.e),.int .i64 f,.list tl,.bool b]=some [.list ((aj ⟨rs,f⟩ b).map Trip.e)]:=by
 rw[q_dd]
 have ht:∀ n:Nat,(rs.map Rec.e).take n=(rs.take n).map Rec.e:=fun n=>by simp
 have h1:∀ n:Nat,oF [.list ((rs.take n).map Rec.e)]=_:=fun n=>Ci (by simp;have:=hl.1;simp only at this;omega) (fun r hr=>hl.2 r (List.mem_of_mem_take hr))
 cases b with
 | true =>
  obtain⟨h2,h3⟩:=hf rfl
  simp only[F_dd,List.length_map,bo (le_B h2 h3),ht,h1,aj,aW]
  simp (disch:=first|assumption|omega|(simp only[zL];omega)) only[Int.reduceEq,reduceIte,zU,zT,aa]
 | false =>
  have h2:(0:Int)<=(rs.length:Nat):=by omega
  simp only[F_dd,List.length_map,bo (le_B h2 (Int.le_refl _)),ht,h1,aj,aW]
  simp (disch:=first|assumption|omega|(simp only[zL];omega)) only[Int.reduceEq,reduceIte,zU,zT,aa]
  simp only[Bool.false_eq_true,if_false,List.take_length,Int.toNat_natCast]
theorem gZ{up:Bool}{rs:List Rec}{f:Int}(hl:LgS ⟨rs,f⟩){tl:List (List C)} :
  ep [.bool up,.list (rs.map Rec.e),.int .i64 f,.list tl,.bool false]=some [.list ((aj ⟨rs,f⟩ false).map Trip.e)]:=mj hl (fun h=>by cases h)
theorem sG{up:Bool}{rs:List Rec}{f:Int}(hl:LgOk ⟨rs,f⟩){tl:List (List C)} :
  ep [.bool up,.list (rs.map Rec.e),.int .i64 f,.list tl,.bool true]=some [.list ((aj ⟨rs,f⟩ true).map Trip.e)]:=mj hl.S (fun _=>⟨hl.lo,hl.hi⟩)
theorem fe{up:Bool}{rs:List Rec}{f:Int}{td:List Word}(hd:DkOk ⟨up,⟨rs,f⟩,td⟩){k t:Int}{m:List Int}(hr:aF ⟨k,t,m⟩=true) :
  dB [.bool up,.list (rs.map Rec.e),.int .i64 f,.list (td.map Word.e),.int .i64 k,.int .i64 t,.list (m.map eI)]=some ((aZ ⟨up,⟨rs,f⟩,td⟩ ⟨k,t,m⟩).e++[.bool (dZ ⟨up,⟨rs,f⟩,td⟩ ⟨k,t,m⟩)]):=by
 rw[q_ds]
 have h1:=hd.lg.S
 have h2:=hd.trOk false
 have hl2:=h2.len
 have h3:=hd.lg.len
 simp only[ak]at h2 hl2 h3
 simp (disch:=first|assumption|omega|(simp only[zL];omega)) only[F_ds,gZ,sE,xt,aZ,dZ,ak,Int.reduceEq,reduceIte,zU,zT,aa]
 cases up with
 | false=>rfl
 | true =>
  simp only[Bool.true_and]
  cases cg (aj ⟨rs,f⟩ false) ⟨k,t,m⟩with
  | false=>rfl
  | true=>simp only[dA,l7];by_cases h:rs.length>=40<;>simp[h,Desk.e,az]
theorem iq{td:List Word}(hL:td.length<=1099511627775){k h t m:Int} :
  iP [.list (td.map Word.e),.int .i64 k,.int .i64 h,.int .i64 t,.int .i64 m]=some [.bool (td.contains ⟨k,h,t,m⟩)]:=by
 rw[q_eq];unfold F_eq
 have key:=aL (l:=td) (F:=fun ps=>qH (td.map Word.e) k h t m ((aa ps 0).toInt)) (enc:=fun i (_:Unit)=>[.int .i64 i])
  (res:=fun xs _ _=>.ret [.bool (xs.contains ⟨k,h,t,m⟩)]) (fun _ _=>True) (s:=()) trivial ?_ ?_
 ·have key:aN _ [C.int .i64 0]=_:=key
  rw[key];rfl
 ·intro i x xs s hx _
  have hi:=(List.getElem?_eq_some_iff.1 hx).1
  have hi':(i:Int)<(td.length:Nat):=by omega
  have hw:=m9 x ⟨k,h,t,m⟩
  simp only at hw
  simp (disch:=first|assumption|omega|(simp only[zL];omega)) only[qH,io hx,Word.e,al,hi',if_true,hw,Int.reduceEq,reduceIte,zU,zT,aa]
  by_cases e:x=⟨k,h,t,m⟩
  ·exact .inr ⟨_,by rw[if_pos e],by simp[e]⟩
  ·exact .inl ⟨(),by rw[if_neg e],trivial,by simp[Ne.symm e]⟩
 ·intro s _
  have h:¬ ((td.length:Int)<(td.length:Nat)):=by omega
  simp only[qH,h,if_false,Int.reduceEq,reduceIte,zU,zT,aa]
  rfl
theorem sH{k h t m:Int}:oH [.int .i64 k,.int .i64 h,.int .i64 t,.int .i64 m]=some [.bool (b8 ⟨k,h,t,m⟩)]:=by
 rw[q_fg]
 simp (disch:=first|assumption|omega|(simp only[zL];omega)) only[F_fg,bV,b8,Int.reduceEq,reduceIte,zU,zT,aa]
 cases in_ h 1 3<;>cases in_ t 1 6<;>cases in_ k 1 7<;>simp only[aD,aB,Bool.true_and,Bool.false_and,az]
 split<;>rfl
theorem zv{up:Bool}{rs:List (List C)}{f:Int}{td:List Word}(hL:td.length<=1099511627775){t k:Int}{m:List Int}(hm:m.length<=1000) :
  tT [.bool up,.list rs,.int .i64 f,.list (td.map Word.e),.int .i64 t,.list (m.map eI),.int .i64 k]=some [.bool (bf td t k 1 m)]:=by
 rw[q_fl];unfold F_fl
 have key:=aL (l:=m) (F:=fun ps=>qK (td.map Word.e) t (m.map eI) k ((aa ps 0).toInt)) (enc:=fun i (_:Unit)=>[.int .i64 i])
  (res:=fun xs i _=>.ret [.bool (bf td t k ((i+1:Nat):Int) xs)]) (fun _ _=>True) (s:=()) trivial ?_ ?_
 ·have key:aN _ [C.int .i64 0]=_:=key
  rw[key];rfl
 ·intro i x xs s hx _
  have hi:=(List.getElem?_eq_some_iff.1 hx).1
  have hi':(i:Int)<(m.length:Nat):=by omega
  simp (disch:=first|assumption|omega|(simp only[zL];omega)) only[qK,gl hx,eI,al,hi',if_true,iq,Int.reduceEq,reduceIte,zU,zT,aa]
  have e1:((i+1:Nat):Int)+1=((i+1+1:Nat):Int):=by omega
  by_cases hx0:x>0
  ·simp only[hx0,if_true]
   cases hc:td.contains ⟨k,((i+1:Nat):Int),t,0⟩with
   | true=>exact .inr ⟨_,rfl,by simp only[bf,hx0,hc,decide_true,Bool.and_self,Bool.true_or]⟩
   | false=>exact .inl ⟨(),rfl,trivial,by simp only[bf,hx0,hc,e1,Bool.and_false,Bool.false_or]⟩
  ·simp only[hx0,if_false]
   exact .inl ⟨(),by first|rfl|trivial,trivial,by simp only[bf,hx0,e1,decide_false,Bool.false_and,Bool.false_or]⟩
 ·intro s _
  have h:¬ ((m.length:Int)<(m.length:Nat)):=by omega
  simp only[qK,h,if_false,Int.reduceEq,reduceIte,zU,zT,aa]
  rfl
theorem na{up:Bool}{rs:List (List C)}{f:Int}{td:List Word}(hL:td.length<=1099511627775){t k:Int}{m:List Int}(hm:m.length<=1000) :
  lh [.bool up,.list rs,.int .i64 f,.list (td.map Word.e),.int .i64 t,.list (m.map eI),.int .i64 k]=some [.bool (aA td t k 1 m)]:=by
 rw[q_ez];unfold F_ez
 have key:=aL (l:=m) (F:=fun ps=>qL (td.map Word.e) t (m.map eI) k ((aa ps 0).toInt)) (enc:=fun i (_:Unit)=>[.int .i64 i])
  (res:=fun xs i _=>.ret [.bool (aA td t k ((i+1:Nat):Int) xs)]) (fun _ _=>True) (s:=()) trivial ?_ ?_
 ·have key:aN _ [C.int .i64 0]=_:=key
  rw[key];rfl
 ·intro i x xs s hx _
  have hi:=(List.getElem?_eq_some_iff.1 hx).1
  have hi':(i:Int)<(m.length:Nat):=by omega
  simp (disch:=first|assumption|omega|(simp only[zL];omega)) only[qL,gl hx,eI,al,hi',if_true,iq,Int.reduceEq,reduceIte,zU,zT,aa]
  have e1:((i+1:Nat):Int)+1=((i+1+1:Nat):Int):=by omega
  by_cases hx0:x>0
  ·simp only[hx0,if_true]
   cases hc:td.contains ⟨k,((i+1:Nat):Int),t,0⟩with
   | true=>exact .inl ⟨(),rfl,trivial,by simp only[aA,hx0,hc,e1,Bool.or_true,Bool.true_and]⟩
   | false=>exact .inr ⟨_,rfl,by simp only[aA,hx0,hc,decide_true,Bool.not_true,Bool.or_self,Bool.false_and]⟩
  ·simp only[hx0,if_false]
   exact .inl ⟨(),by first|rfl|trivial,trivial,by simp only[aA,hx0,e1,decide_false,Bool.not_false,Bool.true_or,Bool.true_and]⟩
 ·intro s _
  have h:¬ ((m.length:Int)<(m.length:Nat)):=by omega
  simp only[qL,h,if_false,Int.reduceEq,reduceIte,zU,zT,aa]
  rfl
end Dx
namespace Dx
open Go
theorem ml{room:Int}:oC [.int .i64 room]=some ((if in_ room 0 9 then bR room else⟨0,[]⟩).e++[.bool (in_ room 0 9)]):=by
 rw[q_dh]
 simp (disch:=first|assumption|omega|(simp only[zL];omega)) only[F_dh,bV,Int.reduceEq,reduceIte,zU,zT,aa]
 cases in_ room 0 9<;>rfl
theorem sJ{h:Hold}(ho:bg h=true):0<=had h/\had h<=3/\(h.s=1\/h.s=2->had h=h.m)/\0<=h.m/\h.m<=3:=by
 unfold bg at ho
 unfold had
 split at ho
 ·rename_i e;simp at ho;simp[e];omega
 ·split at ho
  ·rename_i e;have h1:=in_iff.1 ho;simp only[e,if_true];exact⟨by omega,by omega,by simp,by omega,by omega⟩
  ·rename_i e;simp only[e,if_false]
   split at ho
   ·have h1:=in_iff.1 ho;exact⟨by omega,by omega,by simp,by omega,by omega⟩
   ·cases ho
theorem zw{room:Int}{hs:List Hold}(hr:0<=room/\room<=9)(ho:∀ h∈hs,bg h=true)(hl:hs.length<=100) :
  tV [.int .i64 room,.list (hs.map Hold.e)]=some [.int .i64 (free ⟨room,hs⟩)]:=by
 rw[q_ey];unfold F_ey
 have key:=aL (l:=hs) (F:=fun ps=>qN (hs.map Hold.e) ((aa ps 0).toInt) ((aa ps 1).toInt)) (enc:=fun i (s:Int)=>[.int .i64 s,.int .i64 i])
  (res:=fun xs _ s=>.ret [.int .i64 (s-(xs.map had).sum)]) (fun i s=>room-3*i<=s/\s<=room) (s:=room) (by simp) ?_ ?_
 ·have key:aN _ [C.int .i64 room,C.int .i64 0]=_:=key
  rw[key];rfl
 ·intro i x xs s hx ⟨h1,h2⟩
  have hi:=(List.getElem?_eq_some_iff.1 hx).1
  have hi':(i:Int)<(hs.length:Nat):=by omega
  have hm:=sJ (ho x (List.mem_of_getElem? hx))
  simp (disch:=first|assumption|omega|(simp only[zL];omega)) only[qN,jK hx,Hold.e,al,hi',if_true,aE,Int.reduceEq,reduceIte,zU,zT,aa]
  refine .inl ⟨s-had x,?_,by omega,by simp[Int.sub_sub]⟩
  unfold had
  by_cases e1:x.s=1
  ·simp[e1]
  ·by_cases e2:x.s=2<;>simp[e1,e2]
 ·intro s _
  have h:¬ ((hs.length:Int)<(hs.length:Nat)):=by omega
  simp only[qN,h,if_false,Int.reduceEq,reduceIte,zU,zT,aa]
  simp
theorem Cj{n:Int}{f:List C->Option Out}:aO (.list ([n].map eI)) (.int .i64 0) [.int .i64] f=f (eI n):=rfl
theorem xu{room:Int}{hs:List Hold}(ho:StOk ⟨room,hs⟩){k t:Int}{m:List Int}(hr:aF ⟨k,t,m⟩=true) :
  oI [.int .i64 room,.list (hs.map Hold.e),.int .i64 k,.int .i64 t,.list (m.map eI)]=some [.bool (may ⟨room,hs⟩ ⟨k,t,m⟩)]:=by
 have ht:=cE hr
 have hl:=ho.len
 simp only at ht hl
 rw[q_fs]
 simp (disch:=first|assumption|omega|(simp only[zL];omega)) only[F_fs,aE,y6,Hold.e,may,fI,zw ho.room ho.hold (show hs.length<=100 by omega),Int.reduceEq,reduceIte,zU,zT,aa]
 by_cases h1:k=1
 ·obtain⟨n,e,_⟩:=dE hr h1
  simp only at e;subst e
  simp only[h1,if_true,Cj,eI,Int.reduceEq,reduceIte,zU,zT,aa]
  by_cases h0:(hAt hs t).s=0<;>simp[h0,az]
 ·by_cases h2:k=2
  ·simp[h2,az]
  ·by_cases h3:k=3
   ·by_cases h0:(hAt hs t).s=1<;>simp[h3,h0,az]
   ·simp[h1,h2,h3,az]
theorem FC{room:Int}{hs:List Hold}(ho:StOk ⟨room,hs⟩){k t:Int}{m:List Int}(hr:aF ⟨k,t,m⟩=true) :
  du [.int .i64 room,.list (hs.map Hold.e),.int .i64 k,.int .i64 t,.list (m.map eI)]=some (act ⟨room,hs⟩ ⟨k,t,m⟩).e:=by
 have ht:=cE hr
 have hl:=ho.len
 simp only at ht hl
 have hx:=qf (l:=hs) ht.1 (by omega)
 have st:∀ a b:Int,setRow 0 (hs.map Hold.e) (t-1).toNat [C.int .i64 a,C.int .i64 b]=(hs.set (t-1).toNat ⟨a,b⟩).map Hold.e:=fun a b=>dF hx rfl
 rw[rR]
 simp (disch:=first|assumption|omega|(simp only[zL];omega)) only[kF,aE,y6,Hold.e,act,jW,st,Int.reduceEq,reduceIte,zU,zT,aa]
 by_cases h1:k=1
 ·obtain⟨n,e,_⟩:=dE hr h1
  simp only at e;subst e
  simp only[h1,if_true,Cj,eI,Int.reduceEq,reduceIte,zU,zT,aa]
  rfl
 ·by_cases h2:k=2
  ·simp only[h2,if_true];rfl
  ·by_cases h3:k=3
   ·simp only[h3,if_true];rfl
   ·simp only[h1,h2,h3,if_false];rfl
theorem FD{room:Int}{rs:List Rec}(hL:rs.length<=2000000)(hm:∀ r∈rs,r.m.length<=1099511627776) :
  oJ [.int .i64 room,.list (rs.map Rec.e)]=some (((bQ room rs).getD ⟨0,[]⟩).e++[.bool (bQ room rs).isSome]):=by
 rw[q_ga]
 simp (disch:=first|assumption|omega|(simp only[zL];omega)) only[F_ga,ml,Stock.e,List.cons_append,Int.reduceEq,reduceIte,zU,zT,aa]
 cases hr:in_ room 0 9 with
 | false=>simp[bQ,hr,az]
 | true =>
  simp only[if_true]
  have key:=aL (l:=rs) (F:=fun ps=>qO (rs.map Rec.e) ((aa ps 0).toInt) ((aa ps 1).toInt) ((aa ps 2).toList)) (enc:=fun i (s:Stock)=>[.int .i64 i,.int .i64 s.room,.list (s.hs.map Hold.e)])
   (res:=fun xs _ s=>.ret (((bE xs s).getD ⟨0,[]⟩).e++[.bool (bE xs s).isSome])) (fun _ s=>StOk s) (s:=bR room) (fq (in_iff.1 hr)) ?_ ?_
  ·have key:aN _ [C.int .i64 0,C.int .i64 (bR room).room,C.list ((bR room).hs.map Hold.e)]=_:=key
   rw[key];simp[bQ,hr,az,Stock.e]
  ·intro i x xs s hx hs
   have hi:=(List.getElem?_eq_some_iff.1 hx).1
   have hi':(i:Int)<(rs.length:Nat):=by omega
   have hxm:=hm x (List.mem_of_getElem? hx)
   simp (disch:=first|assumption|omega|(simp only[zL];omega)) only[qO,mi hx,Rec.e,qh,al,hi',if_true,Int.reduceEq,reduceIte,zU,zT,aa]
   cases hr:aF x with
   | false=>exact .inr ⟨_,rfl,by simp[bE,hr];rfl⟩
   | true =>
    have hs':StOk ⟨s.room,s.hs⟩:=hs
    have hr':aF ⟨x.k,x.t,x.m⟩=true:=hr
    simp (disch:=first|assumption|omega|(simp only[zL];omega)) only[xu,Int.reduceEq,reduceIte,zU,zT,aa]
    cases hmay:may s x with
    | false=>exact .inr ⟨_,rfl,by simp[bE,hr,hmay];rfl⟩
    | true =>
     simp (disch:=first|assumption|omega|(simp only[zL];omega)) only[FC,Stock.e,Int.reduceEq,reduceIte,zU,zT,aa]
     exact .inl ⟨act s x,rfl,nS hs hr hmay,by simp[bE,hr,hmay]⟩
  ·intro s _
   have h:¬ ((rs.length:Int)<(rs.length:Nat)):=by omega
   simp only[qO,h,if_false,Int.reduceEq,reduceIte,zU,zT,aa]
   rfl
theorem vg{id room f:Int}{up b:Bool}{rs:List Rec}(ho:LgOk ⟨rs,f⟩) :
  oK [.int .i64 id,.bool up,.int .i64 room,.list (rs.map Rec.e),.int .i64 f,.bool b]=some (am ⟨id,up,room,⟨rs,f⟩⟩ b).e:=by
 rw[q_dr]
 have hl:=ho.S
 have h2:=ho.lo
 have h3:=ho.hi
 simp only at h2 h3
 have ht:∀ n:Nat,(rs.map Rec.e).take n=(rs.take n).map Rec.e:=fun n=>by simp
 have h1:∀ n:Nat,oJ [.int .i64 room,.list ((rs.take n).map Rec.e)]=_:=fun n=>FD (by simp;have:=hl.1;simp only at this;omega) (fun r hr=>hl.2 r (List.mem_of_mem_take hr))
 cases b with
 | true =>
  simp (disch:=first|assumption|omega|(simp only[zL];omega)) only[F_dr,ht,h1,am,aW,Stock.e,List.cons_append,if_true,Int.reduceEq,reduceIte,zU,zT,aa]
 | false =>
  simp (disch:=first|assumption|omega|(simp only[zL];omega)) only[F_dr,ht,h1,am,aW,Stock.e,List.cons_append,Int.reduceEq,reduceIte,zU,zT,aa]
  simp
theorem zx{k h t m:Int}:tW [.int .i64 k,.int .i64 h,.int .i64 t,.int .i64 m]=some (bS ⟨k,h,t,m⟩).e:=by
 rw[q_fd]
 simp (disch:=first|assumption|omega|(simp only[zL];omega)) only[F_fd,bS,Int.reduceEq,reduceIte,zU,zT,aa]
 split
 ·rfl
 ·split<;>rfl
theorem wS(l:Log)(r:Rec):(dA l r).f=l.f:=by unfold dA;split<;>rfl
def oW(o:Option Word):Word:=o.getD ⟨0,0,0,0⟩
theorem rV{id room f:Int}{up:Bool}{rs:List (List C)}{k h t m st:Int} :
  qP [.int .i64 id,.bool up,.int .i64 room,.list rs,.int .i64 f,.int .i64 k,.int .i64 h,.int .i64 t,.int .i64 m,.int .i64 st]=some ((oW (answer id ⟨k,h,t,m⟩ st)).e++[.bool (answer id ⟨k,h,t,m⟩ st).isSome]):=by
 rw[q_ci]
 by_cases h1:k=1
 ·subst h1
  by_cases s1:st=1
  ·subst s1;rfl
  ·by_cases s2:st=2
   ·subst s2;rfl
   ·by_cases s3:st=3
    ·subst s3;rfl
    ·simp[BQ,nH,nJ,answer,s1,s2,s3,bn,aD,aB,ba,fO,C.toBool_bool,aa,az,oW,Word.e]
 ·by_cases h2:k=2
  ·subst h2
   by_cases s2:st=2
   ·subst s2;rfl
   ·simp[BQ,nH,nJ,answer,s2,bn,aD,aB,ba,fO,C.toBool_bool,aa,az,oW,Word.e]
  ·by_cases h3:k=3
   ·subst h3
    by_cases s3:st=3
    ·subst s3;rfl
    ·simp[BQ,nH,nJ,answer,s3,bn,aD,aB,ba,fO,C.toBool_bool,aa,az,oW,Word.e]
   ·simp[BQ,nH,nJ,answer,h1,h2,h3,bn,aD,aB,ba,fO,C.toBool_bool,aa,az,oW,Word.e]
theorem yx{id room f:Int}{up:Bool}{rs:List Rec}(ho:HsOk ⟨id,up,room,⟨rs,f⟩⟩){k h t m:Int} :
  tX [.int .i64 id,.bool up,.int .i64 room,.list (rs.map Rec.e),.int .i64 f,.int .i64 k,.int .i64 h,.int .i64 t,.int .i64 m] =
   some ((de ⟨id,up,room,⟨rs,f⟩⟩ ⟨k,h,t,m⟩).1.e++((oW (de ⟨id,up,room,⟨rs,f⟩⟩ ⟨k,h,t,m⟩).2).e++[.bool (de ⟨id,up,room,⟨rs,f⟩⟩ ⟨k,h,t,m⟩).2.isSome])):=by
 rw[q_ev]
 have hlg:LgOk ⟨rs,f⟩:=ho.lg
 have hlen:rs.length<=40:=ho.lg.len
 have sA:=ho.stOk false
 have sF:=ho.stOk true
 have lA:=sA.len
 have lF:=sF.len
 simp (disch:=first|assumption|omega|(simp only[zL];omega)) only[F_ev,sH,de,Int.reduceEq,reduceIte,zU,zT,aa]
 cases up with
 | false=>rfl
 | true =>
  cases hw:b8 ⟨k,h,t,m⟩with
  | false=>rfl
  | true =>
   have wok:=wordOk_iff.1 hw
   have wt:=wok.t
   simp only at wt
   have hr:=d8 wok
   have sA':StOk ⟨(am ⟨id,true,room,⟨rs,f⟩⟩ false).room,(am ⟨id,true,room,⟨rs,f⟩⟩ false).hs⟩:=sA
   have hr':aF ⟨(bS ⟨k,h,t,m⟩).k,(bS ⟨k,h,t,m⟩).t,(bS ⟨k,h,t,m⟩).m⟩=true:=hr
   simp (disch:=first|assumption|omega|(simp only[zL];omega)) only[vg,zx,Stock.e,Rec.e,xu,xt,rV,y6,aE,Hold.e,Word.e,List.cons_append,Int.reduceEq,reduceIte,zU,zT,aa]
   by_cases e1:h=id
   ·by_cases e2:k>3
    ·simp[e1,e2,az,House.e,oW,Word.e]
    ·simp only[e1,e2,if_true,if_false,fI]
     cases may (am ⟨id,true,room,⟨rs,f⟩⟩ false) (bS ⟨k,id,t,m⟩)with
     | true=>simp[az,House.e,oW,Word.e,wS]
     | false =>
      by_cases e3:k=1
      ·by_cases e4:(hAt (am ⟨id,true,room,⟨rs,f⟩⟩ false).hs t).s=0
       ·simp[e3,e4,az,House.e,oW,Word.e]
       ·simp[e3,e4,az,House.e,oW,Word.e]
      ·simp[e3,az,House.e,oW,Word.e]
   ·simp[e1,az,House.e,oW,Word.e]
end Dx
namespace Dx
open Go
def lC(s:Int)(sure:Bool)(td:List Word)(t:Int)(m:List Int):Int :=
 if s=1/\bf td t 5 1 m then 6
 else if s=1/\aA td t 4 1 m then 5
 else if s=2/\sure/\aA td t 6 1 m then 7
 else if s=3/\sure/\aA td t 7 1 m then 7
 else 0
theorem zy(d:Desk)(t:Int):ig d t=lC (tAt (ak d false) t).s (lr d t) d.td t (tAt (ak d false) t).m:=rfl
section
variable {up:Bool} {rs:List Rec} {f:Int} {td:List Word} {t:Int} {m:List Int} {s:Int} {b:Bool}
theorem jD0(hL:td.length<=1099511627775)(hm:m.length<=1000){d5 d7:Desk}{b5 b7:Bool}
  (w5:dB [.bool up,.list (rs.map Rec.e),.int .i64 f,.list (td.map Word.e),.int .i64 5,.int .i64 t,.list []]=some (d5.e++[.bool b5]))
  (w7:dB [.bool up,.list (rs.map Rec.e),.int .i64 f,.list (td.map Word.e),.int .i64 7,.int .i64 t,.list []]=some (d7.e++[.bool b7])) (c:Bool) :
  ai (wb up (rs.map Rec.e) f (td.map Word.e) t (m.map eI) s b c)=some (if c then d5 else if s=2/\b/\aA td t 6 1 m then d7 else if s=3/\b/\aA td t 7 1 m then d7 else⟨up,⟨rs,f⟩,td⟩).e:=by
 simp only[Desk.e,List.cons_append,List.nil_append]at w5 w7
 unfold wb
 cases c with
 | true=>simp only[aD,w5,gY,az,aa,C.toInt_int,C.toBool_bool,C.toList_list,if_true];rfl
 | false =>
  simp only[aB,bn,Bool.false_eq_true,if_false]
  by_cases h2:s=2
  ·subst h2
   simp (disch:=first|assumption|omega|(simp only[zL];omega)) only[if_true,na,w7,qb,gY,aa,C.toInt_int,C.toBool_bool,C.toList_list]
   cases b<;>cases aA td t 6 1 m<;>simp[Desk.e]
  ·simp only[h2,if_false,false_and]
   by_cases h3:s=3
   ·subst h3
    simp (disch:=first|assumption|omega|(simp only[zL];omega)) only[if_true,na,w7,qb,gY,aa,C.toInt_int,C.toBool_bool,C.toList_list]
    cases b<;>cases aA td t 7 1 m<;>simp[Desk.e]
   ·simp only[h3,if_false,false_and];rfl
theorem jD1(hL:td.length<=1099511627775)(hm:m.length<=1000){d5 d6 d7:Desk}{b5 b6 b7:Bool}
  (w5:dB [.bool up,.list (rs.map Rec.e),.int .i64 f,.list (td.map Word.e),.int .i64 5,.int .i64 t,.list []]=some (d5.e++[.bool b5]))
  (w6:dB [.bool up,.list (rs.map Rec.e),.int .i64 f,.list (td.map Word.e),.int .i64 6,.int .i64 t,.list []]=some (d6.e++[.bool b6]))
  (w7:dB [.bool up,.list (rs.map Rec.e),.int .i64 f,.list (td.map Word.e),.int .i64 7,.int .i64 t,.list []]=some (d7.e++[.bool b7])) (c:Bool) :
  ai (wc up (rs.map Rec.e) f (td.map Word.e) t (m.map eI) s b c)=some (if c then d6 else if s=1/\aA td t 4 1 m then d5 else if s=2/\b/\aA td t 6 1 m then d7 else if s=3/\b/\aA td t 7 1 m then d7 else⟨up,⟨rs,f⟩,td⟩).e:=by
 have j0:=fun c=>jD0 (s:=s) (b:=b) hL hm w5 w7 c
 simp only[Desk.e,List.cons_append,List.nil_append]at w6
 unfold wc
 cases c with
 | true=>simp only[aD,w6,gY,az,aa,C.toInt_int,C.toBool_bool,C.toList_list,if_true];rfl
 | false =>
  simp only[aB,bn,Bool.false_eq_true,if_false]
  by_cases h1:s=1
  ·simp (disch:=first|assumption|omega|(simp only[zL];omega)) only[h1,if_true,na,qb,aa,C.toBool_bool,ba]
   rw[<-h1,j0]
   simp[h1]
  ·simp only[h1,if_false,ba,aa,C.toBool_bool]
   rw[j0];simp
theorem jD2(hL:td.length<=1099511627775)(hm:m.length<=1000){d5 d6 d7:Desk}{b5 b6 b7:Bool}
  (w5:dB [.bool up,.list (rs.map Rec.e),.int .i64 f,.list (td.map Word.e),.int .i64 5,.int .i64 t,.list []]=some (d5.e++[.bool b5]))
  (w6:dB [.bool up,.list (rs.map Rec.e),.int .i64 f,.list (td.map Word.e),.int .i64 6,.int .i64 t,.list []]=some (d6.e++[.bool b6]))
  (w7:dB [.bool up,.list (rs.map Rec.e),.int .i64 f,.list (td.map Word.e),.int .i64 7,.int .i64 t,.list []]=some (d7.e++[.bool b7])) :
  ai (wd up (rs.map Rec.e) f (td.map Word.e) t (m.map eI) s b) =
   some (if s=1/\bf td t 5 1 m then d6 else if s=1/\aA td t 4 1 m then d5 else if s=2/\b/\aA td t 6 1 m then d7 else if s=3/\b/\aA td t 7 1 m then d7 else⟨up,⟨rs,f⟩,td⟩).e:=by
 have j1:=fun c=>jD1 (s:=s) (b:=b) hL hm w5 w6 w7 c
 unfold wd
 simp only[bn]
 by_cases h1:s=1
 ·simp (disch:=first|assumption|omega|(simp only[zL];omega)) only[h1,if_true,zv,qb,aa,C.toBool_bool,ba]
  rw[<-h1,j1]
  simp[h1]
 ·simp only[h1,if_false,ba,aa,C.toBool_bool]
  rw[j1];simp[h1]
end
theorem kK{up:Bool}{rs:List Rec}{f:Int}{td:List Word}(hd:DkOk ⟨up,⟨rs,f⟩,td⟩)(hL:td.length<=1099511627775){t:Int}(h1:1<=t)(h2:t<=(aj ⟨rs,f⟩ false).length) :
  qM [.bool up,.list (rs.map Rec.e),.int .i64 f,.list (td.map Word.e),.int .i64 t]=some (d4 ⟨up,⟨rs,f⟩,td⟩ t).e:=by
 rw[q_cl]
 have hlg:LgOk ⟨rs,f⟩:=hd.lg
 have hS:=hlg.S
 have tA:TrOk (aj ⟨rs,f⟩ false):=hd.trOk false
 have tF:TrOk (aj ⟨rs,f⟩ true):=hd.trOk true
 have lA:=tA.len
 have lF:=tF.len
 have hml:=bc (tripOk_iff.1 (tA.ok _ (fa (t:=t) (by omega)))).1
 have w5:=fe hd (k:=5) (t:=t) (m:=[]) (by simp[aF,in_iff];omega)
 have w6:=fe hd (k:=6) (t:=t) (m:=[]) (by simp[aF,in_iff];omega)
 have w7:=fe hd (k:=7) (t:=t) (m:=[]) (by simp[aF,in_iff];omega)
 have j:=fun s b=>jD2 (s:=s) (b:=b) hL (by omega:(tAt (aj ⟨rs,f⟩ false) t).m.length<=1000) w5 w6 w7
 simp (disch:=first|assumption|omega|(simp only[zL];omega)) only[F_cl,gZ,sG,qg,aE,Trip.e,Int.reduceEq,reduceIte,zU,zT,aa]
 rw[j,j]
 unfold d4
 rw[zy]
 unfold lr ak
 have fin:∀ b:Bool,(if lC (tAt (aj ⟨rs,f⟩ false) t).s b td t (tAt (aj ⟨rs,f⟩ false) t).m>0 then aZ ⟨up,⟨rs,f⟩,td⟩ ⟨lC (tAt (aj ⟨rs,f⟩ false) t).s b td t (tAt (aj ⟨rs,f⟩ false) t).m,t,[]⟩ else⟨up,⟨rs,f⟩,td⟩) =
   (if(tAt (aj ⟨rs,f⟩ false) t).s=1/\bf td t 5 1 (tAt (aj ⟨rs,f⟩ false) t).m then aZ ⟨up,⟨rs,f⟩,td⟩ ⟨6,t,[]⟩ else if(tAt (aj ⟨rs,f⟩ false) t).s=1/\aA td t 4 1 (tAt (aj ⟨rs,f⟩ false) t).m then aZ ⟨up,⟨rs,f⟩,td⟩ ⟨5,t,[]⟩ else if(tAt (aj ⟨rs,f⟩ false) t).s=2/\b/\aA td t 6 1 (tAt (aj ⟨rs,f⟩ false) t).m then aZ ⟨up,⟨rs,f⟩,td⟩ ⟨7,t,[]⟩ else if(tAt (aj ⟨rs,f⟩ false) t).s=3/\b/\aA td t 7 1 (tAt (aj ⟨rs,f⟩ false) t).m then aZ ⟨up,⟨rs,f⟩,td⟩ ⟨7,t,[]⟩ else⟨up,⟨rs,f⟩,td⟩):=by
  intro b
  unfold lC
  split
  ·rfl
  ·split
   ·rfl
   ·split
    ·rfl
    ·split<;>rfl
 dsimp only
 rw[fin]
 by_cases h:t<=((aj ⟨rs,f⟩ true).length:Nat)
 ·simp only[h,if_true,decide_true,Bool.true_and]
 ·simp only[h,if_false,decide_false,Bool.false_and]
theorem fP(up:Bool)(l:Log)(td:List Word)(k h t m:Int):dh ⟨up,l,td⟩ ⟨k,h,t,m⟩=(up && (b8 ⟨k,h,t,m⟩ && (decide (k>=4) && decide (t<=(aj l false).length)))):=rfl
theorem yy{up:Bool}{rs:List Rec}{f:Int}{td:List Word}(hd:DkOk ⟨up,⟨rs,f⟩,td⟩)(hL:td.length<=1099511627774){k h t m:Int} :
  tU [.bool up,.list (rs.map Rec.e),.int .i64 f,.list (td.map Word.e),.int .i64 k,.int .i64 h,.int .i64 t,.int .i64 m]=some (gG ⟨up,⟨rs,f⟩,td⟩ ⟨k,h,t,m⟩).e:=by
 rw[q_em]
 have hlg:LgOk ⟨rs,f⟩:=hd.lg
 have hS:=hlg.S
 have hL':td.length<=1099511627775:=by omega
 unfold gG
 simp (disch:=first|assumption|omega|(simp only[zL];omega)) only[F_em,sH,gZ,iq,Int.reduceEq,reduceIte,zU,zT,aa]
 have nh:dh ⟨up,⟨rs,f⟩,td⟩ ⟨k,h,t,m⟩=false->(if dh ⟨up,⟨rs,f⟩,td⟩ ⟨k,h,t,m⟩=true then d4 (cw ⟨up,⟨rs,f⟩,td⟩ ⟨k,h,t,m⟩) t else⟨up,⟨rs,f⟩,td⟩)=⟨up,⟨rs,f⟩,td⟩:=fun e=>by rw[e];rfl
 cases up with
 | false=>rw[nh rfl];rfl
 | true =>
  cases hw:b8 ⟨k,h,t,m⟩with
  | false=>rw[nh (by simp[dh,hw])];rfl
  | true =>
   have wt:=(wordOk_iff.1 hw).t
   simp only at wt
   simp only[aD,eL]
   by_cases h4:k<4
   ·rw[nh (by simp[dh,hw];omega)]
    simp only[h4,if_true];rfl
   ·by_cases ht:t>((aj ⟨rs,f⟩ false).length:Nat)
    ·rw[nh (by rw[fP,hw];simp only[Bool.true_and];rw[Bool.and_eq_false_iff];right;exact decide_eq_false (by omega))]
     simp only[h4,ht,if_true,if_false];rfl
    ·have c1:dh ⟨true,⟨rs,f⟩,td⟩ ⟨k,h,t,m⟩=true:=by rw[fP,hw];simp only[Bool.true_and];rw[Bool.and_eq_true];exact⟨decide_eq_true (by omega),decide_eq_true (by omega)⟩
     rw[if_pos c1]
     simp only[h4,ht,if_false,cw]
     cases hc:td.contains ⟨k,h,t,m⟩with
     | true =>
      simp (disch:=first|assumption|omega|(simp only[zL];omega)) only[kK,Desk.e,aD,az,qc,aa,C.toInt_int,C.toBool_bool,C.toList_list,if_true]
     | false =>
      have hd2:DkOk ⟨true,⟨rs,f⟩,td++[⟨k,h,t,m⟩]⟩:=by
       have:=hd.tell (w:=⟨k,h,t,m⟩) c1
       unfold cw at this
       rw[if_neg (by rw[hc];simp)]at this
       exact this
      have e1:(td.map Word.e)++[[C.int .i64 k,C.int .i64 h,C.int .i64 t,C.int .i64 m]]=(td++[(⟨k,h,t,m⟩:Word)]).map Word.e:=by simp[Word.e]
      have hd3:=kK hd2 (by simp;omega) wt.1 (show t<=((aj ⟨rs,f⟩ false).length:Nat) by omega)
      simp only[aB,e1,hd3]
      simp (disch:=first|assumption|omega|(simp only[zL];omega)) only[Desk.e,Bool.false_eq_true,if_false,Int.reduceEq,reduceIte,zU,zT,aa]
theorem rowI3{m:List Int}{i:Nat}{n:Int}(h:m[i]?=some n){f:List C->Option Out}:aO (.list (m.map eI)) (.int .i64 i) [.int .i64] f=f (eI n):=gl h
theorem Ck{td:List Word}(hL:td.length<=1099511627775){l:List Trip}{ti:Nat}{x:Trip}(hx:l[ti]?=some x)(hti:ti<=1000)(hs:1<=x.s/\x.s<=3)(hml:x.m.length=3){acc:List Word}(ha:acc.length<=3000) :
  aN (fun ps=>nG (td.map Word.e) (l.map Trip.e) (ti:Int) ((aa ps 0).toInt) ((aa ps 1).toList)) [.int .i64 0,.list (acc.map Word.e)] =
   some (.jump [.int .i64 ((ti+1:Nat):Int),.list ((acc++bh td x.s ((ti+1:Nat):Int) 1 x.m).map Word.e)]):=by
 have key:=aL (l:=x.m) (F:=fun ps=>nG (td.map Word.e) (l.map Trip.e) (ti:Int) ((aa ps 0).toInt) ((aa ps 1).toList)) (enc:=fun i (s:List Word)=>[.int .i64 i,.list (s.map Word.e)])
  (res:=fun xs i s=>.jump [.int .i64 ((ti+1:Nat):Int),.list ((s++bh td x.s ((ti+1:Nat):Int) ((i+1:Nat):Int) xs).map Word.e)]) (fun i s=>s.length<=3000+i) (s:=acc) (by omega) ?_ ?_
 ·exact key
 ·intro i n xs s hn hs'
  have hi:=(List.getElem?_eq_some_iff.1 hn).1
  have hi':(i:Int)<3:=by omega
  have e1:((i+1:Nat):Int)+1=((i+1+1:Nat):Int):=by omega
  have ra:∀ g:List C->Option Out,aO (.list [[C.int .i64 0],[C.int .i64 4],[C.int .i64 6],[C.int .i64 7]]) (.int .i64 x.s) [.int .i64] g=g [.int .i64 (rg x.s)]:=by
   intro g
   have:x.s=1\/x.s=2\/x.s=3:=by omega
   rcases this with e|e|e<;>rw[e]<;>rfl
  have h4:x.s<((([[C.int .i64 0],[C.int .i64 4],[C.int .i64 6],[C.int .i64 7]]:List (List C)).length:Nat):Int):=by simp;omega
  have h5:(0:Int)<=x.s:=by omega
  have hb:=cM (p:=(0:Int)<=x.s) (q:=x.s<((([[C.int .i64 0],[C.int .i64 4],[C.int .i64 6],[C.int .i64 7]]:List (List C)).length:Nat):Int)) h5 h4
  unfold nG
  simp only[aa,C.toInt_int,C.toList_list,a8,hi',if_true,ip hx,Trip.e,hb,ra,rowI3 hn,eI,bn]
  simp (disch:=first|assumption|omega|(simp only[zL];omega)) only[al,iq,qb,aa,C.toBool_bool]
  simp only[bh,gH]
  by_cases hn0:n=0
  ·simp only[hn0,if_true,true_or]
   exact .inl ⟨s,rfl,by omega,by rw[e1];simp⟩
  ·simp only[hn0,if_false,false_or]
   cases hc:td.contains ⟨rg x.s,((i+1:Nat):Int),((ti+1:Nat):Int),0⟩with
   | true=>exact .inl ⟨s,rfl,by omega,by rw[e1];simp⟩
   | false =>
    have hlen:∀ w:List C,decide ((s.map Word.e).length+[w].length<=bd)=true:=fun w=>by simp[bJ];omega
    refine .inl ⟨s++[⟨x.s,((i+1:Nat):Int),((ti+1:Nat):Int),if x.s=1 then n else 0⟩],?_,by simp;omega,by rw[e1];simp⟩
    simp only[aB,bo (hlen _)]
    split<;>simp[Word.e]
 ·intro s _
  unfold nG
  have h:¬ ((x.m.length:Int)<3):=by omega
  simp only[aa,C.toInt_int,C.toList_list,a8,h,if_false]
  simp (disch:=first|assumption|omega|(simp only[zL];omega)) only[al,jY]
  simp[bh]
theorem kL{up:Bool}{rs:List Rec}{f:Int}{td:List Word}(hd:DkOk ⟨up,⟨rs,f⟩,[]⟩)(hL:td.length<=1099511627775) :
  lX [.bool up,.list (rs.map Rec.e),.int .i64 f,.list (td.map Word.e)]=some [.list ((bI ⟨up,⟨rs,f⟩,td⟩).map Word.e)]:=by
 rw[q_dn]
 have hlg:LgOk ⟨rs,f⟩:=hd.lg
 have hS:=hlg.S
 have tF:TrOk (aj ⟨rs,f⟩ true):=hd.trOk true
 have lF:=tF.len
 simp (disch:=first|assumption|omega|(simp only[zL];omega)) only[F_dn,sG,bI,ak,Int.reduceEq,reduceIte,zU,zT,aa]
 cases up with
 | false=>rfl
 | true =>
  simp only[aD,if_true]
  have key:=aL (l:=aj ⟨rs,f⟩ true) (F:=fun ps=>qI (td.map Word.e) ((aj ⟨rs,f⟩ true).map Trip.e) ((aa ps 0).toInt) ((aa ps 1).toList)) (enc:=fun i (s:List Word)=>[.int .i64 i,.list (s.map Word.e)])
   (res:=fun xs i s=>.ret [.list ((s++di td ((i+1:Nat):Int) xs).map Word.e)]) (fun i s=>s.length<=3*i) (s:=[]) (by simp) ?_ ?_
  ·have key:aN _ [C.int .i64 0,C.list []]=_:=key
   rw[key];simp
  ·intro i x xs s hx hs
   have hi:=(List.getElem?_eq_some_iff.1 hx).1
   have hi':(i:Int)<((aj ⟨rs,f⟩ true).length:Nat):=by omega
   have hxo:=tripOk_iff.1 (tF.ok x (List.mem_of_getElem? hx))
   have hml:=bc hxo.1
   have e1:((i+1:Nat):Int)+1=((i+1+1:Nat):Int):=by omega
   unfold qI
   simp only[aa,C.toInt_int,C.toList_list,List.length_map,a8,hi',if_true,ip hx,Trip.e,di]
   by_cases h3:x.s>3
   ·simp only[h3,if_true]
    simp (disch:=first|assumption|omega|(simp only[zL];omega)) only[al]
    exact .inl ⟨s,rfl,by omega,by rw[e1];simp⟩
   ·simp only[h3,if_false]
    rw[Ck hL hx (by omega) (by omega) hml (by omega)]
    refine .inl ⟨s++bh td x.s ((i+1:Nat):Int) 1 x.m,rfl,?_,by rw[e1];simp⟩
    have:=eD td x.s ((i+1:Nat):Int) x.m 1
    simp only[List.length_append];omega
  ·intro s _
   unfold qI
   have h:¬ (((aj ⟨rs,f⟩ true).length:Int)<((aj ⟨rs,f⟩ true).length:Nat)):=by omega
   simp only[aa,C.toInt_int,C.toList_list,List.length_map,a8,h,if_false,jY]
   simp[di]
theorem DkOk.bare{d:Desk}(h:DkOk d):DkOk ⟨d.up,d.lg,[]⟩:=⟨h.lg,h.tr,by simp,by simp,.inr rfl⟩
theorem vh{up:Bool}{rs:List Rec}{f:Int}{td:List Word}(hd:DkOk ⟨up,⟨rs,f⟩,td⟩)(hL:td.length<=1099511627775) :
  lX [.bool up,.list (rs.map Rec.e),.int .i64 f,.list (td.map Word.e)]=some [.list ((bI ⟨up,⟨rs,f⟩,td⟩).map Word.e)]:=kL hd.bare hL
end Dx
namespace Dx
open Go
def bB(hs:List House)(i:Int):House:=(hs[(i-1).toNat]?).getD ⟨0,false,0,⟨[],0⟩⟩
theorem br(w:Wd)(i:Int):houseAt w i=bB w.hs i:=rfl
theorem sK{l:List House}{t:Int}(h1:1<=t)(h2:t<=l.length):l[(t-1).toNat]?=some (bB l t):=by
 have:(t-1).toNat<l.length:=by omega
 unfold bB;rw[List.getElem?_eq_getElem this];rfl
theorem i5{l:List House}{t:Int}(h1:1<=t)(h2:t<=l.length){kk:IntKind}{f:List C->Option Out}:aO (.list (l.map House.e)) (.int kk (t-1)) [.int .i64,.bool,.int .i64,.list,.int .i64] f=f (bB l t).e :=
 dm (by omega) (sK h1 h2) rfl
theorem jC{l:List House}{t:Int}{x:House}(h1:1<=t)(h2:t<=l.length){kk:IntKind}{f:List C->Option Out}:aO (.list ((l.set (t-1).toNat x).map House.e)) (.int kk (t-1)) [.int .i64,.bool,.int .i64,.list,.int .i64] f=f x.e:=by
 refine dm (by omega) ?_ rfl
 rw[List.getElem?_set];simp;omega
theorem lu(l:List House)(n:Nat)(id:Int)(up:Bool)(room:Int)(rs:List Rec)(f:Int):(l.map House.e).set n [.int .i64 id,.bool up,.int .i64 room,.list (rs.map Rec.e),.int .i64 f]=(l.set n ⟨id,up,room,⟨rs,f⟩⟩).map House.e:=by
 simp[List.map_set,House.e]
theorem eqD(a:Int)(k:Option Out):af (a==a) k=k:=by simp
theorem zz{l:List House}{t:Int}(h1:1<=t)(h2:t<=l.length):l.set (t-1).toNat (bB l t)=l:=by
 have hi:(t-1).toNat<l.length:=by omega
 have:bB l t=l[(t-1).toNat]:=by unfold bB;rw[List.getElem?_eq_getElem hi];rfl
 rw[this];exact List.set_getElem_self hi
section
variable {up:Bool} {rs:List Rec} {f:Int} {td:List Word} {hs:List House} {ns:List Word}
theorem nb(hL:ns.length<=1000){k h t m:Int} :
  lY [.bool up,.list (rs.map Rec.e),.int .i64 f,.list (td.map Word.e),.list (hs.map House.e),.list (ns.map Word.e),.int .i64 k,.int .i64 h,.int .i64 t,.int .i64 m]=some (iA ⟨⟨up,⟨rs,f⟩,td⟩,hs,ns⟩ ⟨k,h,t,m⟩).e:=by
 rw[q_fj]
 simp (disch:=first|assumption|omega|(simp only[zL];omega)) only[F_fj,iA,Int.reduceEq,reduceIte,zU,zT,aa]
 by_cases hn:ns.length<14
 ·have h':((ns.length:Nat):Int)<14:=by omega
  have hc:ns.length+1<=1099511627776:=by omega
  simp[hn,h',Wd.e,Word.e,bJ,hc]
 ·have h':¬ (((ns.length:Nat):Int)<14):=by omega
  simp[hn,h',Wd.e]
theorem po(hL:ns.length<=1000){i:Int}(h0:0<=i)(h1:i<ns.length) :
  qJ [.bool up,.list (rs.map Rec.e),.int .i64 f,.list (td.map Word.e),.list (hs.map House.e),.list (ns.map Word.e),.int .i64 i]=some (ez ⟨⟨up,⟨rs,f⟩,td⟩,hs,ns⟩ i).e:=by
 rw[q_eu]
 obtain⟨n,rfl⟩:=Int.eq_ofNat_of_zero_le h0
 have e1:(ns.map Word.e).take n=(ns.take n).map Word.e:=by simp
 have e2:(ns.map Word.e).drop (n+1)=(ns.drop (n+1)).map Word.e:=by simp
 have c1:(0:Int)<=((n+1:Nat):Int):=by omega
 have c2:((n+1:Nat):Int)<=(ns.length:Nat):=by omega
 have c3:(n:Int)<=(ns.length:Nat):=by omega
 have c4:(ns.take n).length<=1000:=by simp;omega
 have c5:(ns.drop (n+1)).length<=1000:=by simp;omega
 simp (disch:=first|assumption|omega|(simp only[zL];omega)) only[F_eu,al,Int.toNat_natCast,e1,e2,fb,Int.reduceEq,reduceIte,zU,zT,aa]
 simp[Wd.e,ez,List.eraseIdx_eq_take_drop_succ]
theorem yz(ho:WOk ⟨⟨up,⟨rs,f⟩,td⟩,hs,ns⟩)(hL:td.length<=1099511627774){k h t m:Int}(hx:WdOk ⟨k,h,t,m⟩) :
  tY [.bool up,.list (rs.map Rec.e),.int .i64 f,.list (td.map Word.e),.list (hs.map House.e),.list (ns.map Word.e),.int .i64 k,.int .i64 h,.int .i64 t,.int .i64 m] =
   some ((bH ⟨⟨up,⟨rs,f⟩,td⟩,hs,ns⟩ ⟨k,h,t,m⟩).1.e++((oW (bH ⟨⟨up,⟨rs,f⟩,td⟩,hs,ns⟩ ⟨k,h,t,m⟩).2).e++[.bool (bH ⟨⟨up,⟨rs,f⟩,td⟩,hs,ns⟩ ⟨k,h,t,m⟩).2.isSome])):=by
 rw[q_ep]
 have hd:DkOk ⟨up,⟨rs,f⟩,td⟩:=ho.dk
 have hl:hs.length=3:=ho.len
 have hh:=hx.h
 simp only at hh
 by_cases h4:k>=4
 ·simp (disch:=first|assumption|omega|(simp only[zL];omega)) only[F_ep,yy,bH,h4,if_true,decide_true,Desk.e,Int.reduceEq,reduceIte,zU,zT,aa]
  simp[Wd.e,oW,Word.e]
 ·have hho:=(ho.houseAt (i:=h) hh).2.1
  rw[br]at hho
  simp only at hho
  have hho':HsOk ⟨(bB hs h).id,(bB hs h).up,(bB hs h).room,⟨(bB hs h).lg.rs,(bB hs h).lg.f⟩⟩:=hho
  simp (disch:=first|assumption|omega|(simp only[zL];omega)) only[F_ep,bH,h4,if_false,aE,i5,House.e,yx,eqD,List.cons_append,Word.e,lu,br,Int.reduceEq,reduceIte,zU,zT,aa]
  simp[Wd.e,setHouse,House.e]
theorem sL(ho:LgOk ⟨rs,f⟩){keep:Int} :
  oM [.list (rs.map Rec.e),.int .i64 f,.int .i64 keep]=some (eX ⟨rs,f⟩ keep).e:=by
 rw[q_fk]
 have h1:=ho.lo
 have h2:=ho.hi
 have h3:=ho.len
 have hk:=ho.keep keep
 simp only at h1 h2 h3 hk
 unfold dW at hk
 have e1:∀ n:Nat,(rs.map Rec.e).take n=(rs.take n).map Rec.e:=fun n=>by simp
 simp only[F_fk,eX,dW,a8,List.length_map]
 by_cases h:keep>0
 ·simp only[h,if_true]at hk ⊢
  have em:(if((rs.length:Nat):Int)-f<keep then((rs.length:Nat):Int)-f else keep)=min keep (rs.length-f):=by rw[Int.min_def];split<;>split<;>omega
  rw[aE (x:=((rs.length:Nat):Int)-f) (by omega) (by omega),em,aE (by omega) (by omega)]
  rw[cM (by omega) (by omega),e1]
  simp[Log.e]
 ·simp only[h,if_false]at hk ⊢
  rw[cM (by omega) (by omega),e1]
  simp[Log.e]
theorem yA(ho:LgOk ⟨rs,f⟩){keep:Int} :
  t6 [.bool up,.list (rs.map Rec.e),.int .i64 f,.list (td.map Word.e),.int .i64 keep]=some (dfall ⟨up,⟨rs,f⟩,td⟩ keep).e:=by
 rw[q_eb]
 simp (disch:=first|assumption|omega|(simp only[zL];omega)) only[F_eb,sL,Log.e,Int.reduceEq,reduceIte,zU,zT,aa]
 simp[dfall,Desk.e]
theorem vi(hl:hs.length=3)(hh:∀ h∈hs,h.lg.rs.length<=2000000){i:Int}(hi:0<=i/\i<=3) :
  tZ [.bool up,.list (rs.map Rec.e),.int .i64 f,.list (td.map Word.e),.list (hs.map House.e),.list (ns.map Word.e),.int .i64 i]=some (cR ⟨⟨up,⟨rs,f⟩,td⟩,hs,ns⟩ i).e:=by
 rw[q_dc]
 by_cases h0:i=0
 ·subst h0
  have e0:in_ 0 1 3=false:=rfl
  cases up<;>simp (disch:=first|assumption|omega|(simp only[zL];omega)) only[F_dc,we,bV,cR,bU,e0,if_true,Int.reduceEq,reduceIte,zU,zT,aa]<;>simp[Wd.e,fV]
 ·have e1:in_ i 1 3=true:=in_iff.2 (by omega)
  simp (disch:=first|assumption|omega|(simp only[zL];omega)) only[F_dc,we,bV,cR,h0,if_false,e1,if_true,aE,i5,House.e,eqD,lu,jC,br,Int.reduceEq,reduceIte,zU,zT,aa]
  unfold cf
  cases hu:(bB hs i).up with
  | true =>
   simp (disch:=first|assumption|omega|(simp only[zL];omega)) only[lu,jC,House.e,eqD,Int.reduceEq,reduceIte,zU,zT,aa]
   simp[Wd.e,setHouse,hu,fV]
  | false =>
   have:setHouse ⟨⟨up,⟨rs,f⟩,td⟩,hs,ns⟩ i (bB hs i)=⟨⟨up,⟨rs,f⟩,td⟩,hs,ns⟩:=by
    unfold setHouse;simp only;rw[zz (by omega) (by omega)]
   simp only[Bool.false_eq_true,if_false,this,aB,az]
   rfl
theorem yB(ho:WOk ⟨⟨up,⟨rs,f⟩,td⟩,hs,ns⟩){k a b:Int}{m:List (List C)} :
  oN [.bool up,.list (rs.map Rec.e),.int .i64 f,.list (td.map Word.e),.list (hs.map House.e),.list (ns.map Word.e),.int .i64 k,.int .i64 a,.int .i64 b,.list m]=some (cd ⟨⟨up,⟨rs,f⟩,td⟩,hs,ns⟩ ⟨k,a,b,[]⟩).e:=by
 rw[q_ef]
 have hd:DkOk ⟨up,⟨rs,f⟩,td⟩:=ho.dk
 have hlg:LgOk ⟨rs,f⟩:=hd.lg
 have hl:hs.length=3:=ho.len
 have hh:∀ h∈hs,h.lg.rs.length<=2000000:=fun h hm=>by
  obtain⟨i,hi⟩:=List.mem_iff_getElem?.1 hm
  have:=(ho.hs i h hi).1.lg.len;omega
 unfold cd
 simp only
 cases ha:in_ a 0 3 with
 | false=>simp (disch:=first|assumption|omega|(simp only[zL];omega)) only[xj,bV,ha,Bool.not_false,Int.reduceEq,reduceIte,zU,zT,aa];rfl
 | true =>
  have ha':=in_iff.1 ha
  simp only[if_true]
  by_cases h7:k=7
  ·subst h7
   simp (disch:=first|assumption|omega|(simp only[zL];omega)) only[xj,bV,ha,Bool.not_true,if_true,vi,Wd.e,Int.reduceEq,reduceIte,zU,zT,aa]
  ·by_cases h8:k=8
   ·subst h8
    by_cases a0:a=0
    ·subst a0
     simp (disch:=first|assumption|omega|(simp only[zL];omega)) only[xj,bV,ha,Bool.not_true,if_true,if_false,yA,Desk.e,Int.reduceEq,reduceIte,zU,zT,aa]
     simp[Wd.e]
    ·have hho:=(ho.houseAt (i:=a) (by omega)).2.1
     rw[br]at hho
     have hlo:LgOk ⟨(bB hs a).lg.rs,(bB hs a).lg.f⟩:=hho.lg
     simp (disch:=first|assumption|omega|(simp only[zL];omega)) only[xj,bV,ha,Bool.not_true,if_true,if_false,a0,aE,i5,House.e,eqD,lu,jC,sL,Log.e,br,List.length_set,Int.reduceEq,reduceIte,zU,zT,aa]
     simp[Wd.e,setHouse,hfall,House.e]
   ·by_cases h9:k=9
    ·subst h9
     by_cases a0:a=0
     ·subst a0
      simp (disch:=first|assumption|omega|(simp only[zL];omega)) only[xj,bV,ha,Bool.not_true,if_true,if_false,Int.reduceEq,reduceIte,zU,zT,aa]
      simp[Wd.e,jG]
     ·simp (disch:=first|assumption|omega|(simp only[zL];omega)) only[xj,bV,ha,Bool.not_true,if_true,if_false,a0,aE,i5,House.e,eqD,lu,br,Int.reduceEq,reduceIte,zU,zT,aa]
      simp[Wd.e,setHouse,lq]
    ·simp (disch:=first|assumption|omega|(simp only[zL];omega)) only[xj,bV,ha,Bool.not_true,if_false,h7,h8,h9,Int.reduceEq,reduceIte,zU,zT,aa]
     rfl
theorem zA(ho:WOk ⟨⟨up,⟨rs,f⟩,td⟩,hs,ns⟩)(hL:td.length<=1099511627774){k a b:Int}{m:List (List C)} :
  oL [.bool up,.list (rs.map Rec.e),.int .i64 f,.list (td.map Word.e),.list (hs.map House.e),.list (ns.map Word.e),.int .i64 k,.int .i64 a,.int .i64 b,.list m]=some (jX ⟨⟨up,⟨rs,f⟩,td⟩,hs,ns⟩ ⟨k,a,b,[]⟩).e:=by
 rw[q_fh]
 have hnl:ns.length<=14:=ho.nlen
 unfold jX
 simp only
 by_cases h0:0<=a
 ·by_cases h1:a<ns.length
  ·have e1:in_ a 0 ((ns.length:Nat)-1)=true:=in_iff.2 (by omega)
   obtain⟨n,rfl⟩:=Int.eq_ofNat_of_zero_le h0
   have hn:n<ns.length:=by omega
   have hx:ns[n]?=some ns[n]:=by simp[hn]
   have hxw:=ho.ns ns[n] (List.mem_of_getElem? hx)
   have hxw':WdOk ⟨ns[n].k,ns[n].h,ns[n].t,ns[n].m⟩:=hxw
   simp only[Int.toNat_natCast,h0,if_true,hx]
   by_cases h5:k=5
   ·subst h5
    simp (disch:=first|assumption|omega|(simp only[zL];omega)) only[z7,bV,aE,e1,Bool.not_true,io hx,Word.e,if_true,po,Wd.e,Int.reduceEq,reduceIte,zU,zT,aa]
   ·by_cases h6:k=6
    ·subst h6
     simp (disch:=first|assumption|omega|(simp only[zL];omega)) only[z7,bV,aE,e1,Bool.not_true,io hx,Word.e,if_true,if_false,h5,nb,Wd.e,Int.reduceEq,reduceIte,zU,zT,aa]
    ·have ho2:=ho.take (n:Int)
     generalize hw2:ez ⟨⟨up,⟨rs,f⟩,td⟩,hs,ns⟩ (n:Int)=w2 at ho2
     have htk:=po (up:=up) (rs:=rs) (f:=f) (td:=td) (hs:=hs) (ns:=ns) (by omega) h0 h1
     rw[hw2]at htk
     have ho2':WOk ⟨⟨w2.dk.up,⟨w2.dk.lg.rs,w2.dk.lg.f⟩,w2.dk.td⟩,w2.hs,w2.ns⟩:=ho2
     have hL2:w2.dk.td.length<=1099511627774:=by rw[<-hw2];exact hL
     have hhe:=ho2.hear hxw
     have hm:=yz ho2' hL2 hxw'
     simp only[EW,EX,Af,EV]at hm
     generalize (bH w2 ns[n])=p at hhe hm
     obtain⟨w3,o⟩:=p
     have hn3:w3.ns.length<=1000:=by have:=hhe.1.nlen;simp only at this;omega
     simp only[Wd.e,Word.e,List.cons_append,List.nil_append]at hm htk
     simp (disch:=first|assumption|omega|(simp only[zL];omega)) only[z7,bV,aE,e1,Bool.not_true,io hx,Word.e,h5,h6,if_false,htk,hm,Int.reduceEq,reduceIte,zU,zT,aa]
     cases o with
     | none=>simp[Bv,Wd.e]
     | some y =>
      simp (disch:=first|assumption|omega|(simp only[zL];omega)) only[Option.isSome_some,oW,Option.getD_some,nb,Wd.e,Bv,Int.reduceEq,reduceIte,zU,zT,aa]
  ·have e1:in_ a 0 ((ns.length:Nat)-1)=false:=in_false.2 (by omega)
   have hx:ns[a.toNat]?=none:=List.getElem?_eq_none (by omega)
   simp (disch:=first|assumption|omega|(simp only[zL];omega)) only[z7,bV,aE,e1,Bool.not_false,h0,if_true,hx,Int.reduceEq,reduceIte,zU,zT,aa]
   rfl
 ·have e1:in_ a 0 ((ns.length:Nat)-1)=false:=in_false.2 (by omega)
  simp (disch:=first|assumption|omega|(simp only[zL];omega)) only[z7,bV,aE,e1,Bool.not_false,h0,if_false,Int.reduceEq,reduceIte,zU,zT,aa]
  rfl
theorem yC(ho:WOk ⟨⟨up,⟨rs,f⟩,td⟩,hs,ns⟩)(hL:td.length<=1099511627774){k a b:Int}{m:List Int}(hm:m.length<=2000000) :
  tS [.bool up,.list (rs.map Rec.e),.int .i64 f,.list (td.map Word.e),.list (hs.map House.e),.list (ns.map Word.e),.int .i64 k,.int .i64 a,.int .i64 b,.list (m.map eI)]=some (gI ⟨⟨up,⟨rs,f⟩,td⟩,hs,ns⟩ ⟨k,a,b,m⟩).e:=by
 rw[q_es]
 have hd:DkOk ⟨up,⟨rs,f⟩,td⟩:=ho.dk
 have hlg:LgOk ⟨rs,f⟩:=hd.lg
 have hS:=hlg.S
 have tA:TrOk (aj ⟨rs,f⟩ false):=hd.trOk false
 have lA:=tA.len
 have hnl:ns.length<=14:=ho.nlen
 unfold gI
 simp only
 by_cases h1:k=1
 ·subst h1
  simp (disch:=first|assumption|omega|(simp only[zL];omega)) only[y5,gZ,qh,aE,fb,if_true,fF,eY,ak,Int.reduceEq,reduceIte,zU,zT,aa]
  rcases Bool.eq_false_or_eq_true (aF ⟨4,((aj ⟨rs,f⟩ false).length:Int)+1,m⟩)with hr|hr
  ·simp (disch:=first|assumption|omega|(simp only[zL];omega)) only[hr,fe,Desk.e,List.cons_append,if_true,Int.reduceEq,reduceIte,zU,zT,aa]
   simp[Wd.e]
  ·simp[hr,Wd.e]
 ·by_cases h2:k=2
  ·subst h2
   simp (disch:=first|assumption|omega|(simp only[zL];omega)) only[y5,bV,if_true,if_false,iU,Int.reduceEq,reduceIte,zU,zT,aa]
   cases hi:in_ a 1 6 with
   | false=>simp[Wd.e]
   | true =>
    have hw:=fe hd (k:=6) (t:=a) (m:=[]) (by simp[aF,in_iff,in_iff.1 hi])
    simp only[List.map_nil,Desk.e,List.cons_append,List.nil_append]at hw
    simp (disch:=first|assumption|omega|(simp only[zL];omega)) only[hw,Int.reduceEq,reduceIte,zU,zT,aa]
    simp[Wd.e]
  ·by_cases h3:k=3
   ·subst h3
    have hwl:(bI ⟨up,⟨rs,f⟩,td⟩).length<=1000:=by have:=me hd;omega
    generalize hwd:bI ⟨up,⟨rs,f⟩,td⟩=l at hwl
    have hmw:=vh hd (by omega)
    rw[hwd]at hmw
    by_cases h0:0<=a
    ·by_cases hlt:a<l.length
     ·have e1:in_ a 0 ((l.length:Nat)-1)=true:=in_iff.2 (by omega)
      obtain⟨n,rfl⟩:=Int.eq_ofNat_of_zero_le h0
      have hn:n<l.length:=by omega
      have hx:l[n]?=some l[n]:=by simp[hn]
      simp (disch:=first|assumption|omega|(simp only[zL];omega)) only[y5,hmw,bV,aE,e1,Int.toNat_natCast,h0,if_true,if_false,hx,io hx,Word.e,nb,Wd.e,Int.reduceEq,reduceIte,zU,zT,aa]
     ·have e1:in_ a 0 ((l.length:Nat)-1)=false:=in_false.2 (by omega)
      have hx:l[a.toNat]?=none:=List.getElem?_eq_none (by omega)
      simp (disch:=first|assumption|omega|(simp only[zL];omega)) only[y5,hmw,bV,aE,e1,h0,if_true,if_false,hx,Int.reduceEq,reduceIte,zU,zT,aa]
      rfl
    ·have e1:in_ a 0 ((l.length:Nat)-1)=false:=in_false.2 (by omega)
     simp (disch:=first|assumption|omega|(simp only[zL];omega)) only[y5,hmw,bV,aE,e1,h0,if_true,if_false,Int.reduceEq,reduceIte,zU,zT,aa]
     rfl
   ·simp (disch:=first|assumption|omega|(simp only[zL];omega)) only[y5,h1,h2,h3,if_false,Int.reduceEq,reduceIte,zU,zT,aa]
    rfl
theorem Cl(ho:WOk ⟨⟨up,⟨rs,f⟩,td⟩,hs,ns⟩)(hL:td.length<=1099511627774){k a b:Int}{m:List Int}(hm:m.length<=2000000) :
  li [.bool up,.list (rs.map Rec.e),.int .i64 f,.list (td.map Word.e),.list (hs.map House.e),.list (ns.map Word.e),.int .i64 k,.int .i64 a,.int .i64 b,.list (m.map eI)]=some (wdo ⟨⟨up,⟨rs,f⟩,td⟩,hs,ns⟩ ⟨k,a,b,m⟩).e:=by
 rw[q_fp]
 have hA:=fun k=>yC ho hL (k:=k) (a:=a) (b:=b) hm
 have hB:=fun k=>zA ho hL (k:=k) (a:=a) (b:=b) (m:=m.map eI)
 have hC:=fun k=>yB ho (k:=k) (a:=a) (b:=b) (m:=m.map eI)
 have eB:∀ k,jX ⟨⟨up,⟨rs,f⟩,td⟩,hs,ns⟩ ⟨k,a,b,[]⟩=jX ⟨⟨up,⟨rs,f⟩,td⟩,hs,ns⟩ ⟨k,a,b,m⟩:=fun _=>rfl
 have eC:∀ k,cd ⟨⟨up,⟨rs,f⟩,td⟩,hs,ns⟩ ⟨k,a,b,[]⟩=cd ⟨⟨up,⟨rs,f⟩,td⟩,hs,ns⟩ ⟨k,a,b,m⟩:=fun _=>rfl
 simp only[eB,eC,Wd.e]at hA hB hC
 unfold wdo
 simp only[F_fp,bn]
 by_cases c1:k=1\/k=2\/k=3
 ·simp only[c1,if_true]
  rcases c1 with e|e|e<;>subst e<;>simp (disch:=first|assumption|omega|(simp only[zL];omega)) only[wg,hA,Wd.e,if_true,if_false,BEq.rfl,Int.reduceEq,reduceIte,zU,zT,aa]
 ·simp only[c1,if_false]
  have n1:¬ k=1:=by omega
  have n2:¬ k=2:=by omega
  have n3:(k==3)=false:=by simpa using(by omega:¬ k=3)
  simp only[n1,n2,n3,if_false,ba,aa,C.toBool_bool,wg,aB,bn]
  by_cases c2:k=4\/k=5\/k=6
  ·simp only[c2,if_true]
   rcases c2 with e|e|e<;>subst e<;>simp (disch:=first|assumption|omega|(simp only[zL];omega)) only[hB,Wd.e,if_true,if_false,Int.reduceEq,reduceIte,zU,zT,aa]
  ·simp only[c2,if_false]
   have n4:¬ k=4:=by omega
   have n5:¬ k=5:=by omega
   have n6:¬ k=6:=by omega
   simp only[n4,n5,n6,if_false]
   by_cases c3:k=7\/k=8\/k=9
   ·simp only[c3,if_true]
    rcases c3 with e|e|e<;>subst e<;>simp (disch:=first|assumption|omega|(simp only[zL];omega)) only[hC,Wd.e,if_true,if_false,Int.reduceEq,reduceIte,zU,zT,aa]
   ·simp only[c3,if_false]
    have n7:¬ k=7:=by omega
    have n8:¬ k=8:=by omega
    have n9:¬ k=9:=by omega
    simp only[n7,n8,n9,if_false]
    rfl
end
end Dx
namespace Dx
open Go
theorem xv{F:List C->Option Out}{I:Nat->List C->Prop}{Q:Out->Prop}
  (h:∀ n ps,I n ps->(∃ ps' n',n'<n/\F ps=some (.jump ps')/\I n' ps')\/(∃ o,F ps=some (.up o)/\Q o)):∀(n:Nat) (ps:List C),I n ps->∃ o,aN F ps=some o/\Q o:=by
 intro n
 induction n using Nat.strongRecOn with
 | _ n ih =>
  intro ps hI
  rcases h n ps hI with ⟨ps',n',hlt,h1,h2⟩|⟨o,h1,h2⟩
  ·obtain⟨o,h3,h4⟩:=ih n' hlt ps' h2
   exact⟨o,by rw[jS,h1];exact h3,h4⟩
  ·exact⟨o,by rw[jS,h1];rfl,h2⟩
@[simp] theorem nc (o:Out) (k:List C->Option Out):bl (some (.up o)) k=some o:=rfl
def Rd(bs:List Int):Prop:=bs.length<=2000/\∀ b∈bs,0<=b/\b<=255
theorem EY{l:List Int}{i:Int}{x:Int}(h0:0<=i)(h:l[i.toNat]?=some x){kk:IntKind}{f:List C->Option Out}:aO (.list (l.map eB)) (.int kk i) [.int .u8] f=f (eB x):=dm h0 h rfl
theorem FE{a b:Int}(ha:0<=a/\a<1099511627776)(hb:0<=b/\b<1099511627776):(BitVec.ofInt 64 a ^^^ BitVec.ofInt 64 b).toNat<1099511627776:=by
 obtain⟨n,rfl⟩:=Int.eq_ofNat_of_zero_le ha.1
 obtain⟨m,rfl⟩:=Int.eq_ofNat_of_zero_le hb.1
 rw[BitVec.toNat_xor,BitVec.toNat_ofInt,BitVec.toNat_ofInt]
 have e1:((n:Int) % (2 ^ 64:Nat)).toNat=n:=by omega
 have e2:((m:Int) % (2 ^ 64:Nat)).toNat=m:=by omega
 rw[e1,e2]
 exact Nat.xor_lt_two_pow (n:=40) (by omega) (by omega)
theorem ng{x n:Int}(hx:0<=x)(hn:1<=n):0<=Int.tmod x n/\Int.tmod x n<n:=⟨Int.tmod_nonneg _ hx,Int.tmod_lt_of_pos _ (by omega)⟩
theorem Ag{bs:List Int}(hb:Rd bs){p n:Int}(h0:0<=p)(h1:p<=1000000000)(hn:n<=1000000000) :
  ∃ x,cj [.list (bs.map eB),.int .i64 p,.int .i64 n]=some [.int .i64 x,.list (bs.map eB),.int .i64 (p+1)]/\0<=x/\(1<=n->x<n)/\x<=1000000000:=by
 rw[q_cs]
 have w1:IntKind.wrap .i64 (p+1)=p+1:=aE (by omega) (by omega)
 have w2:IntKind.wrap .i64 (p+1-1)=p:=by rw[aE (by omega) (by omega)];omega
 simp only[F_cs,w1,w2,a8,bn,List.length_map]
 by_cases c1:n<1
 ·exact⟨0,by simp[c1],by omega,by omega,by omega⟩
 simp only[c1,if_false]
 by_cases c2:((bs.length:Nat):Int)=0
 ·exact⟨0,by simp[c2],by omega,by omega,by omega⟩
 simp only[c2,if_false]
 have hl:=hb.1
 have hn0:(n != 0)=true:=by simp;omega
 have hl0:(((bs.length:Nat):Int) != 0)=true:=by rw[bne_iff_ne];omega
 by_cases c3:p<((bs.length:Nat):Int)
 ·have hx:bs[p.toNat]?=some (bs[p.toNat]'(by omega)):=List.getElem?_eq_getElem (by omega)
  have hx2:=hb.2 _ (List.mem_of_getElem? hx)
  have w3:IntKind.wrap .i64 (bs[p.toNat]'(by omega))=bs[p.toNat]'(by omega):=aE (by omega) (by omega)
  have:=ng hx2.1 (show 1<=n by omega)
  refine⟨_,?_,this.1,fun _=>this.2,by omega⟩
  simp only[c3,if_true,EY h0 hx,eB,aa,C.toInt_int,w3,hn0,fj,az]
 simp only[c3,if_false]
 have hmod:∀ a:Int,0<=a->0<=Int.tmod a (bs.length:Nat)/\(Int.tmod a (bs.length:Nat)).toNat<bs.length:=fun a ha=>by
  have:=ng ha (show (1:Int)<=(bs.length:Nat) by omega)
  exact⟨this.1,by omega⟩
 have hrow:∀(a:Int) (f:List C->Option Out),0<=a->∃ x,0<=x/\x<=255/\aO (.list (bs.map eB)) (.int .i64 (Int.tmod a (bs.length:Nat))) [.int .u8] f=f (eB x):=fun a f ha=>by
  obtain⟨m1,m2⟩:=hmod a ha
  have hx:bs[(Int.tmod a (bs.length:Nat)).toNat]?=some bs[(Int.tmod a (bs.length:Nat)).toNat]:=by simp[m2]
  have hx2:=hb.2 _ (List.mem_of_getElem? hx)
  exact⟨_,hx2.1,hx2.2,EY m1 hx⟩
 simp only[hl0,fj]
 have w7:IntKind.wrap .i64 (IntKind.wrap .i64 (p*7)+3)=p*7+3:=by rw[aE (x:=p*7) (by omega) (by omega),aE (by omega) (by omega)]
 rw[w7]
 obtain⟨x,hx1,hx2,e⟩:=hrow p _ h0
 rw[e]
 simp only[eB,aa,C.toInt_int]
 obtain⟨y,hy1,hy2,e⟩:=hrow (p*7+3) _ (by omega)
 rw[e]
 simp only[eB,aa,C.toInt_int]
 have hd:0<=Int.tdiv p (bs.length:Nat)/\Int.tdiv p (bs.length:Nat)<=p:=by
  obtain⟨k,rfl⟩:=Int.eq_ofNat_of_zero_le h0
  rw[<-Int.ofNat_tdiv]
  have:=Nat.div_le_self k bs.length
  generalize k / bs.length=d at this ⊢
  omega
 have s1:IntKind.wrap .i64 x=x:=aE (by omega) (by omega)
 have s2:IntKind.wrap .i64 y=y:=aE (by omega) (by omega)
 have s3:IntKind.wrap .i64 (x*131)=x*131:=aE (by omega) (by omega)
 have s4:IntKind.wrap .i64 (y*1117)=y*1117:=aE (by omega) (by omega)
 have s5:IntKind.wrap .i64 (p*29)=p*29:=aE (by omega) (by omega)
 have s6:IntKind.wrap .i64 (x*131+y*1117)=x*131+y*1117:=aE (by omega) (by omega)
 have s7:IntKind.wrap .i64 (x*131+y*1117+p*29)=x*131+y*1117+p*29:=aE (by omega) (by omega)
 have s8:IntKind.wrap .i64 (Int.tdiv p (bs.length:Nat))=Int.tdiv p (bs.length:Nat):=aE (by omega) (by omega)
 have s9:IntKind.wrap .i64 (Int.tdiv p (bs.length:Nat)*53)=Int.tdiv p (bs.length:Nat)*53:=aE (by omega) (by omega)
 have s10:IntKind.wrap .i64 (x*131+y*1117+p*29+Int.tdiv p (bs.length:Nat)*53)=x*131+y*1117+p*29+Int.tdiv p (bs.length:Nat)*53:=aE (by omega) (by omega)
 simp only[s1,s2,s3,s4,s5,s6,s7,s8,s9,s10]
 generalize hz:x*131+y*1117+p*29+Int.tdiv p (bs.length:Nat)*53=z
 have hz':0<=z/\z<1099511627776:=by omega
 have hq:0<=Int.tdiv z 64/\Int.tdiv z 64<1099511627776:=by
  obtain⟨k,rfl⟩:=Int.eq_ofNat_of_zero_le hz'.1
  have:Int.tdiv (k:Int) 64=((k / 64:Nat):Int):=rfl
  rw[this];omega
 have s11:IntKind.wrap .i64 (Int.tdiv z 64)=Int.tdiv z 64:=aE (by omega) (by omega)
 rw[s11]
 have hx:=FE hz' hq
 have s12:IntKind.wrap .i64 ((BitVec.ofInt 64 z ^^^ BitVec.ofInt 64 (Int.tdiv z 64)).toNat:Int)=((BitVec.ofInt 64 z ^^^ BitVec.ofInt 64 (Int.tdiv z 64)).toNat:Int):=aE (by omega) (by omega)
 rw[s12]
 have:=ng (x:=((BitVec.ofInt 64 z ^^^ BitVec.ofInt 64 (Int.tdiv z 64)).toNat:Int)) (by omega) (show 1<=n by omega)
 exact⟨_,by simp only[hn0,fj,az],this.1,fun _=>this.2,by omega⟩
theorem mm{bs:List Int}(hb:Rd bs):∃ pk:Int->Int->Int,∀ p n,0<=p->p<=1000000000->n<=1000000000 ->
  cj [.list (bs.map eB),.int .i64 p,.int .i64 n]=some [.int .i64 (pk p n),.list (bs.map eB),.int .i64 (p+1)]/\0<=pk p n/\(1<=n->pk p n<n)/\pk p n<=1000000000:=by
 classical
 refine⟨fun p n=>if h:0<=p/\p<=1000000000/\n<=1000000000 then Classical.choose (Ag hb h.1 h.2.1 h.2.2) else 0,fun p n h0 h1 h2=>?_⟩
 dsimp only
 rw[dif_pos ⟨h0,h1,h2⟩]
 exact Classical.choose_spec (Ag hb h0 h1 h2)
theorem zB{code:List Int}(hl:code.length<=1099511627776)(hc:∀ b∈code,0<=b/\b<=255):∃ bs,Rd bs/\tN [.list (code.map eB)]=some [.list (bs.map eB),.int .i64 0]:=by
 rw[q_ex]
 simp only[F_ex,a8,List.length_map]
 by_cases h:((code.length:Nat):Int)>2000
 ·refine⟨code.take 2000,⟨by simp;omega,fun b hb=>hc b (List.mem_of_mem_take hb)⟩,?_⟩
  simp only[h,if_true]
  rw[cM (by omega) (by omega)]
  simp
 ·exact⟨code,⟨by omega,hc⟩,by simp[h]⟩
theorem yD:tP []=some deskNew.e:=by rw[q_ed];rfl
theorem vj{id room:Int}:tQ [.int .i64 id,.int .i64 room] =
  some (if in_ id 1 3 && in_ room 0 9 then(⟨id,true,room,⟨[],0⟩⟩:House).e++[.bool true] else(⟨0,false,0,⟨[],0⟩⟩:House).e++[.bool false]):=by
 rw[q_df]
 simp (disch:=first|assumption|omega|(simp only[zL];omega)) only[F_df,ml,bV,Stock.e,List.cons_append,Int.reduceEq,reduceIte,zU,zT,aa]
 cases in_ id 1 3<;>cases in_ room 0 9<;>rfl
def nh:Nat->List Int->List House
 | _,[]=>[]
 | i,r::rs=>⟨((i+1:Nat):Int),true,r,⟨[],0⟩⟩::nh (i+1) rs
theorem Bx:∀(rs:List Int) (i:Nat),nh i rs=(rs.zipIdx (i+1)).map fun p=>⟨p.2,true,p.1,⟨[],0⟩⟩
 | [],i=>rfl
 | r::rs,i=>by simp[nh,Bx rs (i+1)]
def wd0:Wd:=⟨⟨false,⟨[],0⟩,[]⟩,[],[]⟩
theorem mn{rooms:List Int}(hL:rooms.length<=1099511627775):oD [.list (rooms.map eI)]=some (((aV rooms).getD wd0).e++[.bool (aV rooms).isSome]):=by
 rw[q_dp]
 simp (disch:=first|assumption|omega|(simp only[zL];omega)) only[F_dp,yD,Desk.e,deskNew,Int.reduceEq,reduceIte,zU,zT,aa]
 have key:=aL (l:=rooms) (F:=fun ps=>qE (rooms.map eI) true [] 0 [] ((aa ps 0).toInt) ((aa ps 1).toList)) (enc:=fun i (s:List House)=>[.int .i64 i,.list (s.map House.e)])
  (res:=fun xs i s=>.ret (((if rooms.length=3/\xs.all (fun n=>in_ n 0 9)=true then some (⟨deskNew,s++nh i xs,[]⟩:Wd) else none).getD wd0).e++[.bool (if rooms.length=3/\xs.all (fun n=>in_ n 0 9)=true then some (⟨deskNew,s++nh i xs,[]⟩:Wd) else none).isSome])) (fun i s=>s.length=i) (s:=[]) (by simp) ?_ ?_
 ·have key:aN _ [C.int .i64 0,C.list []]=_:=key
  simp only[List.map_nil]at key ⊢
  rw[key]
  have:(if rooms.length=3/\rooms.all (fun n=>in_ n 0 9)=true then some (⟨deskNew,[]++nh 0 rooms,[]⟩:Wd) else none)=aV rooms:=by
   unfold aV ch
   rw[Bx];simp
  rw[this];rfl
 ·intro i x xs s hx hs
  have hi:=(List.getElem?_eq_some_iff.1 hx).1
  have hi':(i:Int)<(rooms.length:Nat):=by omega
  simp only[qE,aa,C.toInt_int,C.toList_list,List.length_map,a8,hi',if_true,gl hx,eI]
  simp (disch:=first|assumption|omega|(simp only[zL];omega)) only[al,vj]
  by_cases hok:(in_ ((i+1:Nat):Int) 1 3 && in_ x 0 9)=true
  ·have hr:=in_iff.1 (Bool.and_eq_true_iff.1 hok).1
   rw[if_pos hok]
   simp only[House.e,List.cons_append,List.nil_append,kp,aa,C.toInt_int,C.toList_list,C.toBool_bool,List.map_nil,Bool.not_true,aB]
   rw[bo (by simp[bJ];omega)]
   refine .inl ⟨s++[⟨((i+1:Nat):Int),true,x,⟨[],0⟩⟩],by simp[House.e],by simp[hs],?_⟩
   have:=(Bool.and_eq_true_iff.1 hok).2
   simp[nh,this]
  ·rw[if_neg hok]
   refine .inr ⟨_,rfl,?_⟩
   have:¬ (rooms.length=3/\(x::xs).all (fun n=>in_ n 0 9)=true):=by
    intro ⟨h3,ha⟩
    simp only[List.all_cons,Bool.and_eq_true]at ha
    exact hok (Bool.and_eq_true_iff.2 ⟨in_iff.2 (by omega),ha.1⟩)
   simp only[this,if_false];rfl
 ·intro s hs
  have h:¬ ((rooms.length:Int)<(rooms.length:Nat)):=by omega
  simp only[qE,aa,C.toInt_int,C.toList_list,List.length_map,a8,h,if_false,xq]
  by_cases h3:rooms.length=3
  ·have h3':((rooms.length:Nat):Int)=3:=by omega
   simp[h3,upD,nh,Wd.e,deskNew]
  ·have h3':¬ ((rooms.length:Nat):Int)=3:=by omega
   simp[h3,h3',upD,Wd.e,wd0]
end Dx
namespace Dx
open Go
def EvS(e:Ev):Prop:=e.m.length<=2000000
section
variable {bs:List Int}
def EvOut(bs:List Int)(p:Int)(r:Option (List C)):Prop:=∃(e:Ev) (p':Int),r=some (e.e++[.list (bs.map eB),.int .i64 p'])/\p<=p'/\p'<=p+10/\EvS e
theorem EvOut.ite{p:Int}{c:Prop}[Decidable c]{a b:Option (List C)}(ha:EvOut bs p a)(hb:EvOut bs p b):EvOut bs p (if c then a else b):=by split<;>assumption
theorem i6{p p' k a b:Int}(h1:p<=p')(h2:p'<=p+10):EvOut bs p (some [.int .i64 k,.int .i64 a,.int .i64 b,.list [],.list (bs.map eB),.int .i64 p']):=⟨⟨k,a,b,[]⟩,p',rfl,h1,h2,by simp[EvS]⟩
theorem FF{p p' k a b x y z:Int}(h1:p<=p')(h2:p'<=p+10):EvOut bs p (some [.int .i64 k,.int .i64 a,.int .i64 b,.list [[.int .i64 x],[.int .i64 y],[.int .i64 z]],.list (bs.map eB),.int .i64 p']):=⟨⟨k,a,b,[x,y,z]⟩,p',rfl,h1,h2,by simp[EvS]⟩
theorem ev0(hb:Rd bs){v p:Int}(h0:0<=p)(h1:p<=900000000)(b:Bool):EvOut bs p (ai (wi v (bs.map eB) p b)):=by
 obtain⟨pk,hpk⟩:=mm hb
 have q:=fun p n h0 h1 h2=>(hpk p n h0 h1 h2).1
 unfold wi
 simp (disch:=first|assumption|omega|(simp only[zL];omega)) only[q,Int.reduceEq,reduceIte,zU,zT,aa]
 cases b with
 | true=>simp only[aD,az];exact i6 (by omega) (by omega)
 | false =>
  simp only[aB,eL,az]
  refine EvOut.ite (i6 (by omega) (by omega)) (EvOut.ite (i6 (by omega) (by omega)) (EvOut.ite (i6 (by omega) (by omega)) (EvOut.ite (i6 (by omega) (by omega)) (EvOut.ite (i6 (by omega) (by omega)) (i6 (by omega) (by omega))))))
theorem ev1(hb:Rd bs){n ws v p:Int}(h0:0<=p)(h1:p<=900000000)(hn:0<=n/\n<=1000)(hw:0<=ws/\ws<=1000)(b:Bool):EvOut bs p (ai (wj n ws v (bs.map eB) p b)):=by
 obtain⟨pk,hpk⟩:=mm hb
 have q:=fun p n h0 h1 h2=>(hpk p n h0 h1 h2).1
 have j:=fun b=>ev0 hb (v:=v) h0 h1 b
 unfold wj
 simp (disch:=first|assumption|omega|(simp only[zL];omega)) only[q,aE,Int.reduceEq,reduceIte,zU,zT,aa]
 cases b with
 | true=>simp only[aD,az];exact i6 (by omega) (by omega)
 | false =>
  simp only[aB,eL,az]
  refine EvOut.ite (i6 (by omega) (by omega)) (EvOut.ite (i6 (by omega) (by omega)) (EvOut.ite (j _) (EvOut.ite (j _) (j _))))
theorem ev2(hb:Rd bs){n tr ws v p:Int}(h0:0<=p)(h1:p<=900000000)(hn:0<=n/\n<=1000)(ht:0<=tr/\tr<=1000)(hw:0<=ws/\ws<=1000)(b:Bool):EvOut bs p (ai (wl n tr ws v (bs.map eB) p b)):=by
 obtain⟨pk,hpk⟩:=mm hb
 have q:=fun p n h0 h1 h2=>(hpk p n h0 h1 h2).1
 have j:=fun b=>ev1 hb (v:=v) h0 h1 hn hw b
 unfold wl
 simp (disch:=first|assumption|omega|(simp only[zL];omega)) only[q,aE,Int.reduceEq,reduceIte,zU,zT,aa]
 cases b with
 | true=>simp only[aD,az];exact FF (by omega) (by omega)
 | false =>
  simp only[aB,eL,az]
  refine EvOut.ite (i6 (by omega) (by omega)) (EvOut.ite (j _) (EvOut.ite (j _) (EvOut.ite (j _) (EvOut.ite (j _) (j _)))))
def EvOut'(bs:List Int)(p:Int)(r:Option (List C)):Prop:=∃(e:Ev) (p':Int),r=some (e.e++[.list (bs.map eB),.int .i64 p'])/\p<=p'/\p'<=p+20/\EvS e
theorem EvOut.up{p q:Int}{r:Option (List C)}(h:EvOut bs p r)(h1:q<=p)(h2:p<=q+10):EvOut' bs q r:=by
 obtain⟨e,p',e1,e2,e3,e4⟩:=h
 exact⟨e,p',e1,by omega,by omega,e4⟩
theorem EvOut'.ite{p:Int}{c:Prop}[Decidable c]{a b:Option (List C)}(ha:EvOut' bs p a)(hb:EvOut' bs p b):EvOut' bs p (if c then a else b):=by split<;>assumption
theorem ev3(hb:Rd bs){n tr ws p:Int}(h0:0<=p)(h1:p<=800000000)(hn:0<=n/\n<=1000)(ht:0<=tr/\tr<=1000)(hw:0<=ws/\ws<=1000):EvOut bs (p+1) (ai (wo n tr ws (bs.map eB) p)):=by
 obtain⟨pk,hpk⟩:=mm hb
 have q:=fun p n h0 h1 h2=>(hpk p n h0 h1 h2).1
 have j:=fun v b=>ev2 hb (n:=n) (tr:=tr) (ws:=ws) (v:=v) (p:=p+1) (by omega) (by omega) hn ht hw b
 unfold wo
 simp (disch:=first|assumption|omega|(simp only[zL];omega)) only[q,Int.reduceEq,reduceIte,zU,zT,aa]
 by_cases hv:pk p 20=0
 ·simp only[hv,if_true];exact j _ _
 ·simp only[hv,if_false];exact j _ _
theorem rW{d:Desk}(h:DkOk ⟨d.up,d.lg,[]⟩):(bI d).length<=18:=by
 have tF:TrOk (aj d.lg true):=h.trOk true
 have lF:=tF.len
 unfold bI
 split
 ·have:=iZ d.td (ak d true) 1 fun x hx=>by
   have:=bc (tripOk_iff.1 (tF.ok x hx)).1
   omega
  have e:(ak d true).length=(aj d.lg true).length:=rfl
  omega
 ·simp
theorem rX(hb:Rd bs){p:Int}(h0:0<=p)(h1:p<=700000000){w:Wd}(hd:DkOk ⟨w.dk.up,⟨w.dk.lg.rs,w.dk.lg.f⟩,[]⟩)(htl:w.dk.td.length<=1000)(hnl:w.ns.length<=1000) :
  EvOut' bs p (qQ [.list (bs.map eB),.int .i64 p,.bool w.dk.up,.list (w.dk.lg.rs.map Rec.e),.int .i64 w.dk.lg.f,.list (w.dk.td.map Word.e),.list (w.hs.map House.e),.list (w.ns.map Word.e)]):=by
 rw[q_de]
 obtain⟨pk,hpk⟩:=mm hb
 have q:=fun p n h0 h1 h2=>(hpk p n h0 h1 h2).1
 have hS:=hd.lg.S
 have hS':LgS ⟨w.dk.lg.rs,w.dk.lg.f⟩:=hS
 have lA:=(hd.trOk false).len
 have hwl:(bI w.dk).length<=18:=rW (d:=w.dk) hd
 simp only[ak]at lA
 have lA':(aj w.dk.lg false).length<=6:=lA
 have j:=fun p h0 h1=>ev3 hb (n:=((w.ns.length:Nat):Int)) (tr:=((aj w.dk.lg false).length:Nat)) (ws:=((bI w.dk).length:Nat)) (p:=p) h0 h1 (by omega) (by omega) (by omega)
 simp (disch:=first|assumption|omega|(simp only[zL];omega)) only[F_de,gZ,kL hd,q,nc,Int.reduceEq,reduceIte,zU,zT,aa]
 by_cases hz:((w.ns.length:Nat):Int)>0
 ·simp only[hz,if_true]
  refine EvOut'.ite ?_ ?_
  ·exact⟨⟨4,_,0,[]⟩,p+1+1,rfl,by omega,by omega,by simp[EvS]⟩
  ·exact(j (p+1) (by omega) (by omega)).up (by omega) (by omega)
 ·simp only[hz,if_false]
  exact(j p h0 (by omega)).up (by omega) (by omega)
theorem vk(hb:Rd bs){p:Int}(h0:0<=p)(h1:p<=700000000){w:Wd}(ho:WOk w) :
  EvOut' bs p (qQ [.list (bs.map eB),.int .i64 p,.bool w.dk.up,.list (w.dk.lg.rs.map Rec.e),.int .i64 w.dk.lg.f,.list (w.dk.td.map Word.e),.list (w.hs.map House.e),.list (w.ns.map Word.e)]) :=
 rX hb h0 h1 ho.dk.bare (by have:=ho.dk.tdlen;omega) (by have:=ho.nlen;omega)
theorem vl(hb:Rd bs){p:Int}(h0:0<=p)(h1:p<=700000000) :
  ∃ a b c,tO [.list (bs.map eB),.int .i64 p]=some [.list ([a,b,c].map eI),.list (bs.map eB),.int .i64 (p+1+1+1)]/\0<=a/\a<=5/\0<=b/\b<=5/\1<=c/\c<=5:=by
 rw[q_di]
 obtain⟨pk,hpk⟩:=mm hb
 have q:=fun p n h0 h1 h2=>(hpk p n h0 h1 h2).1
 have r1:=hpk p 6 h0 (by omega) (by omega)
 have r2:=hpk (p+1) 6 (by omega) (by omega) (by omega)
 have r3:=hpk (p+1+1) 5 (by omega) (by omega) (by omega)
 have b1:=r1.2.2.1 (by omega)
 have b2:=r2.2.2.1 (by omega)
 have b3:=r3.2.2.1 (by omega)
 refine⟨pk p 6,pk (p+1) 6,1+pk (p+1+1) 5,?_,r1.2.1,by omega,r2.2.1,by omega,by omega,by omega⟩
 simp (disch:=first|assumption|omega|(simp only[zL];omega)) only[F_di,q,aE,Int.reduceEq,reduceIte,zU,zT,aa]
 rfl
end
theorem nW(w:Wd)(a b:List Ev):bA w (a++b)=bA (bA w a) b:=by
 induction a generalizing w with
 | nil=>rfl
 | cons e es ih=>exact ih _
structure Drawn (w0:Wd) (es:List Ev) (w:Wd) (n:Nat):Prop where
 play:w=bA w0 es
 len:es.length<=n
 sz:∀ e∈es,EvS e
theorem Drawn.snoc{w0 w:Wd}{es:List Ev}{n:Nat}(h:Drawn w0 es w n){e:Ev}(he:EvS e):Drawn w0 (es++[e]) (wdo w e) (n+1) :=
 ⟨by rw[h.play,nW];rfl,by have:=h.len;simp;omega,fun x hx=>by
  rcases List.mem_append.1 hx with hx|hx
  ·exact h.sz x hx
  ·simp at hx;exact hx ▸ he⟩
theorem ni{w:Wd}(ho:WOk w){e:Ev}(he:EvS e) :
  li [.bool w.dk.up,.list (w.dk.lg.rs.map Rec.e),.int .i64 w.dk.lg.f,.list (w.dk.td.map Word.e),.list (w.hs.map House.e),.list (w.ns.map Word.e),.int .i64 e.k,.int .i64 e.a,.int .i64 e.b,.list (e.m.map eI)]=some (wdo w e).e :=
 Cl (up:=w.dk.up) (rs:=w.dk.lg.rs) (f:=w.dk.lg.f) (td:=w.dk.td) (hs:=w.hs) (ns:=w.ns) ho (by have:=ho.dk.tdlen;omega) he
theorem lv{l:List Ev}{i:Nat}{x:Ev}(h:l[i]?=some x){kk:IntKind}{f:List C->Option Out}:aO (.list (l.map Ev.e)) (.int kk i) [.int .i64,.int .i64,.int .i64,.list] f=f x.e:=fg h rfl
theorem yE{bs:List Int}(hb:Rd bs){p:Int}(h0:0<=p)(h1:p<=1000) :
  ∃ a b c w0 es w p',t7 [.list (bs.map eB),.int .i64 p]=some ([.list ([a,b,c].map eI),.list (es.map Ev.e)]++(w.e++[.list (bs.map eB),.int .i64 p']))/\0<=a/\a<=5/\0<=b/\b<=5/\1<=c/\c<=5 ∧
   aV [a,b,c]=some w0/\Drawn w0 es w 74/\0<=p'/\p'<=p+2000:=by
 rw[q_ek]
 obtain⟨pk,hpk⟩:=mm hb
 have q:=fun p n h0 h1 h2=>(hpk p n h0 h1 h2).1
 obtain⟨a,b,c,hr,ha1,ha2,hb1,hb2,hc1,hc2⟩:=vl hb h0 (by omega)
 have hw0:aV [a,b,c]=some ⟨deskNew,ch [a,b,c],[]⟩:=by
  unfold aV
  rw[if_pos]
  simp[in_];omega
 generalize hw:(⟨deskNew,ch [a,b,c],[]⟩:Wd)=w0 at hw0
 have ok0:=co hw0
 have hwn:=mn (rooms:=[a,b,c]) (by simp)
 rw[hw0]at hwn
 simp only[Option.getD_some,Option.isSome_some,Wd.e,List.cons_append,List.nil_append]at hwn
 simp (disch:=first|assumption|omega|(simp only[zL];omega)) only[F_ek,hr,hwn,q,Int.reduceEq,reduceIte,zU,zT,aa]
 have tail:∀(w1:Wd) (es1:List Ev),Drawn w0 es1 w1 2->∃ es w p',ai (qR ([a,b,c].map eI) w1.dk.up w1.dk.lg.f (bs.map eB) (p+1+1+1+1) (es1.map Ev.e) (w1.dk.lg.rs.map Rec.e) (w1.dk.td.map Word.e) (w1.hs.map House.e) (w1.ns.map Word.e)) =
   some ([.list ([a,b,c].map eI),.list (es.map Ev.e)]++(w.e++[.list (bs.map eB),.int .i64 p']))/\Drawn w0 es w 74/\0<=p'/\p'<=p+2000:=by
  intro w1 es1 hd1
  unfold qR
  simp (disch:=first|assumption|omega|(simp only[zL];omega)) only[q,Int.reduceEq,reduceIte,zU,zT,aa]
  have hn:=hpk (p+1+1+1+1) 72 (by omega) (by omega) (by omega)
  have hn2:=hn.2.2.1 (by omega)
  have hn1:=hn.2.1
  generalize pk (p+1+1+1+1) 72=n0 at hn1 hn2
  obtain⟨n,rfl⟩:=Int.eq_ofNat_of_zero_le hn1
  have key:=xv (F:=fun ps=>wq ([a,b,c].map eI) ((aa ps 0).toInt) ((aa ps 1).toList) ((aa ps 2).toInt) ((aa ps 3).toBool) ((aa ps 4).toInt) ((aa ps 5).toList) ((aa ps 6).toList) ((aa ps 7).toList) ((aa ps 8).toList) ((aa ps 9).toList))
   (I:=fun k ps=>∃ es w p',ps=[.int .i64 (k:Int),.list (bs.map eB),.int .i64 p',.bool w.dk.up,.int .i64 w.dk.lg.f,.list (es.map Ev.e),.list (w.dk.lg.rs.map Rec.e),.list (w.dk.td.map Word.e),.list (w.hs.map House.e),.list (w.ns.map Word.e)]/\k<=72/\Drawn w0 es w (74-k)/\0<=p'/\p'<=p+5+20*(72-k))
   (Q:=fun o=>∃ es w p',o=.ret ([.list ([a,b,c].map eI),.list (es.map Ev.e)]++(w.e++[.list (bs.map eB),.int .i64 p']))/\Drawn w0 es w 74/\0<=p'/\p'<=p+2000) ?_ n _
   ⟨es1,w1,p+1+1+1+1+1,rfl,by omega,⟨hd1.play,by have:=hd1.len;omega,hd1.sz⟩,by omega,by omega⟩
  ·obtain⟨o,h1,es,w,p',rfl,h2,h3,h4⟩:=key
   exact⟨es,w,p',by rw[h1];rfl,h2,h3,h4⟩
  ·rintro k ps ⟨es,w,p',rfl,hk,hd,hp0,hp1⟩
   have ow:WOk w:=by rw[hd.play];exact ok0.plays es
   simp only[aa,C.toInt_int,C.toBool_bool,C.toList_list]
   unfold wq
   simp only[a8]
   by_cases hk0:(k:Int)>0
   ·left
    simp only[hk0,if_true]
    obtain⟨e,p2,he,he1,he2,he3⟩:=vk hb hp0 (by omega) ow
    rw[he]
    simp only[Ev.e,List.cons_append,List.nil_append,pn,aa,C.toInt_int,C.toList_list]
    rw[ni ow he3]
    have hlen:=hd.len
    rw[bo (by simp[bJ];omega)]
    simp only[Wd.e,dM,aa,C.toInt_int,C.toList_list,C.toBool_bool]
    refine⟨_,k-1,by omega,rfl,es++[e],wdo w e,p2,?_,by omega,?_,by omega,by omega⟩
    ·rw[aE (by omega) (by omega)]
     have:(k:Int)-1=((k-1:Nat):Int):=by omega
     rw[this];simp[Ev.e]
    ·have:=hd.snoc he3
     exact⟨this.play,by have:=this.len;omega,this.sz⟩
   ·right
    simp only[hk0,if_false]
    exact⟨_,rfl,es,w,p',rfl,⟨hd.play,by have:=hd.len;omega,hd.sz⟩,hp0,by omega⟩
 have fin:∀(w1:Wd) (es1:List Ev),Drawn w0 es1 w1 2->∃ a' b' c' w0' es w p',ai (qR ([a,b,c].map eI) w1.dk.up w1.dk.lg.f (bs.map eB) (p+1+1+1+1) (es1.map Ev.e) (w1.dk.lg.rs.map Rec.e) (w1.dk.td.map Word.e) (w1.hs.map House.e) (w1.ns.map Word.e)) =
   some ([.list ([a',b',c'].map eI),.list (es.map Ev.e)]++(w.e++[.list (bs.map eB),.int .i64 p']))/\0<=a'/\a'<=5/\0<=b'/\b'<=5/\1<=c'/\c'<=5/\aV [a',b',c']=some w0'/\Drawn w0' es w 74/\0<=p'/\p'<=p+2000:=by
  intro w1 es1 hd1
  obtain⟨es,w,p',h1,h2,h3,h4⟩:=tail w1 es1 hd1
  exact⟨a,b,c,w0,es,w,p',h1,ha1,ha2,hb1,hb2,hc1,hc2,hw0,h2,h3,h4⟩
 by_cases hz:pk (p+1+1+1) 3>0
 ·simp only[hz,if_true]
  have e1:EvS ⟨1,0,0,[1,1,1]⟩:=by simp[EvS]
  have e2:EvS ⟨7,0,0,[]⟩:=by simp[EvS]
  have key:=aL (l:=[(⟨1,0,0,[1,1,1]⟩:Ev),⟨7,0,0,[]⟩]) (F:=fun ps=>nK (bs.map eB) (p+1+1+1+1) ([(⟨1,0,0,[1,1,1]⟩:Ev),⟨7,0,0,[]⟩].map Ev.e) 2 ((aa ps 0).toInt) ((aa ps 1).toBool) ((aa ps 2).toInt) ((aa ps 3).toList) ((aa ps 4).toList) ((aa ps 5).toList) ((aa ps 6).toList) ((aa ps 7).toList))
   (enc:=fun i (s:List Ev×Wd)=>[.int .i64 i,.bool s.2.dk.up,.int .i64 s.2.dk.lg.f,.list (s.1.map Ev.e),.list (s.2.dk.lg.rs.map Rec.e),.list (s.2.dk.td.map Word.e),.list (s.2.hs.map House.e),.list (s.2.ns.map Word.e)])
   (res:=fun xs _ s=>.jump [.bool (bA s.2 xs).dk.up,.int .i64 (bA s.2 xs).dk.lg.f,.list (bs.map eB),.int .i64 (p+1+1+1+1),.list ((s.1++xs).map Ev.e),.list ((bA s.2 xs).dk.lg.rs.map Rec.e),.list ((bA s.2 xs).dk.td.map Word.e),.list ((bA s.2 xs).hs.map House.e),.list ((bA s.2 xs).ns.map Word.e)])
   (fun i s=>WOk s.2/\s.1.length=i) (s:=([],w0)) ⟨ok0,rfl⟩ ?_ ?_
  ·have key:aN (fun ps=>nK (bs.map eB) (p+1+1+1+1) [[C.int .i64 1,C.int .i64 0,C.int .i64 0,C.list [[C.int .i64 1],[C.int .i64 1],[C.int .i64 1]]],[C.int .i64 7,C.int .i64 0,C.int .i64 0,C.list []]] (((0+1+1:Nat):Int)) ((aa ps 0).toInt) ((aa ps 1).toBool) ((aa ps 2).toInt) ((aa ps 3).toList) ((aa ps 4).toList) ((aa ps 5).toList) ((aa ps 6).toList) ((aa ps 7).toList))
    [C.int .i64 0,C.bool w0.dk.up,C.int .i64 w0.dk.lg.f,C.list [],C.list (w0.dk.lg.rs.map Rec.e),C.list (w0.dk.td.map Word.e),C.list (w0.hs.map House.e),C.list (w0.ns.map Word.e)]=_:=key
   rw[key]
   exact fin _ _ ⟨rfl,by simp,fun e he=>by
    simp at he;rcases he with rfl|rfl<;>assumption⟩
  ·rintro i x xs ⟨es,w⟩ hx ⟨ow,hl⟩
   have hi:=(List.getElem?_eq_some_iff.1 hx).1
   have hi':(i:Int)<2:=by simp at hi;omega
   have hx3:EvS x:=by
    have:=List.mem_of_getElem? hx
    simp at this;rcases this with rfl|rfl<;>assumption
   simp only at hl
   simp only[aa,C.toInt_int,C.toBool_bool,C.toList_list]
   unfold nK
   simp only[a8,hi',if_true,lv hx,Ev.e,aa,C.toInt_int,C.toList_list,ni ow hx3]
   rw[bo (by simp;omega),bo (by simp[bJ];omega)]
   simp only[Wd.e,dM,aa,C.toInt_int,C.toList_list,C.toBool_bool]
   rw[al (by omega)]
   refine .inl ⟨(es++[x],wdo w x),?_,⟨ow.do_ x,by simp[hl]⟩,?_⟩
   ·simp[Ev.e]
   ·simp[bA]
  ·rintro⟨es,w⟩ ⟨ow,hl⟩
   simp only[aa,C.toInt_int,C.toBool_bool,C.toList_list]
   unfold nK
   simp[a8,bA]
 ·simp only[hz,if_false]
  exact fin w0 [] ⟨rfl,by simp,by simp⟩
theorem gn{code:List Int}(hl:code.length<=1099511627776)(hc:∀ b∈code,0<=b/\b<=255) :
  ∃(rooms:List Int) (es:List Ev),eV [.list (code.map eB)]=some [.list (rooms.map eI),.list (es.map Ev.e)]/\rooms.length<=4/\es.length<=81/\(∀ e∈es,EvS e):=by
 rw[q_aw]
 obtain⟨bs,hb,ho⟩:=zB hl hc
 obtain⟨pk,hpk⟩:=mm hb
 have q:=fun p n h0 h1 h2=>(hpk p n h0 h1 h2).1
 obtain⟨a,b,c,w0,es,w,p',hp,_,_,_,_,_,_,hw0,hd,hp0,hp1⟩:=yE hb (p:=0) (by omega) (by omega)
 simp only[Wd.e,List.cons_append,List.nil_append]at hp
 have hp1':p'<=1000000000:=by omega
 simp (disch:=first|assumption|omega|(simp only[zL];omega)) only[F_aw,ho,hp,q,Int.reduceEq,reduceIte,zU,zT,aa]
 have hl:=hd.len
 by_cases c1:pk p' 40=0
 ·refine⟨[a,b,c,1],es,?_,by simp,by omega,hd.sz⟩
  simp only[c1,if_true]
  rfl
 ·simp only[c1,if_false]
  by_cases c2:pk p' 40=1
  ·simp only[c2,if_true]
   have key:=xv (F:=fun ps=>wu ([a,b,c].map eI) ((aa ps 0).toList))
    (I:=fun k ps=>∃ es:List Ev,ps=[.list (es.map Ev.e)]/\(∀ e∈es,EvS e)/\es.length+k=81)
    (Q:=fun o=>∃ es:List Ev,o=.ret [.list ([a,b,c].map eI),.list (es.map Ev.e)]/\(∀ e∈es,EvS e)/\es.length<=81) ?_ (81-es.length) _ ⟨es,rfl,hd.sz,by omega⟩
   ·obtain⟨o,h1,es2,rfl,h2,h3⟩:=key
    exact⟨[a,b,c],es2,by rw[h1];rfl,by simp,h3,h2⟩
   ·rintro k ps ⟨es,rfl,h1,h2⟩
    simp only[aa,C.toList_list]
    unfold wu
    simp only[a8,List.length_map]
    by_cases hk:((es.length:Nat):Int)<=80
    ·left
     simp only[hk,if_true]
     rw[bo (by simp[bJ];omega)]
     refine⟨_,k-1,by omega,rfl,es++[⟨7,0,0,[]⟩],by simp[Ev.e],fun e he=>?_,by simp;omega⟩
     rcases List.mem_append.1 he with he|he
     ·exact h1 e he
     ·simp at he;subst he;simp[EvS]
    ·right
     simp only[hk,if_false]
     exact⟨_,rfl,es,rfl,h1,by omega⟩
  ·simp only[c2,if_false]
   exact⟨[a,b,c],es,rfl,by simp,by omega,hd.sz⟩
theorem kM{rooms:List Int}{es:List Ev}(hr:rooms.length<=1099511627775)(hl:es.length<=1099511627776)(hs:∀ e∈es,EvS e) :
  eW [.list (rooms.map eI),.list (es.map Ev.e)]=some (((aU rooms es).getD wd0).e++[.bool (aU rooms es).isSome]):=by
 rw[q_cq]
 have hwn:=mn (rooms:=rooms) hr
 simp only[Wd.e,List.cons_append,List.nil_append]at hwn
 simp (disch:=first|assumption|omega|(simp only[zL];omega)) only[F_cq,hwn,Int.reduceEq,reduceIte,zU,zT,aa]
 unfold aU
 cases hw:aV rooms with
 | none=>simp[Wd.e,wd0]
 | some w0 =>
  have ok0:=co hw
  simp only[Option.isSome_some,Bool.not_true,aD,aB,Option.getD_some,Option.map_some]
  by_cases h80:((es.length:Nat):Int)>80
  ·have h80':es.length>80:=by omega
   simp[h80,h80',Wd.e,wd0]
  ·have h80':¬ es.length>80:=by omega
   simp only[h80,h80',if_false]
   have key:=aL (l:=es) (F:=fun ps=>re (es.map Ev.e) ((aa ps 0).toInt) ((aa ps 1).toBool) ((aa ps 2).toInt) ((aa ps 3).toList) ((aa ps 4).toList) ((aa ps 5).toList) ((aa ps 6).toList))
    (enc:=fun i (w:Wd)=>[.int .i64 i,.bool w.dk.up,.int .i64 w.dk.lg.f,.list (w.dk.lg.rs.map Rec.e),.list (w.dk.td.map Word.e),.list (w.hs.map House.e),.list (w.ns.map Word.e)])
    (res:=fun xs _ w=>.ret ((bA w xs).e++[.bool true])) (fun _ w=>WOk w) (s:=w0) ok0 ?_ ?_
   ·have key:aN _ [C.int .i64 0,C.bool w0.dk.up,C.int .i64 w0.dk.lg.f,C.list (w0.dk.lg.rs.map Rec.e),C.list (w0.dk.td.map Word.e),C.list (w0.hs.map House.e),C.list (w0.ns.map Word.e)]=_:=key
    rw[key];rfl
   ·intro i x xs w hx ow
    have hi:=(List.getElem?_eq_some_iff.1 hx).1
    have hi':(i:Int)<(es.length:Nat):=by omega
    have hx3:=hs x (List.mem_of_getElem? hx)
    simp only[aa,C.toInt_int,C.toBool_bool,C.toList_list]
    unfold re
    simp only[a8,List.length_map,hi',if_true,lv hx,Ev.e,aa,C.toInt_int,C.toList_list,ni ow hx3]
    simp only[Wd.e,dM,aa,C.toInt_int,C.toList_list,C.toBool_bool]
    rw[al (by omega)]
    exact .inl ⟨wdo w x,rfl,ow.do_ x,rfl⟩
   ·intro w ow
    have h:¬ ((es.length:Int)<(es.length:Nat)):=by omega
    simp only[aa,C.toInt_int,C.toBool_bool,C.toList_list]
    unfold re
    simp only[a8,List.length_map,h,if_false,jY]
    rfl
end Dx
namespace Dx
open Go
def lO{α:Type}(p:α->Bool):Nat->List α->Int
 | _,[]=>-1
 | i,x::xs=>if p x then(i:Int) else lO p (i+1) xs
theorem d9{α:Type}(p:α->Bool):∀(xs:List α) (i:Nat),(lO p i xs>=0)↔xs.any p=true
 | [],i=>by simp[lO]
 | x::xs,i=>by
  simp only[lO,List.any_cons,Bool.or_eq_true]
  by_cases h:p x=true
  ·rw[if_pos h];simp[h]
  ·rw[if_neg h,d9 p xs (i+1)];simp[h]
theorem gx{α:Type}{F:List C->Option Out}{l:List α}(p:α->Bool)
  (hs:∀(i:Nat) (x:α),l[i]?=some x->F [.int .i64 i]=if p x then some (.up (.ret [.int .i64 i])) else some (.jump [.int .i64 ((i+1:Nat):Int)]))
  (hf:F [.int .i64 (l.length:Nat)]=some (.up (.ret [.int .i64 (-1)]))):aN F [.int .i64 0]=some (.ret [.int .i64 (lO p 0 l)]):=by
 have:=aL (l:=l) (F:=F) (enc:=fun i (_:Unit)=>[.int .i64 i]) (res:=fun xs i _=>.ret [.int .i64 (lO p i xs)]) (fun _ _=>True) (s:=()) trivial
  (fun i x xs s hx _=>by
   rw[hs i x hx]
   cases h:p x with
   | true=>exact .inr ⟨_,rfl,by simp[lO,h]⟩
   | false=>exact .inl ⟨(),rfl,trivial,by simp[lO,h]⟩)
  (fun s _=>hf)
 exact this
theorem lP(n lo hi:Int):bD [.int .i64 n,.int .i64 lo,.int .i64 hi]=some [.bool (in_ n lo hi)]:=by
 rw[q_gb]
 simp only[F_gb,ge_iff_le,in_]
 cases decide (lo<=n)<;>rfl
theorem jL(n:Int):fK [.int .i64 n]=some [.bool (in_ n 1 6)]:=by
 rw[q_fi];simp (disch:=first|assumption|omega|(simp only[zL];omega)) only[F_fi,lP,Int.reduceEq,reduceIte,zU,zT,aa]
theorem c7(n:Int):fl [.int .i64 n]=some [.bool (in_ n 1 3)]:=by
 rw[q_eh];simp (disch:=first|assumption|omega|(simp only[zL];omega)) only[F_eh,lP,Int.reduceEq,reduceIte,zU,zT,aa]
theorem i_w1(n:Int):ub [.int .i64 n]=some [.bool (!in_ n 0 3)]:=by
 rw[q_bs];simp (disch:=first|assumption|omega|(simp only[zL];omega)) only[F_bs,lP,Int.reduceEq,reduceIte,zU,zT,aa]
theorem i_w2(n:Int):ue [.int .i64 n]=some [.bool (n != 0)]:=by
 rw[q_ce];simp (disch:=first|assumption|omega|(simp only[zL];omega)) only[F_ce,Int.reduceEq,reduceIte,zU,zT,aa]
theorem i_ix1{m:List Int}(hL:m.length<=1099511627776):uc [.list (m.map eI)]=some [.int .i64 (lO (fun n=>!in_ n 0 3) 0 m)]:=by
 rw[q_ao];unfold F_ao
 simp only[List.length_map]
 rw[gx (l:=m) (fun n=>!in_ n 0 3)]
 ·rfl
 ·intro i x hx
  have hi:=(List.getElem?_eq_some_iff.1 hx).1
  have hi':(i:Int)<(m.length:Nat):=by omega
  simp (disch:=first|assumption|omega|(simp only[zL];omega)) only[wv,gl hx,eI,al,hi',if_true,i_w1,Int.reduceEq,reduceIte,zU,zT,aa]
  cases in_ x 0 3<;>rfl
 ·have h:¬ ((m.length:Int)<(m.length:Nat)):=by omega
  simp (disch:=first|assumption|omega|(simp only[zL];omega)) only[wv,h,if_false,Int.reduceEq,reduceIte,zU,zT,aa]
theorem i_ix2{m:List Int}(hL:m.length<=1099511627776):uf [.list (m.map eI)]=some [.int .i64 (lO (fun n=>n != 0) 0 m)]:=by
 rw[q_an];unfold F_an
 simp only[List.length_map]
 rw[gx (l:=m) (fun n=>n != 0)]
 ·rfl
 ·intro i x hx
  have hi:=(List.getElem?_eq_some_iff.1 hx).1
  have hi':(i:Int)<(m.length:Nat):=by omega
  simp (disch:=first|assumption|omega|(simp only[zL];omega)) only[ww,gl hx,eI,al,hi',if_true,i_w2,Int.reduceEq,reduceIte,zU,zT,aa]
  by_cases h:x=0<;>simp[h]
 ·have h:¬ ((m.length:Int)<(m.length:Nat)):=by omega
  simp (disch:=first|assumption|omega|(simp only[zL];omega)) only[ww,h,if_false,Int.reduceEq,reduceIte,zU,zT,aa]
theorem i_cf1{m:List Int}(hL:m.length<=1099511627776):ud [.list (m.map eI)]=some [.bool (m.any fun n=>!in_ n 0 3)]:=by
 rw[q_al];simp (disch:=first|assumption|omega|(simp only[zL];omega)) only[F_al,i_ix1,d9,Bool.decide_eq_true,Int.reduceEq,reduceIte,zU,zT,aa]
theorem i_cf2{m:List Int}(hL:m.length<=1099511627776):ug [.list (m.map eI)]=some [.bool (m.any fun n=>n != 0)]:=by
 rw[q_ak];simp (disch:=first|assumption|omega|(simp only[zL];omega)) only[F_ak,i_ix2,d9,Bool.decide_eq_true,Int.reduceEq,reduceIte,zU,zT,aa]
theorem mo{m:List Int}(hL:m.length<=1099511627776):oO [.list (m.map eI)]=some [.bool (cQ m)]:=by
 rw[q_dm]
 simp (disch:=first|assumption|omega|(simp only[zL];omega)) only[F_dm,i_cf1,i_cf2,Int.reduceEq,reduceIte,zU,zT,aa]
 by_cases h:m.length=3
 ·have h':((m.length:Nat):Int)=3:=by omega
  simp only[h',if_true]
  match m,h with
  | [a,b,c],_ =>
   have e1:∀ x:Int,in_ x 0 3=true->0<=x:=fun x hx=>(in_iff.1 hx).1
   cases ha:in_ a 0 3<;>cases hb:in_ b 0 3<;>cases hc:in_ c 0 3<;>simp[cQ,ha,hb,hc]
   have:=e1 a ha;have:=e1 b hb;have:=e1 c hc
   rw[Bool.eq_iff_iff];simp;omega
 ·have h':¬ ((m.length:Nat):Int)=3:=by omega
  simp[h,h',cQ]
theorem jZ{k t:Int}{m:List Int}(hL:m.length<=1099511627776):gB [.int .i64 k,.int .i64 t,.list (m.map eI)]=some [.bool (aF ⟨k,t,m⟩)]:=by
 rw[q_fr]
 simp (disch:=first|assumption|omega|(simp only[zL];omega)) only[F_fr,lP,jL,mo,aF,Int.reduceEq,reduceIte,zU,zT,aa]
 by_cases h1:k=1
 ·subst h1
  have e1:in_ 1 1 7=true:=rfl
  simp only[if_true,e1]
  match m with
  | []=>cases in_ t 1 6<;>rfl
  | [n]=>simp (disch:=first|assumption|omega|(simp only[zL];omega)) only[List.length_cons,List.length_nil,Cj,eI,lP,Int.reduceEq,reduceIte,zU,zT,aa]
         cases in_ t 1 6<;>simp
  | a::b::l =>
   have:¬ ((((a::b::l).length:Nat):Int)=1):=by simp;omega
   simp only[this,if_false]
   cases in_ t 1 6<;>simp
 ·by_cases h4:k=4
  ·subst h4
   have e1:in_ 4 1 7=true:=rfl
   simp only[e1]
   cases in_ t 1 6<;>simp
  ·simp only[h1,h4,if_false]
   have e1:in_ k 1 7=in_ k 2 7:=by rw[Bool.eq_iff_iff,in_iff,in_iff];omega
   rw[e1]
   have e2:(((m.length:Nat):Int)==0)=m.isEmpty:=by cases m<;>simp;omega
   rw[e2]
   cases in_ t 1 6<;>cases in_ k 2 7<;>simp
theorem zC{k t:Int}{m:List Int}(hL:m.length<=1099511627776):uh [.int .i64 k,.int .i64 t,.list (m.map eI)]=some [.bool (!aF ⟨k,t,m⟩)]:=by
 rw[q_er];simp (disch:=first|assumption|omega|(simp only[zL];omega)) only[F_er,jZ,Int.reduceEq,reduceIte,zU,zT,aa]
theorem i_ixR{rs:List Rec}(hL:rs.length<=1099511627776)(hm:∀ r∈rs,r.m.length<=1099511627776):ui [.list (rs.map Rec.e)]=some [.int .i64 (lO (fun r=>!aF r) 0 rs)]:=by
 rw[q_am];unfold F_am
 simp only[List.length_map]
 rw[gx (l:=rs) (fun r=>!aF r)]
 ·rfl
 ·intro i x hx
  have hi:=(List.getElem?_eq_some_iff.1 hx).1
  have hi':(i:Int)<(rs.length:Nat):=by omega
  have hxm:=hm x (List.mem_of_getElem? hx)
  simp (disch:=first|assumption|omega|(simp only[zL];omega)) only[wx,mi hx,Rec.e,al,hi',if_true,zC,Int.reduceEq,reduceIte,zU,zT,aa]
  cases aF x<;>rfl
 ·have h:¬ ((rs.length:Int)<(rs.length:Nat)):=by omega
  simp (disch:=first|assumption|omega|(simp only[zL];omega)) only[wx,h,if_false,Int.reduceEq,reduceIte,zU,zT,aa]
theorem i_cfR{rs:List Rec}(hL:rs.length<=1099511627776)(hm:∀ r∈rs,r.m.length<=1099511627776):uj [.list (rs.map Rec.e)]=some [.bool (rs.any fun r=>!aF r)]:=by
 rw[q_ag];simp (disch:=first|assumption|omega|(simp only[zL];omega)) only[F_ag,i_ixR,d9,Bool.decide_eq_true,Int.reduceEq,reduceIte,zU,zT,aa]
theorem j8{rs:List Rec}{f:Int}(hl:LgS ⟨rs,f⟩):gC [.list (rs.map Rec.e),.int .i64 f]=some [.bool (ic ⟨rs,f⟩)]:=by
 rw[q_fw]
 have h1:rs.length<=1099511627776:=by have:=hl.1;simp only at this;omega
 have h2:∀ r∈rs,r.m.length<=1099511627776:=hl.2
 simp (disch:=first|assumption|omega|(simp only[zL];omega)) only[F_fw,lP,i_cfR h1 h2,ic,Int.reduceEq,reduceIte,zU,zT,aa]
 have e:rs.any (fun r=>!aF r)=!rs.all aF:=by simp[List.any_eq_not_all_not]
 rw[e,Bool.not_not]
 by_cases h40:rs.length<=40
 ·have h40':((rs.length:Nat):Int)<=40:=by omega
  simp only[h40,h40',if_true,decide_true,Bool.true_and]
  cases in_ f 0 (rs.length:Nat)<;>simp
 ·have h40':¬ ((rs.length:Nat):Int)<=40:=by omega
  simp only[h40,h40',if_false,decide_false,Bool.false_and,Bool.and_false]
def TrS(l:List Trip):Prop:=l.length<=2000000/\∀ t∈l,t.m.length<=1099511627776
theorem TrOk.S{l:List Trip}(h:TrOk l):TrS l:=⟨by have:=h.len;omega,fun t ht=>by have:=bc (tripOk_iff.1 (h.ok t ht)).1;omega⟩
theorem vm{m:List Int}{s:Int}(hL:m.length<=1099511627776):uk [.list (m.map eI),.int .i64 s]=some [.bool (!eK ⟨m,s⟩)]:=by
 rw[q_cn];simp (disch:=first|assumption|omega|(simp only[zL];omega)) only[F_cn,mo,lP,eK,Int.reduceEq,reduceIte,zU,zT,aa]
 cases cQ m<;>simp
theorem i_ixT{l:List Trip}(hl:TrS l):ul [.list (l.map Trip.e)]=some [.int .i64 (lO (fun t=>!eK t) 0 l)]:=by
 rw[q_ah];unfold F_ah
 have h1:=hl.1
 simp only[List.length_map]
 rw[gx (l:=l) (fun t=>!eK t)]
 ·rfl
 ·intro i x hx
  have hi:=(List.getElem?_eq_some_iff.1 hx).1
  have hi':(i:Int)<(l.length:Nat):=by omega
  have hxm:=hl.2 x (List.mem_of_getElem? hx)
  simp (disch:=first|assumption|omega|(simp only[zL];omega)) only[wy,ip hx,Trip.e,al,hi',if_true,vm,Int.reduceEq,reduceIte,zU,zT,aa]
  cases eK x<;>rfl
 ·have h:¬ ((l.length:Int)<(l.length:Nat)):=by omega
  simp (disch:=first|assumption|omega|(simp only[zL];omega)) only[wy,h,if_false,Int.reduceEq,reduceIte,zU,zT,aa]
theorem yF{l:List Trip}(hl:TrS l):un [.list (l.map Trip.e)]=some [.bool (dY l)]:=by
 rw[q_en]
 have hc:um [.list (l.map Trip.e)]=some [.bool (l.any fun t=>!eK t)]:=by
  rw[q_ac];simp (disch:=first|assumption|omega|(simp only[zL];omega)) only[F_ac,i_ixT,d9,Bool.decide_eq_true,Int.reduceEq,reduceIte,zU,zT,aa]
 simp (disch:=first|assumption|omega|(simp only[zL];omega)) only[F_en,hc,dY,Int.reduceEq,reduceIte,zU,zT,aa]
 have e:l.any (fun t=>!eK t)=!l.all eK:=by simp[List.any_eq_not_all_not]
 rw[e,Bool.not_not]
 by_cases h:l.length<=6
 ·have h':((l.length:Nat):Int)<=6:=by omega
  simp[h,h']
 ·have h':¬ ((l.length:Nat):Int)<=6:=by omega
  simp[h,h']
theorem pp{l:List Trip}(hl:l.length<=1099511627776){t:Int}:oP [.list (l.map Trip.e),.int .i64 t]=some [.int .i64 (if in_ t 1 l.length then(tAt l t).s else 0)]:=by
 rw[q_ei]
 simp (disch:=first|assumption|omega|(simp only[zL];omega)) only[F_ei,lP,Int.reduceEq,reduceIte,zU,zT,aa]
 rcases Bool.eq_false_or_eq_true (in_ t 1 (l.length:Nat))with h|h
 ·have h':=in_iff.1 h
  simp (disch:=first|assumption|omega|(simp only[zL];omega)) only[h,Bool.not_true,if_true,aE,qg,Trip.e,Int.reduceEq,reduceIte,zU,zT,aa]
 ·simp[h]
theorem mp{l:List Trip}(hl:TrS l){k t:Int}{m:List Int}(hL:m.length<=1099511627776) :
  oQ [.list (l.map Trip.e),.int .i64 k,.int .i64 t,.list (m.map eI)]=some [.bool (dY l && (aF ⟨k,t,m⟩ && cg l ⟨k,t,m⟩))]:=by
 rw[q_dj]
 have h1:=hl.1
 simp (disch:=first|assumption|omega|(simp only[zL];omega)) only[F_dj,yF,jZ,pp,aE,Int.reduceEq,reduceIte,zU,zT,aa]
 cases dY l with
 | false=>rfl
 | true =>
  cases hr:aF ⟨k,t,m⟩with
  | false=>rfl
  | true =>
   have ht:=cE hr
   simp only at ht
   simp only[aD,Bool.not_true,aB,Bool.true_and,cg]
   by_cases h4:k=4
   ·simp[h4]
   ·simp only[h4,if_false]
    by_cases hlt:t>(l.length:Nat)
    ·have hf:in_ t 1 (l.length:Nat)=false:=in_false.2 (by omega)
     simp only[hlt,if_true,hf,Bool.false_eq_true,if_false]
     by_cases h5:k=5
     ·simp[h5]
     ·by_cases h6:k=6
      ·simp[h6]
      ·by_cases h7:k=7<;>simp[h5,h6,h7]
    ·have hf:in_ t 1 (l.length:Nat)=true:=in_iff.2 (by omega)
     simp only[hlt,hf,if_true,if_false]
     by_cases h5:k=5
     ·simp[h5]
     ·by_cases h6:k=6
      ·simp[h6]
      ·by_cases h7:k=7
       ·by_cases hs:(tAt l t).s=2<;>simp[h7,hs]
       ·simp[h5,h6,h7]
theorem nj{m:List Int}(hL:m.length<=1099511627776):lZ [.list (m.map eI)]=some [.list (m.map eI)]:=by
 rw[q_bg]
 cases m with
 | nil=>simp[F_bg,fb,bo,bJ]
 | cons a l =>
  have:((a::l).map eI).isEmpty=false:=rfl
  simp only[F_bg,this,aB,List.nil_append,qd,fj]
  rw[bo (by simp[bJ]at *;omega)]
  rfl
theorem yG{l:List Trip}(hl:TrS l){k t:Int}{m:List Int}(hL:m.length<=1099511627776) :
  uo [.list (l.map Trip.e),.int .i64 k,.int .i64 t,.list (m.map eI)] =
   some (if dY l && (aF ⟨k,t,m⟩ && cg l ⟨k,t,m⟩) then [.list ((cv l ⟨k,t,m⟩).map Trip.e),.bool true] else [.list [],.bool false]):=by
 rw[q_eo]
 simp (disch:=first|assumption|omega|(simp only[zL];omega)) only[F_eo,mp,Int.reduceEq,reduceIte,zU,zT,aa]
 rcases Bool.eq_false_or_eq_true (dY l && (aF ⟨k,t,m⟩ && cg l ⟨k,t,m⟩))with h|h
 case inr=>simp[h]
 simp only[h,Bool.not_true,aD,aB,if_true]
 simp only[Bool.and_eq_true]at h
 obtain⟨ho,hr,hm⟩:=h
 have ht:=cE hr
 have hml:=eZ hr
 have hT:=tripsOk_iff.1 ho
 have hl6:=hT.len
 simp only at ht hml
 have key:=aL (l:=l) (F:=fun ps=>qT (l.map Trip.e) k t (m.map eI) ((l.length:Nat):Int) ((aa ps 0).toInt) ((aa ps 1).toList)) (enc:=fun i (s:List Trip)=>[.int .i64 i,.list (s.map Trip.e)])
  (res:=fun xs _ s=>.ret [.list ((cv (s++xs) ⟨k,t,m⟩).map Trip.e),.bool true]) (fun i s=>s=l.take i) (s:=[]) (by simp) ?_ ?_
 ·have key:aN _ [C.int .i64 0,C.list []]=_:=key
  rw[key];rfl
 ·intro i x xs s hx hs
  have hi:=(List.getElem?_eq_some_iff.1 hx).1
  have hi':(i:Int)<(l.length:Nat):=by omega
  have hxm:=hl.2 x (List.mem_of_getElem? hx)
  have hsl:s.length=i:=by rw[hs];simp;omega
  simp (disch:=first|assumption|omega|(simp only[zL];omega)) only[qT,ip hx,Trip.e,al,hi',if_true,nj,Int.reduceEq,reduceIte,zU,zT,aa]
  refine .inl ⟨s++[x],?_,?_,by simp⟩
  ·simp[Trip.e]
  ·rw[hs,List.take_succ,hx];rfl
 ·intro s hs
  have hs:s=l:=by rw[hs,List.take_length]
  subst hs
  have h:¬ ((s.length:Int)<(s.length:Nat)):=by omega
  simp only[qT,aa,C.toInt_int,C.toList_list,a8,h,if_false,List.append_nil]
  rcases jH hr hm with ⟨h4,h⟩|⟨h1,h2,h⟩
  ·simp only at h4;subst h4
   have hml':m.length<=1099511627776:=by omega
   simp only[bn,if_true,nj hml',Ac,aa,C.toList_list]
   rw[bo (by simp[bJ];omega)]
   simp[jY,cv,Trip.e]
  ·simp only at h1 h2 h
   have hx:=qe h1 h2
   have hw:IntKind.wrap .i64 (t-1)=t-1:=aE (by omega) (by omega)
   have hb:(decide ((0:Int)<=t-1) && decide (t-1<((s.map Trip.e).length:Nat)))=true:=lt_B (by omega) (by simp;omega)
   have st:∀ z:Int,setRow 1 (s.map Trip.e) (t-1).toNat [C.int .i64 z]=(s.set (t-1).toNat ⟨(tAt s t).m,z⟩).map Trip.e:=fun z=>dF hx rfl
   simp only[hw,cv,bn,bo hb,qg h1 h2,Trip.e,aa,C.toInt_int,st]
   rcases h with ⟨h|h,_⟩|⟨h,hs⟩
   ·subst h;rfl
   ·subst h;rfl
   ·subst h
    rcases hs with hs|hs<;>simp[hs,upD]
theorem pq{rs:List Rec}(hL:rs.length<=2000000)(hm:∀ r∈rs,r.m.length<=1099511627776) :
  oR [.list (rs.map Rec.e)]=some [.list (((bb rs).getD []).map Trip.e),.bool (bb rs).isSome]:=by
 rw[q_dw];unfold F_dw
 have key:=aL (l:=rs) (F:=fun ps=>nL (rs.map Rec.e) ((aa ps 0).toList) ((aa ps 1).toBool) ((aa ps 2).toInt)) (enc:=fun i (s:Option (List Trip))=>[.list ((s.getD []).map Trip.e),.bool s.isSome,.int .i64 i])
  (res:=fun xs _ s=>match s with
   | some l=>.ret [.list (((bN xs l).getD []).map Trip.e),.bool (bN xs l).isSome]
   | none=>.ret [.list [],.bool false]) (fun _ s=>∀ l,s=some l->TrOk l) (s:=some []) (fun l e=>by simp only[Option.some.injEq]at e;rw[<-e];exact TrOk.nil) ?_ ?_
 ·have key:aN _ [C.list [],C.bool true,C.int .i64 0]=_:=key
  rw[key];rfl
 ·intro i x xs s hx hs
  have hi:=(List.getElem?_eq_some_iff.1 hx).1
  have hi':(i:Int)<(rs.length:Nat):=by omega
  have hxm:=hm x (List.mem_of_getElem? hx)
  cases s with
  | none=>exact .inr ⟨_,rfl,rfl⟩
  | some l =>
   have hT:=hs l rfl
   have hS:=hT.S
   simp (disch:=first|assumption|omega|(simp only[zL];omega)) only[nL,Option.isSome_some,Option.getD_some,mi hx,Rec.e,hi',if_true,yG,Int.reduceEq,reduceIte,zU,zT,aa]
   have e1:dY l=true:=tripsOk_iff.2 hT
   simp only[e1,Bool.true_and]
   rcases Bool.eq_false_or_eq_true (aF x && cg l x)with h|h
   ·simp only[h,if_true]
    refine .inl ⟨some (cv l x),?_,fun l' e=>?_,by simp[bN,h]⟩
    ·simp (disch:=first|assumption|omega|(simp only[zL];omega)) only[al,Option.isSome_some,Option.getD_some,Int.reduceEq,reduceIte,zU,zT,aa]
    ·simp only[Option.some.injEq]at e;rw[<-e]
     simp only[Bool.and_eq_true]at h
     exact l9 hT h.1 h.2
   ·simp only[h,Bool.false_eq_true,if_false]
    refine .inl ⟨none,?_,?_,?_⟩
    ·simp (disch:=first|assumption|omega|(simp only[zL];omega)) only[al,Option.isSome_none,Option.getD_none,Int.reduceEq,reduceIte,zU,zT,aa]
     try simp
    ·intro l' e;cases e
    ·simp[bN,h]
 ·intro s hs
  have h:¬ ((rs.length:Int)<(rs.length:Nat)):=by omega
  cases s with
  | none=>simp[nL,aa]
  | some l=>simp[nL,aa,a8,bN]
end Dx
namespace Dx
open Go
theorem g0{k h t m:Int}:gD [.int .i64 k,.int .i64 h,.int .i64 t,.int .i64 m]=some [.bool (b8 ⟨k,h,t,m⟩)]:=by
 rw[q_fn]
 simp (disch:=first|assumption|omega|(simp only[zL];omega)) only[F_fn,lP,c7,jL,b8,Int.reduceEq,reduceIte,zU,zT,aa]
 by_cases h1:k=1
 ·simp only[h1,if_true]
  cases in_ h 1 3<;>cases in_ t 1 6<;>cases in_ 1 1 7<;>simp
 ·simp only[h1,if_false]
  cases in_ h 1 3<;>cases in_ t 1 6<;>cases in_ k 1 7<;>simp
theorem hD{k h t m:Int}:iQ [.int .i64 k,.int .i64 h,.int .i64 t,.int .i64 m]=some [.bool (decide (k>=4))]:=by
 rw[q_bj];simp (disch:=first|assumption|omega|(simp only[zL];omega)) only[F_bj,Int.reduceEq,reduceIte,zU,zT,aa]
theorem i7{td:List Word}(hL:td.length<=1099511627776){k h t m:Int}:lj [.list (td.map Word.e),.int .i64 k,.int .i64 h,.int .i64 t,.int .i64 m]=some [.bool (td.contains ⟨k,h,t,m⟩)]:=by
 rw[q_ap]
 have hi:uq [.list (td.map Word.e),.int .i64 k,.int .i64 h,.int .i64 t,.int .i64 m]=some [.int .i64 (lO (fun x=>decide ((⟨k,h,t,m⟩:Word)=x)) 0 td)]:=by
  rw[q_as];unfold F_as
  simp only[List.length_map]
  rw[gx (l:=td) (fun x=>decide ((⟨k,h,t,m⟩:Word)=x))]
  ·rfl
  ·intro i x hx
   have hi:=(List.getElem?_eq_some_iff.1 hx).1
   have hi':(i:Int)<(td.length:Nat):=by omega
   have hw:=m9 ⟨k,h,t,m⟩ x
   simp only at hw
   simp (disch:=first|assumption|omega|(simp only[zL];omega)) only[wz,io hx,Word.e,al,hi',if_true,hw,decide_eq_true_eq,Int.reduceEq,reduceIte,zU,zT,aa]
  ·have h:¬ ((td.length:Int)<(td.length:Nat)):=by omega
   simp (disch:=first|assumption|omega|(simp only[zL];omega)) only[wz,h,if_false,Int.reduceEq,reduceIte,zU,zT,aa]
 simp (disch:=first|assumption|omega|(simp only[zL];omega)) only[F_ap,hi,d9,Bool.decide_eq_true,Int.reduceEq,reduceIte,zU,zT,aa]
 rw[List.contains_eq_any_beq]
 congr
theorem kN{k t:Int}{m:List Int}(hL:m.length<=1099511627776):oS [.int .i64 k,.int .i64 t,.list (m.map eI)]=some [.int .i64 k,.int .i64 t,.list (m.map eI)]:=by
 rw[q_cb];simp (disch:=first|assumption|omega|(simp only[zL];omega)) only[F_cb,nj,Int.reduceEq,reduceIte,zU,zT,aa]
theorem qi{rs:List Rec}{f many forced:Int}(hl:LgS ⟨rs,f⟩)(h1:0<=many)(h2:many<=rs.length) :
  lk [.list (rs.map Rec.e),.int .i64 f,.int .i64 many,.int .i64 forced]=some [.list ((rs.take many.toNat).map Rec.e),.int .i64 forced]:=by
 rw[q_ck]
 have e1:∀ n:Nat,(rs.map Rec.e).take n=(rs.take n).map Rec.e:=fun n=>by simp
 unfold F_ck
 simp only[e1,List.length_map]
 rw[cM h1 h2]
 have hm:∀ r∈rs.take many.toNat,r.m.length<=1099511627776:=fun r hr=>hl.2 r (List.mem_of_mem_take hr)
 have hlen:(rs.take many.toNat).length<=2000000:=by simp;have:=hl.1;simp only at this;omega
 generalize rs.take many.toNat=l at hm hlen
 have key:=aL (l:=l) (F:=fun ps=>qV forced (l.map Rec.e) ((l.length:Nat):Int) ((aa ps 0).toInt) ((aa ps 1).toList)) (enc:=fun i (s:List Rec)=>[.int .i64 i,.list (s.map Rec.e)])
  (res:=fun xs _ s=>.ret [.list ((s++xs).map Rec.e),.int .i64 forced]) (fun i s=>s.length=i) (s:=[]) rfl ?_ ?_
 ·have key:aN _ [C.int .i64 0,C.list []]=_:=key
  rw[key];rfl
 ·intro i x xs s hx hs
  have hi:=(List.getElem?_eq_some_iff.1 hx).1
  have hi':(i:Int)<(l.length:Nat):=by omega
  have hxm:=hm x (List.mem_of_getElem? hx)
  simp (disch:=first|assumption|omega|(simp only[zL];omega)) only[qV,mi hx,Rec.e,al,hi',if_true,kN,Int.reduceEq,reduceIte,zU,zT,aa]
  refine .inl ⟨s++[x],?_,by simp[hs],by simp⟩
  simp[Rec.e]
 ·intro s hs
  have h:¬ ((l.length:Int)<(l.length:Nat)):=by omega
  simp (disch:=first|assumption|omega|(simp only[zL];omega)) only[qV,h,if_false,Int.reduceEq,reduceIte,zU,zT,aa]
  simp
theorem gT{rs:List Rec}{f:Int}(hl:LgS ⟨rs,f⟩):ll [.list (rs.map Rec.e),.int .i64 f]=some [.list (rs.map Rec.e),.int .i64 f]:=by
 rw[q_bt]
 have h:=qi hl (many:=((rs.length:Nat):Int)) (forced:=f) (by omega) (by omega)
 simp only[Int.toNat_natCast,List.take_length]at h
 simp (disch:=first|assumption|omega|(simp only[zL];omega)) only[F_bt,h,Int.reduceEq,reduceIte,zU,zT,aa]
theorem sM{m:List Word}(hL:m.length<=1099511627776):oT [.list (m.map Word.e)]=some [.list (m.map Word.e)]:=by
 rw[q_at]
 cases m with
 | nil=>simp[F_at,fb,bo,bJ]
 | cons a l =>
  have:((a::l).map Word.e).isEmpty=false:=rfl
  simp only[F_at,this,aB,List.nil_append,xr,fj]
  rw[bo (by simp[bJ]at *;omega)]
  rfl
structure DkS (d:Desk):Prop where
 lg:LgS d.lg
 td:d.td.length<=2000000
theorem DkOk.S{d:Desk}(h:DkOk d):DkS d:=⟨h.lg.S,by have:=h.tdlen;omega⟩
theorem LgS.m{rs:List Rec}{f:Int}(h:LgS ⟨rs,f⟩):∀ r∈rs,r.m.length<=1099511627776:=h.2
theorem LgS.l{rs:List Rec}{f:Int}(h:LgS ⟨rs,f⟩):rs.length<=2000000:=h.1
section
variable {up b:Bool} {rs:List Rec} {f:Int} {td:List Word} {k h t m keep:Int} {ms:List Int}
theorem dw(hs:DkS ⟨up,⟨rs,f⟩,td⟩):gF [.bool up,.list (rs.map Rec.e),.int .i64 f,.list (td.map Word.e)]=some (Desk.e ⟨up,⟨rs,f⟩,td⟩):=by
 rw[q_bi]
 have h1:LgS ⟨rs,f⟩:=hs.lg
 have h2:td.length<=1099511627776:=by have:=hs.td;simp only at this;omega
 simp (disch:=first|assumption|omega|(simp only[zL];omega)) only[F_bi,gT,sM,Int.reduceEq,reduceIte,zU,zT,aa]
 rfl
theorem xw(hl:b=true->0<=f/\f<=rs.length):oU [.list (rs.map Rec.e),.int .i64 f,.bool b]=some [.list ((aW ⟨rs,f⟩ b).map Rec.e)]:=by
 rw[q_cz]
 cases b with
 | false=>simp[F_cz,aW]
 | true =>
  obtain⟨h1,h2⟩:=hl rfl
  simp only[F_cz,aD,List.length_map]
  rw[cM h1 h2]
  simp[aW]
theorem mq(hs:LgS ⟨rs,f⟩)(hl:b=true->0<=f/\f<=rs.length){tl:List (List C)}:eu [.bool up,.list (rs.map Rec.e),.int .i64 f,.list tl,.bool b]=some [.list ((aj ⟨rs,f⟩ b).map Trip.e)]:=by
 rw[q_bw]
 have h1:(aW ⟨rs,f⟩ b).length<=2000000:=by have:=hs.l;unfold aW;split<;>simp<;>omega
 have h2:∀ r∈aW ⟨rs,f⟩ b,r.m.length<=1099511627776:=fun r hr=>hs.2 r (by unfold aW at hr;split at hr;exact List.mem_of_mem_take hr;exact hr)
 simp (disch:=first|assumption|omega|(simp only[zL];omega)) only[F_bw,xw hl,pq h1 h2,aj,Int.reduceEq,reduceIte,zU,zT,aa]
theorem jM(hs:LgS ⟨rs,f⟩){tl:List (List C)}:eu [.bool up,.list (rs.map Rec.e),.int .i64 f,.list tl,.bool false]=some [.list ((aj ⟨rs,f⟩ false).map Trip.e)]:=mq hs (fun h=>by cases h)
theorem zD(hs:LgOk ⟨rs,f⟩){tl:List (List C)}:eu [.bool up,.list (rs.map Rec.e),.int .i64 f,.list tl,.bool true]=some [.list ((aj ⟨rs,f⟩ true).map Trip.e)]:=mq hs.S (fun _=>⟨hs.lo,hs.hi⟩)
theorem cG(hs:DkS ⟨up,⟨rs,f⟩,td⟩):dU [.bool up,.list (rs.map Rec.e),.int .i64 f,.list (td.map Word.e)]=some [.bool (cm ⟨up,⟨rs,f⟩,td⟩)]:=by
 rw[q_fa]
 have h1:LgS ⟨rs,f⟩:=hs.lg
 have h2:td.length<=2000000:=hs.td
 have hj:ai (wA (rs.map Rec.e) (td.map Word.e))=some [.bool (iz ((bb rs).getD []).length [] td && (bb rs).isSome)]:=by
  unfold wA
  have ht:=pq h1.l h1.m
  simp only[ht,ET,aa,C.toBool_bool,C.toList_list,List.length_map]
  have key:=aL (l:=td) (F:=fun ps=>qU (td.map Word.e) (((bb rs).getD []).map Trip.e) (bb rs).isSome ((td.length:Nat):Int) ((aa ps 0).toInt)) (enc:=fun i (_:Unit)=>[.int .i64 i])
   (res:=fun xs i _=>.ret [.bool (iz ((bb rs).getD []).length (td.take i) xs && (bb rs).isSome)]) (fun _ _=>True) (s:=()) trivial ?_ ?_
  ·have key:aN _ [C.int .i64 0]=_:=key
   rw[key];rfl
  ·intro i x xs s hx _
   have hi:=(List.getElem?_eq_some_iff.1 hx).1
   have hi':(i:Int)<(td.length:Nat):=by omega
   have e1:(td.map Word.e).take i=(td.take i).map Word.e:=by simp
   have c1:(0:Int)<=(i:Int):=by omega
   have c2:(i:Int)<=(td.length:Nat):=by omega
   have c3:(td.take i).length<=1099511627776:=by simp;omega
   have e2:td.take (i+1)=td.take i++[x]:=by rw[List.take_succ,hx];rfl
   have e3:∀ n:Nat,decide (x.t>(n:Int))=!decide (x.t<=(n:Int)):=fun n=>by rw[Bool.eq_iff_iff];simp
   simp (disch:=first|assumption|omega|(simp only[zL];omega)) only[qU,io hx,Word.e,al,hi',if_true,g0,hD,e1,Int.toNat_natCast,i7,cM c1 c2,Int.reduceEq,reduceIte,zU,zT,aa]
   simp only[iz,e2]
   cases b8 x with
   | false=>exact .inr ⟨_,rfl,by simp⟩
   | true =>
    by_cases h4:x.k>=4
    ·by_cases h5:x.t>((((bb rs).getD []).length:Nat):Int)
     ·have h5':¬ x.t<=((((bb rs).getD []).length:Nat):Int):=by omega
      exact .inr ⟨_,by simp only[h4,h5,if_true,aD,Bool.not_true,aB];rfl,by simp[h5']⟩
     ·have h5':x.t<=((((bb rs).getD []).length:Nat):Int):=by omega
      cases hc:(td.take i).contains x with
      | true =>
       refine .inr ⟨.ret [.bool false],?_,by simp⟩
       simp only[h4,h5,if_true,if_false,aD,Bool.not_true,aB]
       try rw[bo (by simp;omega)]
      | false =>
       refine .inl ⟨(),?_,trivial,by simp[h4,h5']⟩
       simp only[h4,h5,if_true,if_false,aD,Bool.not_true,aB]
       try rw[bo (by simp;omega)]
    ·exact .inr ⟨_,by simp only[h4,if_false,aD,Bool.not_true,aB];rfl,by simp[h4]⟩
  ·intro s _
   have h:¬ ((td.length:Int)<(td.length:Nat)):=by omega
   simp (disch:=first|assumption|omega|(simp only[zL];omega)) only[qU,h,if_false,Int.reduceEq,reduceIte,zU,zT,aa]
   rfl
 simp (disch:=first|assumption|omega|(simp only[zL];omega)) only[F_fa,j8,nc,hj,Int.reduceEq,reduceIte,zU,zT,aa]
 unfold cm
 cases ic ⟨rs,f⟩with
 | false=>simp
 | true =>
  simp only[Bool.not_true,aB,Bool.true_and]
  cases up with
  | true =>
   simp only[aD,ba]
   rw[hj]
   cases bb rs<;>simp
  | false =>
   simp only[aB]
   by_cases hz:((td.length:Nat):Int)>0
   ·have:td.isEmpty=false:=by
     cases td with
     | nil=>simp at hz
     | cons a l=>rfl
    simp only[hz,if_true,nc,aD,aB,az]
    cases bb rs<;>simp[this]
   ·have:td=[]:=by
     cases td with
     | nil=>rfl
     | cons a l=>simp at hz
    simp only[hz,if_false,aD,aB,ba]
    rw[hj,this]
    cases bb rs<;>simp
end
end Dx
namespace Dx
open Go
def dz:Desk:=⟨false,⟨[],0⟩,[]⟩
section
variable {up b:Bool} {rs:List Rec} {f:Int} {td:List Word} {k h t m keep:Int} {ms:List Int}
theorem sN(hl:LgS ⟨rs,f⟩)(hm:ms.length<=1099511627776) :
  oV [.list (rs.map Rec.e),.int .i64 f,.int .i64 k,.int .i64 t,.list (ms.map eI)] =
   some (if ic ⟨rs,f⟩ && aF ⟨k,t,ms⟩ then [.list ((dA ⟨rs,f⟩ ⟨k,t,ms⟩).rs.map Rec.e),.int .i64 f,.bool (l7 ⟨rs,f⟩)] else [.list [],.int .i64 0,.bool false]):=by
 rw[q_fm]
 simp (disch:=first|assumption|omega|(simp only[zL];omega)) only[F_fm,j8,jZ,gT,kN,Int.reduceEq,reduceIte,zU,zT,aa]
 cases hlo:ic ⟨rs,f⟩with
 | false=>simp
 | true =>
  cases aF ⟨k,t,ms⟩with
  | false=>simp
  | true =>
   have hl40:rs.length<=40:=(logOk_iff.1 hlo).len
   simp only[aD,Bool.and_self,if_true]
   by_cases h40:((rs.length:Nat):Int)=40
   ·have h':rs.length>=40:=by omega
    simp[h40,dA,l7,h']
   ·have h':¬ rs.length>=40:=by omega
    have hc:rs.length+1<=1099511627776:=by omega
    simp[h40,dA,l7,h',hc,Rec.e]
theorem j9(hd:DkOk ⟨up,⟨rs,f⟩,td⟩)(hr:aF ⟨k,t,ms⟩=true) :
  gj [.bool up,.list (rs.map Rec.e),.int .i64 f,.list (td.map Word.e),.int .i64 k,.int .i64 t,.list (ms.map eI)] =
   some (.bool (dZ ⟨up,⟨rs,f⟩,td⟩ ⟨k,t,ms⟩)::(aZ ⟨up,⟨rs,f⟩,td⟩ ⟨k,t,ms⟩).e):=by
 rw[q_br]
 have hlg:LgOk ⟨rs,f⟩:=hd.lg
 have hS:=hlg.S
 have hT:TrOk (aj ⟨rs,f⟩ false):=hd.trOk false
 have hTS:=hT.S
 have hml:=eZ hr
 have hml':ms.length<=1099511627776:=by simp only at hml;omega
 have hto:dY (aj ⟨rs,f⟩ false)=true:=tripsOk_iff.2 hT
 have hlo:ic ⟨rs,f⟩=true:=logOk_iff.2 hlg
 simp (disch:=first|assumption|omega|(simp only[zL];omega)) only[F_br,jM,mp,sN,hto,hr,hlo,Bool.true_and,Bool.and_self,if_true,aZ,dZ,ak,Int.reduceEq,reduceIte,zU,zT,aa]
 cases up with
 | false=>simp[Desk.e]
 | true =>
  simp only[aD,Bool.true_and]
  cases cg (aj ⟨rs,f⟩ false) ⟨k,t,ms⟩with
  | false=>simp[Desk.e]
  | true=>simp[Desk.e,wS]
theorem Ah(hL:td.length<=1099511627776){r:List (List C)}:oX [.bool up,.list r,.int .i64 f,.list (td.map Word.e),.int .i64 k,.int .i64 h,.int .i64 t]=some [.bool (td.contains ⟨k,h,t,0⟩)]:=by
 rw[q_cg];simp (disch:=first|assumption|omega|(simp only[zL];omega)) only[F_cg,i7,Int.reduceEq,reduceIte,zU,zT,aa]
theorem Cm(hL:td.length<=1099511627776)(hm:ms.length<=1000)(hn:∀ n∈ms,0<=n){r:List (List C)} :
  l4 [.bool up,.list r,.int .i64 f,.list (td.map Word.e),.int .i64 k,.int .i64 t,.list (ms.map eI)]=some [.bool (bf td t k 1 ms),.bool (aA td t k 1 ms)]:=by
 rw[q_bu];unfold F_bu
 simp only[List.length_map]
 have key:=aL (l:=ms) (F:=fun ps=>qX up r f (td.map Word.e) k t (ms.map eI) ((ms.length:Nat):Int) ((aa ps 0).toBool) ((aa ps 1).toBool) ((aa ps 2).toInt)) (enc:=fun i (s:Bool×Bool)=>[.bool s.1,.bool s.2,.int .i64 i])
  (res:=fun xs i s=>.ret [.bool (s.1 || bf td t k ((i+1:Nat):Int) xs),.bool (s.2 && aA td t k ((i+1:Nat):Int) xs)]) (fun _ _=>True) (s:=(false,true)) trivial ?_ ?_
 ·have key:aN _ [C.bool false,C.bool true,C.int .i64 0]=_:=key
  rw[key];simp
 ·rintro i x xs ⟨a,b⟩ hx _
  have hi:=(List.getElem?_eq_some_iff.1 hx).1
  have hi':(i:Int)<(ms.length:Nat):=by omega
  have hx0:=hn x (List.mem_of_getElem? hx)
  have e1:((i+1:Nat):Int)+1=((i+1+1:Nat):Int):=by omega
  simp (disch:=first|assumption|omega|(simp only[zL];omega)) only[qX,gl hx,eI,al,hi',if_true,Ah,Int.reduceEq,reduceIte,zU,zT,aa]
  by_cases h0:x=0
  ·have h0':¬ x>0:=by omega
   simp only[h0,if_true]
   refine .inl ⟨(a,b),?_,trivial,?_⟩
   ·rfl
   ·simp only[bf,aA,e1];simp
  ·have h0':x>0:=by omega
   simp only[h0,if_false]
   generalize hc:td.contains ⟨k,((i+1:Nat):Int),t,0⟩=c
   refine .inl ⟨(a || c,b && c),?_,trivial,?_⟩
   ·cases a<;>cases b<;>simp
   ·simp only[bf,aA,e1,hc,h0',decide_true,Bool.true_and,Bool.not_true,Bool.false_or]
    cases a<;>cases b<;>cases c<;>simp
 ·rintro⟨a,b⟩ _
  have h:¬ ((ms.length:Int)<(ms.length:Nat)):=by omega
  simp (disch:=first|assumption|omega|(simp only[zL];omega)) only[qX,h,if_false,Int.reduceEq,reduceIte,zU,zT,aa]
  simp[bf,aA]
def Ai(d:Desk)(t K:Int):Desk:=if K>0 then aZ d ⟨K,t,[]⟩ else d
theorem vn(d:Desk)(t:Int):d4 d t=Ai d t (lC (tAt (ak d false) t).s (lr d t) d.td t (tAt (ak d false) t).m):=rfl
theorem ap(Φ:Phi)(f:Nat)(args:List Cell)(ks:List CK)(t:Tree)(env:List C):den Φ (.call f args ks t) env=ac (Φ f (ax env args)) ks fun r=>den Φ t (env++r):=by rw[den]
theorem sO(hd:DkOk ⟨up,⟨rs,f⟩,td⟩)(h1:1<=t)(h2:t<=(aj ⟨rs,f⟩ false).length) :
  qY [.bool up,.list (rs.map Rec.e),.int .i64 f,.list (td.map Word.e),.int .i64 t]=some (d4 ⟨up,⟨rs,f⟩,td⟩ t).e:=by
 have hlg:LgOk ⟨rs,f⟩:=hd.lg
 have hS:=hlg.S
 have tA:TrOk (aj ⟨rs,f⟩ false):=hd.trOk false
 have tF:TrOk (aj ⟨rs,f⟩ true):=hd.trOk true
 have lA:=tA.len
 have lF:=tF.len
 have hx:=tripOk_iff.1 (tA.ok _ (fa (t:=t) (by omega)))
 have hml:=bc hx.1
 have hml':(tAt (aj ⟨rs,f⟩ false) t).m.length<=1000:=by omega
 have hn:∀ n∈(tAt (aj ⟨rs,f⟩ false) t).m,0<=n:=fun n hn=>(gk hx.1 hn).1
 have htd:td.length<=1099511627776:=by have:=hd.tdlen;simp only at this;omega
 have w5:=j9 hd (k:=5) (t:=t) (ms:=[]) (by simp[aF,in_iff];omega)
 have w6:=j9 hd (k:=6) (t:=t) (ms:=[]) (by simp[aF,in_iff];omega)
 have w7:=j9 hd (k:=7) (t:=t) (ms:=[]) (by simp[aF,in_iff];omega)
 simp only[List.map_nil,Desk.e]at w5 w6 w7
 unfold qY t_bf
 simp (disch:=first|assumption|omega|(simp only[zL];omega)) only[den,Bu,ax,Cell.den,At.den,jM,zD,Cm,pp,qg,aE,Trip.e,Prim.den,List.cons_append,Int.reduceEq,reduceIte,zT,aa]
 rw[vn]
 have hsure:((if in_ t 1 ((aj ⟨rs,f⟩ true).length:Nat)=true then(tAt (aj ⟨rs,f⟩ true) t).s else 0)==(tAt (aj ⟨rs,f⟩ false) t).s)=lr ⟨up,⟨rs,f⟩,td⟩ t:=by
  have hs1:=hx.2.1
  unfold lr ak
  by_cases h:t<=((aj ⟨rs,f⟩ true).length:Nat)
  ·have hi:in_ t 1 ((aj ⟨rs,f⟩ true).length:Nat)=true:=in_iff.2 ⟨h1,h⟩
   simp[hi,h]
  ·have hi:in_ t 1 ((aj ⟨rs,f⟩ true).length:Nat)=false:=in_false.2 (by omega)
   simp[hi,h];omega
 simp only[hsure]
 dsimp only[ak]
 have hs:=hx.2
 generalize lr ⟨up,⟨rs,f⟩,td⟩ t=b
 generalize (tAt (aj ⟨rs,f⟩ false) t).s=s at hs ⊢
 generalize (tAt (aj ⟨rs,f⟩ false) t).m=m
 unfold lC
 generalize bf td t 5 1 m=a5
 generalize aA td t 4 1 m=a4
 generalize aA td t 6 1 m=a6
 generalize aA td t 7 1 m=a7
 rcases (by omega:s=1\/s=2\/s=3\/s=4\/s=5)with e|e|e|e|e<;>subst e
 ·cases a5<;>cases a4<;>simp[bL,CK.of,aa,w5,w6,w7,bn,jJ,Ai,Desk.e]
 ·cases b<;>cases a6<;>simp[bL,CK.of,aa,w5,w6,w7,bn,jJ,Ai,Desk.e]
 ·cases b<;>cases a7<;>simp[bL,CK.of,aa,w5,w6,w7,bn,jJ,Ai,Desk.e]
 ·simp[bL,CK.of,aa,bn,Ai,Desk.e]
 ·simp[bL,CK.of,aa,bn,Ai,Desk.e]
end
end Dx
namespace Dx
open Go
section
variable {up b:Bool} {rs:List Rec} {f:Int} {td:List Word} {k h t m keep:Int} {ms:List Int} {id room:Int}
theorem FH(hd:DkOk ⟨up,⟨rs,f⟩,td⟩) :
  uu [.bool up,.list (rs.map Rec.e),.int .i64 f,.list (td.map Word.e),.int .i64 k,.int .i64 h,.int .i64 t,.int .i64 m]=some (gG ⟨up,⟨rs,f⟩,td⟩ ⟨k,h,t,m⟩).e:=by
 rw[q_cm]
 have hlg:LgOk ⟨rs,f⟩:=hd.lg
 have hS:=hlg.S
 have htd:td.length<=72:=hd.tdlen
 unfold gG
 simp (disch:=first|assumption|omega|(simp only[zL];omega)) only[F_cm,g0,hD,jM,i7,Int.reduceEq,reduceIte,zU,zT,aa]
 have nh:dh ⟨up,⟨rs,f⟩,td⟩ ⟨k,h,t,m⟩=false->(if dh ⟨up,⟨rs,f⟩,td⟩ ⟨k,h,t,m⟩=true then d4 (cw ⟨up,⟨rs,f⟩,td⟩ ⟨k,h,t,m⟩) t else⟨up,⟨rs,f⟩,td⟩)=⟨up,⟨rs,f⟩,td⟩:=fun e=>by rw[e];rfl
 cases up with
 | false=>rw[nh rfl];rfl
 | true =>
  cases hw:b8 ⟨k,h,t,m⟩with
  | false=>rw[nh (by simp[dh,hw])];rfl
  | true =>
   have wt:=(wordOk_iff.1 hw).t
   simp only at wt
   simp only[aD,eL]
   by_cases h4:k>=4
   ·by_cases ht:t>((aj ⟨rs,f⟩ false).length:Nat)
    ·rw[nh (by rw[fP,hw];simp only[Bool.true_and];rw[Bool.and_eq_false_iff];right;exact decide_eq_false (by omega))]
     simp only[h4,ht,if_true,if_false];rfl
    ·have c1:dh ⟨true,⟨rs,f⟩,td⟩ ⟨k,h,t,m⟩=true:=by rw[fP,hw];simp only[Bool.true_and];rw[Bool.and_eq_true];exact⟨decide_eq_true (by omega),decide_eq_true (by omega)⟩
     rw[if_pos c1]
     simp only[h4,ht,if_false,if_true,cw]
     cases hc:td.contains ⟨k,h,t,m⟩with
     | true =>
      simp (disch:=first|assumption|omega|(simp only[zL];omega)) only[sO,Desk.e,aD,aB,az,qc,aa,C.toInt_int,C.toBool_bool,C.toList_list,if_true]
     | false =>
      have hd2:DkOk ⟨true,⟨rs,f⟩,td++[⟨k,h,t,m⟩]⟩:=by
       have:=hd.tell (w:=⟨k,h,t,m⟩) c1
       unfold cw at this
       rw[if_neg (by rw[hc];simp)]at this
       exact this
      have e1:(td.map Word.e)++[[C.int .i64 k,C.int .i64 h,C.int .i64 t,C.int .i64 m]]=(td++[(⟨k,h,t,m⟩:Word)]).map Word.e:=by simp[Word.e]
      have hd3:=sO hd2 wt.1 (show t<=((aj ⟨rs,f⟩ false).length:Nat) by omega)
      simp only[aB,aD,e1,hd3]
      simp (disch:=first|assumption|omega|(simp only[zL];omega)) only[Desk.e,Bool.false_eq_true,if_false,Int.reduceEq,reduceIte,zU,zT,aa]
   ·rw[nh (by rw[fP,hw];simp[h4])]
    simp only[h4,if_false];rfl
theorem pr(hl:LgOk ⟨rs,f⟩):o8 [.list (rs.map Rec.e),.int .i64 f,.int .i64 keep]=some (eX ⟨rs,f⟩ keep).e:=by
 rw[q_dz]
 have hS:=hl.S
 have h1:=hl.lo
 have h2:=hl.hi
 have h3:=hl.len
 have hk:=hl.keep keep
 simp only at h1 h2 h3 hk
 have hlo:=logOk_iff.2 hl
 have e1:f+(if(0:Int)>(if((rs.length:Nat):Int)-f<keep then((rs.length:Nat):Int)-f else keep) then 0 else(if((rs.length:Nat):Int)-f<keep then((rs.length:Nat):Int)-f else keep))=dW ⟨rs,f⟩ keep:=by
  unfold dW
  simp only[Int.min_def]
  split<;>split<;>split<;>(try split)<;>omega
 have w1:IntKind.wrap .i64 (((rs.length:Nat):Int)-f)=((rs.length:Nat):Int)-f:=aE (by omega) (by omega)
 simp (disch:=first|assumption|omega|(simp only[zL];omega)) only[F_dz,j8,hlo,Int.reduceEq,reduceIte,zU,zT,aa]
 rw[w1,aE (by rw[e1];omega) (by rw[e1];omega),e1,qi hS (by omega) (by omega)]
 simp only[EU,aa,C.toInt_int,C.toList_list,az]
 rfl
theorem cq(hs:DkS ⟨up,⟨rs,f⟩,td⟩):ev [.bool up,.list (rs.map Rec.e),.int .i64 f,.list (td.map Word.e),.bool b]=some [.list ((if cm ⟨up,⟨rs,f⟩,td⟩ then aj ⟨rs,f⟩ b else []).map Trip.e)]:=by
 rw[q_ct]
 cases ho:cm ⟨up,⟨rs,f⟩,td⟩with
 | false=>simp (disch:=first|assumption|omega|(simp only[zL];omega)) only[F_ct,cG,ho,Int.reduceEq,reduceIte,zU,zT,aa];rfl
 | true =>
  have hd:=deskOk_iff.1 ho
  have hlg:LgOk ⟨rs,f⟩:=hd.lg
  simp (disch:=first|assumption|omega|(simp only[zL];omega)) only[F_ct,cG,ho,mq hlg.S (fun _=>⟨hlg.lo,hlg.hi⟩),if_true,Int.reduceEq,reduceIte,zU,zT,aa]
theorem vo(hd:DkOk ⟨up,⟨rs,f⟩,td⟩) :
  uK [.bool up,.list (rs.map Rec.e),.int .i64 f,.list (td.map Word.e),.int .i64 keep]=some (dfall ⟨up,⟨rs,f⟩,td⟩ keep).e:=by
 rw[q_dg]
 have hS:=hd.S
 have ho:=deskOk_iff.2 hd
 have hlg:LgOk ⟨rs,f⟩:=hd.lg
 simp (disch:=first|assumption|omega|(simp only[zL];omega)) only[F_dg,cG,ho,pr hlg,Log.e,Int.reduceEq,reduceIte,zU,zT,aa]
 rfl
theorem mr(hl:LgOk ⟨rs,f⟩):o7 [.list (rs.map Rec.e),.int .i64 f]=some (fV ⟨rs,f⟩).e:=by
 rw[q_dl]
 have hS:=hl.S
 have hlo:=logOk_iff.2 hl
 have hf:=qi hS (many:=((rs.length:Nat):Int)) (forced:=((rs.length:Nat):Int)) (by omega) (by omega)
 simp only[Int.toNat_natCast,List.take_length]at hf
 simp (disch:=first|assumption|omega|(simp only[zL];omega)) only[F_dl,j8,hlo,hf,Int.reduceEq,reduceIte,zU,zT,aa]
 rfl
theorem rY(hd:DkOk ⟨up,⟨rs,f⟩,td⟩):uH [.bool up,.list (rs.map Rec.e),.int .i64 f,.list (td.map Word.e)]=some (bU ⟨up,⟨rs,f⟩,td⟩).e:=by
 rw[q_cx]
 have hS:=hd.S
 have ho:=deskOk_iff.2 hd
 have hlg:LgOk ⟨rs,f⟩:=hd.lg
 simp (disch:=first|assumption|omega|(simp only[zL];omega)) only[F_cx,cG,ho,dw,mr hlg,Log.e,Desk.e,Int.reduceEq,reduceIte,zU,zT,aa]
 cases up<;>rfl
theorem vp(hd:DkOk ⟨up,⟨rs,f⟩,td⟩):uP [.bool up,.list (rs.map Rec.e),.int .i64 f,.list (td.map Word.e)]=some (jG ⟨up,⟨rs,f⟩,td⟩).e:=by
 rw[q_du]
 have hS:=hd.S
 have ho:=deskOk_iff.2 hd
 simp (disch:=first|assumption|omega|(simp only[zL];omega)) only[F_du,cG,ho,dw,Desk.e,Int.reduceEq,reduceIte,zU,zT,aa]
 rfl
theorem rZ(hs:DkS ⟨up,⟨rs,f⟩,td⟩)(hm:ms.length<=1099511627776) :
  ur [.bool up,.list (rs.map Rec.e),.int .i64 f,.list (td.map Word.e),.list (ms.map eI)] =
   some (if cm ⟨up,⟨rs,f⟩,td⟩ && aF (eY ⟨up,⟨rs,f⟩,td⟩ ms) then(aZ ⟨up,⟨rs,f⟩,td⟩ (eY ⟨up,⟨rs,f⟩,td⟩ ms)).e++[.bool (dZ ⟨up,⟨rs,f⟩,td⟩ (eY ⟨up,⟨rs,f⟩,td⟩ ms))] else dz.e++[.bool false]):=by
 rw[q_cv]
 cases ho:cm ⟨up,⟨rs,f⟩,td⟩with
 | false=>simp (disch:=first|assumption|omega|(simp only[zL];omega)) only[F_cv,cG,ho,Int.reduceEq,reduceIte,zU,zT,aa];simp[Desk.e,dz]
 | true =>
  have hd:=deskOk_iff.1 ho
  have hlg:LgOk ⟨rs,f⟩:=hd.lg
  have hS:=hlg.S
  have hT:TrOk (aj ⟨rs,f⟩ false):=hd.trOk false
  have hl:=hT.len
  have eR:eY ⟨up,⟨rs,f⟩,td⟩ ms=⟨4,((aj ⟨rs,f⟩ false).length:Nat)+1,ms⟩:=rfl
  rw[eR]
  simp (disch:=first|assumption|omega|(simp only[zL];omega)) only[F_cv,cG,ho,dw,Desk.e,jM,aE,jZ,Bool.true_and,Int.reduceEq,reduceIte,zU,zT,aa]
  rcases Bool.eq_false_or_eq_true (aF ⟨4,((aj ⟨rs,f⟩ false).length:Nat)+1,ms⟩)with hr|hr
  ·simp (disch:=first|assumption|omega|(simp only[zL];omega)) only[hr,j9,Desk.e,if_true,Int.reduceEq,reduceIte,zU,zT,aa]
   simp
  ·simp[hr,dz]
theorem vq(hs:DkS ⟨up,⟨rs,f⟩,td⟩) :
  ut [.bool up,.list (rs.map Rec.e),.int .i64 f,.list (td.map Word.e),.int .i64 t] =
   some (if cm ⟨up,⟨rs,f⟩,td⟩ && in_ t 1 6 then(aZ ⟨up,⟨rs,f⟩,td⟩ ⟨6,t,[]⟩).e++[.bool (dZ ⟨up,⟨rs,f⟩,td⟩ ⟨6,t,[]⟩)] else dz.e++[.bool false]):=by
 rw[q_da]
 cases ho:cm ⟨up,⟨rs,f⟩,td⟩with
 | false=>simp (disch:=first|assumption|omega|(simp only[zL];omega)) only[F_da,cG,ho,Int.reduceEq,reduceIte,zU,zT,aa];simp[Desk.e,dz]
 | true =>
  have hd:=deskOk_iff.1 ho
  simp (disch:=first|assumption|omega|(simp only[zL];omega)) only[F_da,cG,ho,jL,dw,Desk.e,Bool.true_and,Int.reduceEq,reduceIte,zU,zT,aa]
  cases ht:in_ t 1 6 with
  | false=>simp[dz]
  | true =>
   have hw:=j9 hd (k:=6) (t:=t) (ms:=[]) (by simp[aF,in_iff,in_iff.1 ht])
   simp only[List.map_nil,Desk.e]at hw
   simp (disch:=first|assumption|omega|(simp only[zL];omega)) only[hw,Int.reduceEq,reduceIte,zU,zT,aa]
   simp
theorem FI(s:Int):ux [.int .i64 m,.int .i64 s]=some [.bool (bg ⟨m,s⟩)]:=by
 rw[q_dx]
 simp (disch:=first|assumption|omega|(simp only[zL];omega)) only[F_dx,lP,bg,Int.reduceEq,reduceIte,zU,zT,aa]
 by_cases h0:s=0
 ·simp[h0]
 ·by_cases h1:s=1
  ·simp[h1]
  ·by_cases h2:s=2
   ·simp[h2]
   ·by_cases h3:s=3
    ·simp[h3]
    ·simp[h0,h1,h2,h3]
theorem wT{hs:List Hold}(hr:0<=room/\room<=9)(ho:∀ h∈hs,bg h=true)(hl:hs.length<=100) :
  lm [.int .i64 room,.list (hs.map Hold.e)]=some [.int .i64 (free ⟨room,hs⟩)]:=by
 rw[q_bp];unfold F_bp
 simp only[List.length_map]
 have key:=aL (l:=hs) (F:=fun ps=>qZ (hs.map Hold.e) ((hs.length:Nat):Int) ((aa ps 0).toInt) ((aa ps 1).toInt)) (enc:=fun i (s:Int)=>[.int .i64 s,.int .i64 i])
  (res:=fun xs _ s=>.ret [.int .i64 (s-(xs.map had).sum)]) (fun i s=>room-3*i<=s/\s<=room) (s:=room) (by simp) ?_ ?_
 ·have key:aN _ [C.int .i64 room,C.int .i64 0]=_:=key
  rw[key];rfl
 ·intro i x xs s hx ⟨h1,h2⟩
  have hi:=(List.getElem?_eq_some_iff.1 hx).1
  have hi':(i:Int)<(hs.length:Nat):=by omega
  have hm:=sJ (ho x (List.mem_of_getElem? hx))
  simp (disch:=first|assumption|omega|(simp only[zL];omega)) only[qZ,jK hx,Hold.e,al,hi',if_true,aE,Int.reduceEq,reduceIte,zU,zT,aa]
  refine .inl ⟨s-had x,?_,by omega,by simp[Int.sub_sub]⟩
  unfold had
  by_cases e1:x.s=1
  ·simp[e1]
  ·by_cases e2:x.s=2<;>simp[e1,e2]
 ·intro s _
  have h:¬ ((hs.length:Int)<(hs.length:Nat)):=by omega
  simp (disch:=first|assumption|omega|(simp only[zL];omega)) only[qZ,h,if_false,Int.reduceEq,reduceIte,zU,zT,aa]
  simp
theorem pu{hs:List Hold}(ho:StOk ⟨room,hs⟩):oZ [.int .i64 room,.list (hs.map Hold.e)]=some [.bool true]:=by
 rw[q_ew]
 have hl:hs.length=6:=ho.len
 have hc:uA [.list (hs.map Hold.e)]=some [.bool (hs.any fun x=>!bg x)]:=by
  have hi:uz [.list (hs.map Hold.e)]=some [.int .i64 (lO (fun x=>!bg x) 0 hs)]:=by
   rw[q_ai];unfold F_ai
   simp only[List.length_map]
   rw[gx (l:=hs) (fun x=>!bg x)]
   ·rfl
   ·intro i x hx
    have hi:=(List.getElem?_eq_some_iff.1 hx).1
    have hi':(i:Int)<(hs.length:Nat):=by omega
    have h1:uy [.int .i64 x.m,.int .i64 x.s]=some [.bool (!bg x)]:=by rw[q_cu];simp (disch:=first|assumption|omega|(simp only[zL];omega)) only[F_cu,FI,Int.reduceEq,reduceIte,zU,zT,aa]
    simp (disch:=first|assumption|omega|(simp only[zL];omega)) only[wB,jK hx,Hold.e,al,hi',if_true,h1,Int.reduceEq,reduceIte,zU,zT,aa]
    cases bg x<;>rfl
   ·have h:¬ ((hs.length:Int)<(hs.length:Nat)):=by omega
    simp (disch:=first|assumption|omega|(simp only[zL];omega)) only[wB,h,if_false,Int.reduceEq,reduceIte,zU,zT,aa]
  rw[q_ae];simp (disch:=first|assumption|omega|(simp only[zL];omega)) only[F_ae,hi,d9,Bool.decide_eq_true,Int.reduceEq,reduceIte,zU,zT,aa]
 have e1:hs.any (fun x=>!bg x)=false:=by rw[List.any_eq_false];intro x hx;simp[ho.hold x hx]
 have e2:in_ room 0 9=true:=in_iff.2 ho.room
 have e3:((hs.length:Nat):Int)=6:=by omega
 have e4:free ⟨room,hs⟩>=0:=ho.free
 simp (disch:=first|assumption|omega|(simp only[zL];omega)) only[F_ew,lP,e2,e3,hc,e1,wT ho.room ho.hold (show hs.length<=100 by omega),e4,decide_true,if_true,Int.reduceEq,reduceIte,zU,zT,aa]
theorem vr:uw [.int .i64 room]=some ((if in_ room 0 9 then bR room else⟨0,[]⟩).e++[.bool (in_ room 0 9)]):=by
 rw[q_dq]
 simp (disch:=first|assumption|omega|(simp only[zL];omega)) only[F_dq,lP,Int.reduceEq,reduceIte,zU,zT,aa]
 cases in_ room 0 9<;>rfl
theorem mt{hs:List Hold}(ho:StOk ⟨room,hs⟩)(hL:ms.length<=1099511627776) :
  o5 [.int .i64 room,.list (hs.map Hold.e),.int .i64 k,.int .i64 t,.list (ms.map eI)]=some [.bool (aF ⟨k,t,ms⟩ && may ⟨room,hs⟩ ⟨k,t,ms⟩)]:=by
 rw[q_dk]
 have hl:hs.length=6:=ho.len
 simp (disch:=first|assumption|omega|(simp only[zL];omega)) only[F_dk,pu ho,jZ,Int.reduceEq,reduceIte,zU,zT,aa]
 cases hr:aF ⟨k,t,ms⟩with
 | false=>rfl
 | true =>
  have ht:=cE hr
  simp only at ht
  simp (disch:=first|assumption|omega|(simp only[zL];omega)) only[aE,y6,Hold.e,may,fI,wT ho.room ho.hold (show hs.length<=100 by omega),Bool.true_and,Int.reduceEq,reduceIte,zU,zT,aa]
  by_cases h1:k=1
  ·obtain⟨n,e,_⟩:=dE hr h1
   simp only at e;subst e
   simp only[h1,if_true,Cj,eI,Int.reduceEq,reduceIte,zU,zT,aa]
   by_cases h0:(hAt hs t).s=0<;>simp[h0,az]
  ·by_cases h2:k=2
   ·simp[h2,az]
   ·by_cases h3:k=3
    ·by_cases h0:(hAt hs t).s=1<;>simp[h3,h0,az]
    ·simp[h1,h2,h3,az]
theorem Cn(m:List Hold):(m.map Hold.e).all (ah [.int .i64,.int .i64])=true:=by simp[List.all_map,Hold.e,ah,fA,el,Function.comp_def]
theorem zE{hs:List Hold}(hL:hs.length<=1099511627776):uB [.list (hs.map Hold.e)]=some [.list (hs.map Hold.e)]:=by
 rw[q_ar]
 cases hs with
 | nil=>simp[F_ar,fb,bo,bJ]
 | cons a l =>
  have:((a::l).map Hold.e).isEmpty=false:=rfl
  simp only[F_ar,this,aB,List.nil_append,Cn,fj]
  rw[bo (by simp[bJ]at *;omega)]
  rfl
theorem yH{hs:List Hold}(ho:StOk ⟨room,hs⟩)(hL:ms.length<=1099511627776) :
  uC [.int .i64 room,.list (hs.map Hold.e),.int .i64 k,.int .i64 t,.list (ms.map eI)] =
   some (if aF ⟨k,t,ms⟩ && may ⟨room,hs⟩ ⟨k,t,ms⟩ then(act ⟨room,hs⟩ ⟨k,t,ms⟩).e++[.bool true] else [.int .i64 0,.list [],.bool false]):=by
 rw[q_dy]
 have hl:hs.length=6:=ho.len
 have hl':hs.length<=1099511627776:=by omega
 simp (disch:=first|assumption|omega|(simp only[zL];omega)) only[F_dy,mt ho hL,zE hl',Int.reduceEq,reduceIte,zU,zT,aa]
 cases hr:aF ⟨k,t,ms⟩with
 | false=>simp
 | true =>
  cases hm:may ⟨room,hs⟩ ⟨k,t,ms⟩with
  | false=>simp
  | true =>
   have ht:=cE hr
   simp only at ht
   have hx:=qf (l:=hs) ht.1 (by omega)
   have st:∀ a b:Int,setRow 0 (hs.map Hold.e) (t-1).toNat [C.int .i64 a,C.int .i64 b]=(hs.set (t-1).toNat ⟨a,b⟩).map Hold.e:=fun a b=>dF hx rfl
   have st1:∀ a:Int,setRow 1 (hs.map Hold.e) (t-1).toNat [C.int .i64 a]=(hs.set (t-1).toNat ⟨(hAt hs t).m,a⟩).map Hold.e:=fun a=>dF hx rfl
   simp (disch:=first|assumption|omega|(simp only[zL];omega)) only[z8,aE,act,jW,st,st1,Bool.and_self,if_true,Int.reduceEq,reduceIte,zU,zT,aa]
   by_cases h1:k=1
   ·obtain⟨n,e,_⟩:=dE hr h1
    simp only at e;subst e
    simp only[h1,if_true,Cj,eI,Int.reduceEq,reduceIte,zU,zT,aa]
    simp[Stock.e,st]
   ·by_cases h2:k=2
    ·simp[h2,Stock.e]
    ·by_cases h3:k=3
     ·simp[h3,Stock.e]
     ·exfalso;simp[may,h1,h2,h3]at hm
theorem pv(hL:rs.length<=2000000)(hm:∀ r∈rs,r.m.length<=1099511627776) :
  o6 [.int .i64 room,.list (rs.map Rec.e)]=some (((bQ room rs).getD ⟨0,[]⟩).e++[.bool (bQ room rs).isSome]):=by
 rw[q_ee]
 simp (disch:=first|assumption|omega|(simp only[zL];omega)) only[F_ee,vr,Stock.e,List.cons_append,Int.reduceEq,reduceIte,zU,zT,aa]
 have key:=aL (l:=rs) (F:=fun ps=>nN (rs.map Rec.e) ((aa ps 0).toBool) ((aa ps 1).toInt) ((aa ps 2).toInt) ((aa ps 3).toList)) (enc:=fun i (s:Option Stock)=>[.bool s.isSome,.int .i64 i,.int .i64 (s.getD ⟨0,[]⟩).room,.list ((s.getD ⟨0,[]⟩).hs.map Hold.e)])
  (res:=fun xs _ s=>match s with
   | some l=>.ret (((bE xs l).getD ⟨0,[]⟩).e++[.bool (bE xs l).isSome])
   | none=>.ret ((⟨0,[]⟩:Stock).e++[.bool false])) (fun _ s=>∀ l,s=some l->StOk l) (s:=if in_ room 0 9 then some (bR room) else none)
   (fun l e=>by
    cases hr:in_ room 0 9 with
    | false=>simp[hr]at e
    | true=>simp only[hr,if_true,Option.some.injEq]at e;rw[<-e];exact fq (in_iff.1 hr)) ?_ ?_
 ·cases hr:in_ room 0 9 with
  | false =>
   simp only[hr,Bool.false_eq_true,if_false]at key
   have key:aN _ [C.bool false,C.int .i64 0,C.int .i64 0,C.list []]=_:=key
   simp only[Bool.false_eq_true,if_false,List.map_nil]
   rw[key];simp[bQ,hr,Stock.e]
  | true =>
   simp only[hr,if_true]at key
   have key:aN _ [C.bool true,C.int .i64 0,C.int .i64 (bR room).room,C.list ((bR room).hs.map Hold.e)]=_:=key
   simp only[if_true]
   rw[key];simp[bQ,hr,Stock.e]
 ·intro i x xs s hx hs
  have hi:=(List.getElem?_eq_some_iff.1 hx).1
  have hi':(i:Int)<(rs.length:Nat):=by omega
  have hxm:=hm x (List.mem_of_getElem? hx)
  cases s with
  | none=>exact .inr ⟨_,rfl,rfl⟩
  | some l =>
   have hT:=hs l rfl
   have hT':StOk ⟨l.room,l.hs⟩:=hT
   simp (disch:=first|assumption|omega|(simp only[zL];omega)) only[nN,Option.isSome_some,Option.getD_some,mi hx,Rec.e,hi',if_true,yH hT' hxm,Int.reduceEq,reduceIte,zU,zT,aa]
   rcases Bool.eq_false_or_eq_true (aF x && may l x)with h|h
   ·simp only[h,if_true]
    refine .inl ⟨some (act l x),?_,fun l' e=>?_,by simp[bE,h]⟩
    ·simp (disch:=first|assumption|omega|(simp only[zL];omega)) only[al,Option.isSome_some,Option.getD_some,Stock.e,List.cons_append,Int.reduceEq,reduceIte,zU,zT,aa]
    ·simp only[Option.some.injEq]at e;rw[<-e]
     simp only[Bool.and_eq_true]at h
     exact nS hT h.1 h.2
   ·simp only[h,Bool.false_eq_true,if_false]
    refine .inl ⟨none,?_,?_,?_⟩
    ·simp (disch:=first|assumption|omega|(simp only[zL];omega)) only[al,Option.isSome_none,Option.getD_none,Int.reduceEq,reduceIte,zU,zT,aa]
     try simp
    ·intro l' e;cases e
    ·simp[bE,h]
 ·intro s hs
  have h:¬ ((rs.length:Int)<(rs.length:Nat)):=by omega
  cases s with
  | none=>simp[nN,aa,Stock.e]
  | some l=>simp[nN,aa,a8,bE,Stock.e]
end
end Dx
namespace Dx
open Go
def hz:House:=⟨0,false,0,⟨[],0⟩⟩
section
variable {up b:Bool} {rs:List Rec} {f:Int} {td:List Word} {k h t m keep:Int} {ms:List Int} {id room:Int} {hs:List House} {ns:List Word}
theorem dN(hl:LgS ⟨rs,f⟩):fL [.int .i64 id,.bool up,.int .i64 room,.list (rs.map Rec.e),.int .i64 f]=some [.bool (dX ⟨id,up,room,⟨rs,f⟩⟩)]:=by
 rw[q_ec]
 simp (disch:=first|assumption|omega|(simp only[zL];omega)) only[F_ec,c7,j8,pv hl.l hl.m,Stock.e,List.cons_append,dX,Int.reduceEq,reduceIte,zU,zT,aa]
 cases in_ id 1 3<;>cases ic ⟨rs,f⟩<;>simp
theorem dG(hl:LgS ⟨rs,f⟩):iS [.int .i64 id,.bool up,.int .i64 room,.list (rs.map Rec.e),.int .i64 f]=some (House.e ⟨id,up,room,⟨rs,f⟩⟩):=by
 rw[q_bc]
 simp (disch:=first|assumption|omega|(simp only[zL];omega)) only[F_bc,gT,Int.reduceEq,reduceIte,zU,zT,aa]
 rfl
theorem mu(hl:LgOk ⟨rs,f⟩):ib [.int .i64 id,.bool up,.int .i64 room,.list (rs.map Rec.e),.int .i64 f,.bool b]=some (am ⟨id,up,room,⟨rs,f⟩⟩ b).e:=by
 rw[q_bk]
 have hs:=hl.S
 have h1:(aW ⟨rs,f⟩ b).length<=2000000:=by have:=hs.l;unfold aW;split<;>simp<;>omega
 have h2:∀ r∈aW ⟨rs,f⟩ b,r.m.length<=1099511627776:=fun r hr=>hs.2 r (by unfold aW at hr;split at hr;exact List.mem_of_mem_take hr;exact hr)
 simp (disch:=first|assumption|omega|(simp only[zL];omega)) only[F_bk,xw (fun _=>⟨hl.lo,hl.hi⟩),pv h1 h2,Stock.e,List.cons_append,am,Int.reduceEq,reduceIte,zU,zT,aa]
def EZ(w:Word)(all forced:Int):Int:=if w.k=1/\all=0 then 5 else(oW (answer 0 w forced)).k
theorem vu(ho:HsOk ⟨id,up,room,⟨rs,f⟩⟩)(ht:1<=t/\t<=6) :
  uD [.int .i64 id,.bool up,.int .i64 room,.list (rs.map Rec.e),.int .i64 f,.int .i64 k,.int .i64 h,.int .i64 t,.int .i64 m] =
   some [.int .i64 (EZ ⟨k,h,t,m⟩ (fI (am ⟨id,up,room,⟨rs,f⟩⟩ false) t) (fI (am ⟨id,up,room,⟨rs,f⟩⟩ true) t))]:=by
 rw[q_av]
 have hlg:LgOk ⟨rs,f⟩:=ho.lg
 have lA:=(ho.stOk false).len
 have lF:=(ho.stOk true).len
 have j0:∀(st:Int) (c:Bool),ai (wC k st c)=some [.int .i64 (if c then 4 else if k=1/\st=3 then 5 else if k=2/\st=2 then 6 else if k=3/\st=3 then 7 else 0)]:=by
  intro st c
  unfold wC
  cases c with
  | true=>rfl
  | false =>
   simp only[aB,bn,Bool.false_eq_true,if_false]
   by_cases h1:k=1
   ·by_cases h3:st=3<;>simp[h1,h3]
   ·by_cases h2:k=2
    ·by_cases h3:st=2<;>simp[h2,h3]
    ·by_cases h3:k=3
     ·by_cases h4:st=3<;>simp[h3,h4]
     ·simp[h1,h2,h3]
 have j1:∀(st:Int) (c:Bool),ai (wD k st c)=some [.int .i64 (if c then 5 else if k=1/\(st=1\/st=2) then 4 else if k=1/\st=3 then 5 else if k=2/\st=2 then 6 else if k=3/\st=3 then 7 else 0)]:=by
  intro st c
  unfold wD
  cases c with
  | true=>rfl
  | false =>
   simp only[aB,bn,Bool.false_eq_true,if_false]
   by_cases h1:k=1
   ·by_cases h3:st=1
    ·simp[h1,h3,aa];rw[<-h1,j0];simp
    ·simp[h1,h3,aa];rw[<-h1,j0];simp[h1]
   ·simp only[h1,if_false,ba,aa,C.toBool_bool];rw[j0];simp[h1]
 simp (disch:=first|assumption|omega|(simp only[zL];omega)) only[F_av,mu hlg,Stock.e,y6,aE,Hold.e,fI,Int.reduceEq,reduceIte,zT,aa]
 simp only[bn]
 by_cases h1:k=1
 ·simp only[h1,if_true,ba,aa,C.toBool_bool]
  rw[<-h1,j1]
  unfold EZ answer oW
  by_cases h0:(hAt (am ⟨id,up,room,⟨rs,f⟩⟩ false).hs t).s=0
  ·simp[h1,h0]
  ·generalize (hAt (am ⟨id,up,room,⟨rs,f⟩⟩ true).hs t).s=st
   by_cases s1:st=1
   ·simp[h1,h0,s1]
   ·by_cases s2:st=2
    ·simp[h1,h0,s2]
    ·by_cases s3:st=3<;>simp[h1,h0,s1,s2,s3]
 ·simp only[h1,if_false,ba,aa,C.toBool_bool]
  rw[j1]
  unfold EZ answer oW
  generalize (hAt (am ⟨id,up,room,⟨rs,f⟩⟩ true).hs t).s=st
  by_cases h2:k=2
  ·by_cases s2:st=2<;>simp[h2,s2]
  ·by_cases h3:k=3
   ·by_cases s3:st=3<;>simp[h3,s3]
   ·simp[h1,h2,h3]
theorem Aj{id:Int}{w:Word}{st:Int}:(oW (answer 0 w st)).k=0↔answer id w st=none:=by
 unfold answer oW
 split
 ·simp
 ·split
  ·simp
  ·split
   ·simp
   ·split<;>simp
theorem FJ{id:Int}{w x:Word}{st:Int}(h:answer id w st=some x):x=⟨(oW (answer 0 w st)).k,id,w.t,0⟩:=by
 unfold answer oW at *
 split at h
 ·rename_i c;simp only[Option.some.injEq]at h;subst h;simp[c]
 ·rename_i c1
  split at h
  ·rename_i c;simp only[Option.some.injEq]at h;subst h;simp[c]
  ·rename_i c2
   split at h
   ·rename_i c;simp only[Option.some.injEq]at h;subst h;simp[c]
   ·rename_i c3
    split at h
    ·rename_i c;simp only[Option.some.injEq]at h;subst h;simp[c]
    ·cases h
theorem sa(ho:HsOk ⟨id,up,room,⟨rs,f⟩⟩) :
  uE [.int .i64 id,.bool up,.int .i64 room,.list (rs.map Rec.e),.int .i64 f,.int .i64 k,.int .i64 h,.int .i64 t,.int .i64 m] =
   some ((de ⟨id,up,room,⟨rs,f⟩⟩ ⟨k,h,t,m⟩).1.e++((oW (de ⟨id,up,room,⟨rs,f⟩⟩ ⟨k,h,t,m⟩).2).e++[.bool (de ⟨id,up,room,⟨rs,f⟩⟩ ⟨k,h,t,m⟩).2.isSome])):=by
 rw[q_cp]
 have hlg:LgOk ⟨rs,f⟩:=ho.lg
 have hS:=hlg.S
 have hok:dX ⟨id,up,room,⟨rs,f⟩⟩=true:=houseOk_iff.2 ho
 have hlo:ic ⟨rs,f⟩=true:=logOk_iff.2 hlg
 simp (disch:=first|assumption|omega|(simp only[zL];omega)) only[F_cp,dN,hok,dG,House.e,g0,hD,de,Int.reduceEq,reduceIte,zU,zT,aa]
 cases up with
 | false=>rfl
 | true =>
  cases hw:b8 ⟨k,h,t,m⟩with
  | false=>rfl
  | true =>
   have wok:=wordOk_iff.1 hw
   have wt:=wok.t
   have wk:=wok.k
   simp only at wt wk
   simp only[aD,Bool.not_true,Bool.false_or]
   by_cases h4:k>=4
   ·have h3:k>3:=by omega
    simp[h4,h3,House.e,oW,Word.e]
   ·have h3:¬ k>3:=by omega
    by_cases e1:h=id
    ·subst e1
     have hms:(if k=1 then lB k h t m h true room (rs.map Rec.e) f [[C.int .i64 m]] else lB k h t m h true room (rs.map Rec.e) f [])=lB k h t m h true room (rs.map Rec.e) f ((bS ⟨k,h,t,m⟩).m.map eI):=by
      by_cases h1:k=1
      ·simp[h1,bS,eI]
      ·by_cases h2:k=2<;>simp[h1,h2,bS]
     have hr:=d8 wok
     have er:bS ⟨k,h,t,m⟩=⟨k,t,(bS ⟨k,h,t,m⟩).m⟩:=by
      by_cases h1:k=1
      ·simp[h1,bS]
      ·by_cases h2:k=2
       ·simp[h2,bS]
       ·have:k=3:=by omega
        simp[this,bS]
     have sA:=ho.stOk false
     have sA':StOk ⟨(am ⟨h,true,room,⟨rs,f⟩⟩ false).room,(am ⟨h,true,room,⟨rs,f⟩⟩ false).hs⟩:=sA
     have hml:=eZ hr
     have hml':(bS ⟨k,h,t,m⟩).m.length<=1099511627776:=by omega
     have hmay:=mt (k:=k) (t:=t) sA' hml'
     have hadd:=sN (k:=k) (t:=t) hS hml'
     rw[<-er]at hmay hadd
     simp only[Ae,hr,hlo,Bool.true_and,Bool.and_self,if_true]at hmay hadd
     have hans:=vu (k:=k) (h:=h) (m:=m) ho wt
     have hj:ai (lB k h t m h true room (rs.map Rec.e) f ((bS ⟨k,h,t,m⟩).m.map eI))=some ((if may (am ⟨h,true,room,⟨rs,f⟩⟩ false) (bS ⟨k,h,t,m⟩)=true then((⟨h,true,room,dA ⟨rs,f⟩ (bS ⟨k,h,t,m⟩)⟩:House),(none:Option Word))
       else if k=1/\fI (am ⟨h,true,room,⟨rs,f⟩⟩ false) t=0 then(⟨h,true,room,⟨rs,f⟩⟩,some ⟨5,h,t,0⟩)
       else(⟨h,true,room,⟨rs,f⟩⟩,answer h ⟨k,h,t,m⟩ (fI (am ⟨h,true,room,⟨rs,f⟩⟩ true) t))).1.e++((oW (if may (am ⟨h,true,room,⟨rs,f⟩⟩ false) (bS ⟨k,h,t,m⟩)=true then((⟨h,true,room,dA ⟨rs,f⟩ (bS ⟨k,h,t,m⟩)⟩:House),(none:Option Word))
       else if k=1/\fI (am ⟨h,true,room,⟨rs,f⟩⟩ false) t=0 then(⟨h,true,room,⟨rs,f⟩⟩,some ⟨5,h,t,0⟩)
       else(⟨h,true,room,⟨rs,f⟩⟩,answer h ⟨k,h,t,m⟩ (fI (am ⟨h,true,room,⟨rs,f⟩⟩ true) t))).2).e++[.bool (if may (am ⟨h,true,room,⟨rs,f⟩⟩ false) (bS ⟨k,h,t,m⟩)=true then((⟨h,true,room,dA ⟨rs,f⟩ (bS ⟨k,h,t,m⟩)⟩:House),(none:Option Word))
       else if k=1/\fI (am ⟨h,true,room,⟨rs,f⟩⟩ false) t=0 then(⟨h,true,room,⟨rs,f⟩⟩,some ⟨5,h,t,0⟩)
       else(⟨h,true,room,⟨rs,f⟩⟩,answer h ⟨k,h,t,m⟩ (fI (am ⟨h,true,room,⟨rs,f⟩⟩ true) t))).2.isSome])):=by
      unfold lB
      simp (disch:=first|assumption|omega|(simp only[zL];omega)) only[mu hlg,Stock.e,hmay,hadd,hans,Int.reduceEq,reduceIte,zT,aa]
      cases may (am ⟨h,true,room,⟨rs,f⟩⟩ false) (bS ⟨k,h,t,m⟩)with
      | true=>simp[House.e,wS,oW,Word.e]
      | false =>
       simp only[aB,bn,Bool.false_eq_true,if_false,EZ]
       by_cases c:k=1/\fI (am ⟨h,true,room,⟨rs,f⟩⟩ false) t=0
       ·simp[c,House.e,oW,Word.e]
       ·simp only[c,if_false]
        cases ha:answer h ⟨k,h,t,m⟩ (fI (am ⟨h,true,room,⟨rs,f⟩⟩ true) t)with
        | none =>
         have:=(Aj (id:=h)).2 ha
         simp only[this,if_true]
         simp[House.e,oW,Word.e]
        | some x =>
         have h0:¬ (oW (answer 0 ⟨k,h,t,m⟩ (fI (am ⟨h,true,room,⟨rs,f⟩⟩ true) t))).k=0:=fun e=>by
          rw[(Aj (id:=h)).1 e]at ha;cases ha
         have hx:=FJ ha
         simp only[h0,if_false]
         subst hx
         simp[House.e,oW,Word.e]
     simp only[h4,if_false,if_true,hms,hj,h3,decide_false,bne_self_eq_false,Bool.or_self,Bool.false_eq_true]
     rfl
    ·simp[h4,h3,e1,House.e,oW,Word.e]
end
end Dx
namespace Dx
open Go
theorem jN{l:List House}{i:Int}(h1:1<=i)(h2:i<=l.length)(id:Int)(up:Bool)(room:Int)(rs:List Rec)(f:Int) :
  setRow 0 (l.map House.e) (i-1).toNat [.int .i64 id,.bool up,.int .i64 room,.list (rs.map Rec.e),.int .i64 f]=(l.set (i-1).toNat ⟨id,up,room,⟨rs,f⟩⟩).map House.e :=
 dF (sK h1 h2) rfl
section
variable {up b:Bool} {rs:List Rec} {f:Int} {td:List Word} {k h t m keep:Int} {ms:List Int} {id room:Int} {hs:List House} {ns:List Word}
theorem pV(ho:HsOk ⟨id,up,room,⟨rs,f⟩⟩):uI [.int .i64 id,.bool up,.int .i64 room,.list (rs.map Rec.e),.int .i64 f]=some (cf ⟨id,up,room,⟨rs,f⟩⟩).e:=by
 rw[q_bz]
 have hlg:LgOk ⟨rs,f⟩:=ho.lg
 have hS:=hlg.S
 have hok:=houseOk_iff.2 ho
 simp (disch:=first|assumption|omega|(simp only[zL];omega)) only[F_bz,dN,hok,dG,House.e,mr hlg,Log.e,Int.reduceEq,reduceIte,zU,zT,aa]
 cases up<;>rfl
theorem sb(ho:HsOk ⟨id,up,room,⟨rs,f⟩⟩):uQ [.int .i64 id,.bool up,.int .i64 room,.list (rs.map Rec.e),.int .i64 f]=some (lq ⟨id,up,room,⟨rs,f⟩⟩).e:=by
 rw[q_cw]
 have hlg:LgOk ⟨rs,f⟩:=ho.lg
 have hS:=hlg.S
 have hok:=houseOk_iff.2 ho
 simp (disch:=first|assumption|omega|(simp only[zL];omega)) only[F_cw,dN,hok,dG,House.e,Int.reduceEq,reduceIte,zU,zT,aa]
 rfl
theorem sc(ho:HsOk ⟨id,up,room,⟨rs,f⟩⟩) :
  uM [.int .i64 id,.bool up,.int .i64 room,.list (rs.map Rec.e),.int .i64 f,.int .i64 keep]=some (hfall ⟨id,up,room,⟨rs,f⟩⟩ keep).e:=by
 rw[q_ch]
 have hlg:LgOk ⟨rs,f⟩:=ho.lg
 have hS:=hlg.S
 have hok:=houseOk_iff.2 ho
 simp (disch:=first|assumption|omega|(simp only[zL];omega)) only[F_ch,dN,hok,pr hlg,Log.e,Int.reduceEq,reduceIte,zU,zT,aa]
 rfl
theorem eE(hl:LgS ⟨rs,f⟩):lp [.int .i64 id,.bool up,.int .i64 room,.list (rs.map Rec.e),.int .i64 f,.bool b]=some (if dX ⟨id,up,room,⟨rs,f⟩⟩ then am ⟨id,up,room,⟨rs,f⟩⟩ b else⟨0,[]⟩).e:=by
 rw[q_by]
 cases ho:dX ⟨id,up,room,⟨rs,f⟩⟩with
 | false=>simp (disch:=first|assumption|omega|(simp only[zL];omega)) only[F_by,dN,ho,Int.reduceEq,reduceIte,zU,zT,aa];rfl
 | true =>
  have hd:=houseOk_iff.1 ho
  have hlg:LgOk ⟨rs,f⟩:=hd.lg
  simp (disch:=first|assumption|omega|(simp only[zL];omega)) only[F_by,dN,ho,mu hlg,Stock.e,if_true,Int.reduceEq,reduceIte,zU,zT,aa]
theorem wU(hL:ns.length<=1000) :
  iR [.bool up,.list (rs.map Rec.e),.int .i64 f,.list (td.map Word.e),.list (hs.map House.e),.list (ns.map Word.e),.int .i64 k,.int .i64 h,.int .i64 t,.int .i64 m]=some (iA ⟨⟨up,⟨rs,f⟩,td⟩,hs,ns⟩ ⟨k,h,t,m⟩).e:=by
 rw[q_cc]
 simp (disch:=first|assumption|omega|(simp only[zL];omega)) only[F_cc,iA,Int.reduceEq,reduceIte,zU,zT,aa]
 by_cases hn:ns.length<14
 ·have h':((ns.length:Nat):Int)<14:=by omega
  have hc:ns.length+1<=1099511627776:=by omega
  simp[hn,h',Wd.e,Word.e,bJ,hc]
 ·have h':¬ (((ns.length:Nat):Int)<14):=by omega
  simp[hn,h',Wd.e]
theorem Co(ho:WOk ⟨⟨up,⟨rs,f⟩,td⟩,hs,ns⟩)(hx:WdOk ⟨k,h,t,m⟩) :
  uF [.bool up,.list (rs.map Rec.e),.int .i64 f,.list (td.map Word.e),.list (hs.map House.e),.list (ns.map Word.e),.int .i64 k,.int .i64 h,.int .i64 t,.int .i64 m] =
   some ((oW (bH ⟨⟨up,⟨rs,f⟩,td⟩,hs,ns⟩ ⟨k,h,t,m⟩).2).e++(.bool (bH ⟨⟨up,⟨rs,f⟩,td⟩,hs,ns⟩ ⟨k,h,t,m⟩).2.isSome::(bH ⟨⟨up,⟨rs,f⟩,td⟩,hs,ns⟩ ⟨k,h,t,m⟩).1.e)):=by
 rw[q_bh]
 have hd:DkOk ⟨up,⟨rs,f⟩,td⟩:=ho.dk
 have hl:hs.length=3:=ho.len
 have hh:=hx.h
 simp only at hh
 by_cases h4:k>=4
 ·simp (disch:=first|assumption|omega|(simp only[zL];omega)) only[F_bh,hD,FH,bH,h4,if_true,decide_true,Desk.e,Int.reduceEq,reduceIte,zU,zT,aa]
  simp[Wd.e,oW,Word.e]
 ·have hho:=(ho.houseAt (i:=h) hh).2.1
  rw[br]at hho
  simp only at hho
  have hho':HsOk ⟨(bB hs h).id,(bB hs h).up,(bB hs h).room,⟨(bB hs h).lg.rs,(bB hs h).lg.f⟩⟩:=hho
  have h2:h<=hs.length:=by omega
  have hset:=fun id up room rs f=>jN (l:=hs) hh.1 h2 id up room rs f
  simp (disch:=first|assumption|omega|(simp only[zL];omega)) only[F_bh,hD,bH,h4,if_false,decide_false,aE,i5,House.e,sa,List.cons_append,Word.e,hset,lu,jC,eqD,List.set_set,br,Int.reduceEq,reduceIte,zU,zT,aa]
  simp[Wd.e,setHouse]
theorem sd(ho:WOk ⟨⟨up,⟨rs,f⟩,td⟩,hs,ns⟩){i:Int} :
  uJ [.bool up,.list (rs.map Rec.e),.int .i64 f,.list (td.map Word.e),.list (hs.map House.e),.list (ns.map Word.e),.int .i64 i]=some (cR ⟨⟨up,⟨rs,f⟩,td⟩,hs,ns⟩ i).e:=by
 rw[q_ab]
 have hd:DkOk ⟨up,⟨rs,f⟩,td⟩:=ho.dk
 have hl:hs.length=3:=ho.len
 by_cases h0:i=0
 ·subst h0
  simp (disch:=first|assumption|omega|(simp only[zL];omega)) only[Ei,cR,rY,Desk.e,Int.reduceEq,reduceIte,zU,zT,aa]
  simp[Wd.e]
 ·cases hi:in_ i 1 3 with
  | false=>simp (disch:=first|assumption|omega|(simp only[zL];omega)) only[Ei,c7,cR,h0,hi,if_false,Int.reduceEq,reduceIte,zU,zT,aa];simp[Wd.e]
  | true =>
   have hi':=in_iff.1 hi
   have hho:=(ho.houseAt (i:=i) hi').2.1
   rw[br]at hho
   simp only at hho
   have hho':HsOk ⟨(bB hs i).id,(bB hs i).up,(bB hs i).room,⟨(bB hs i).lg.rs,(bB hs i).lg.f⟩⟩:=hho
   have h2:i<=hs.length:=by omega
   have hset:=fun id up room rs f=>jN (l:=hs) hi'.1 h2 id up room rs f
   simp (disch:=first|assumption|omega|(simp only[zL];omega)) only[Ei,c7,cR,h0,hi,if_false,if_true,aE,i5,House.e,pV,hset,lu,jC,eqD,List.set_set,br,Int.reduceEq,reduceIte,zU,zT,aa]
   simp[Wd.e,setHouse]
theorem vv(ho:WOk ⟨⟨up,⟨rs,f⟩,td⟩,hs,ns⟩){i:Int} :
  uR [.bool up,.list (rs.map Rec.e),.int .i64 f,.list (td.map Word.e),.list (hs.map House.e),.list (ns.map Word.e),.int .i64 i]=some (cd ⟨⟨up,⟨rs,f⟩,td⟩,hs,ns⟩ ⟨9,i,0,[]⟩).e:=by
 rw[q_ad]
 have hd:DkOk ⟨up,⟨rs,f⟩,td⟩:=ho.dk
 have hl:hs.length=3:=ho.len
 by_cases h0:i=0
 ·subst h0
  have e0:in_ 0 0 3=true:=rfl
  simp (disch:=first|assumption|omega|(simp only[zL];omega)) only[Eu,cd,e0,vp,Desk.e,Int.reduceEq,reduceIte,zU,zT,aa]
  simp[Wd.e]
 ·cases hi:in_ i 1 3 with
  | false =>
   have e0:in_ i 0 3=false:=by rw[in_false]at hi ⊢;omega
   simp (disch:=first|assumption|omega|(simp only[zL];omega)) only[Eu,c7,cd,e0,h0,hi,if_false,Int.reduceEq,reduceIte,zU,zT,aa];simp[Wd.e]
  | true =>
   have hi':=in_iff.1 hi
   have e0:in_ i 0 3=true:=in_iff.2 (by omega)
   have hho:=(ho.houseAt (i:=i) hi').2.1
   rw[br]at hho
   simp only at hho
   have hho':HsOk ⟨(bB hs i).id,(bB hs i).up,(bB hs i).room,⟨(bB hs i).lg.rs,(bB hs i).lg.f⟩⟩:=hho
   have h2:i<=hs.length:=by omega
   have hset:=fun id up room rs f=>jN (l:=hs) hi'.1 h2 id up room rs f
   simp (disch:=first|assumption|omega|(simp only[zL];omega)) only[Eu,c7,cd,e0,h0,hi,if_false,if_true,aE,i5,House.e,sb,hset,lu,jC,eqD,List.set_set,br,Int.reduceEq,reduceIte,zU,zT,aa]
   simp[Wd.e,setHouse]
theorem i_do1(hd:DkOk ⟨up,⟨rs,f⟩,td⟩){k a:Int}{mc:List (List C)} :
  uL [.bool up,.list (rs.map Rec.e),.int .i64 f,.list (td.map Word.e),.int .i64 k,.int .i64 a,.int .i64 keep,.list mc]=some (dfall ⟨up,⟨rs,f⟩,td⟩ keep).e:=by
 rw[q_bq]
 simp (disch:=first|assumption|omega|(simp only[zL];omega)) only[F_bq,vo hd,Desk.e,Int.reduceEq,reduceIte,zU,zT,aa]
theorem i_do2(ho:HsOk ⟨id,up,room,⟨rs,f⟩⟩){k a:Int}{mc:List (List C)} :
  uN [.int .i64 id,.bool up,.int .i64 room,.list (rs.map Rec.e),.int .i64 f,.int .i64 k,.int .i64 a,.int .i64 keep,.list mc]=some (hfall ⟨id,up,room,⟨rs,f⟩⟩ keep).e:=by
 rw[q_bv]
 simp (disch:=first|assumption|omega|(simp only[zL];omega)) only[F_bv,sc ho,House.e,Int.reduceEq,reduceIte,zU,zT,aa]
theorem vx(ho:WOk ⟨⟨up,⟨rs,f⟩,td⟩,hs,ns⟩){i:Int}{k a k' a':Int}{mc mc':List (List C)} :
  uO [.bool up,.list (rs.map Rec.e),.int .i64 f,.list (td.map Word.e),.list (hs.map House.e),.list (ns.map Word.e),.int .i64 i,.int .i64 k,.int .i64 a,.int .i64 keep,.list mc,.int .i64 k',.int .i64 a',.int .i64 keep,.list mc']=some (cd ⟨⟨up,⟨rs,f⟩,td⟩,hs,ns⟩ ⟨8,i,keep,[]⟩).e:=by
 rw[q_aa]
 have hd:DkOk ⟨up,⟨rs,f⟩,td⟩:=ho.dk
 have hl:hs.length=3:=ho.len
 by_cases h0:i=0
 ·subst h0
  have e0:in_ 0 0 3=true:=rfl
  simp (disch:=first|assumption|omega|(simp only[zL];omega)) only[Ep,cd,e0,i_do1 hd,Desk.e,Int.reduceEq,reduceIte,zU,zT,aa]
  simp[Wd.e]
 ·cases hi:in_ i 1 3 with
  | false =>
   have e0:in_ i 0 3=false:=by rw[in_false]at hi ⊢;omega
   simp (disch:=first|assumption|omega|(simp only[zL];omega)) only[Ep,c7,cd,e0,h0,hi,if_false,Int.reduceEq,reduceIte,zU,zT,aa];simp[Wd.e]
  | true =>
   have hi':=in_iff.1 hi
   have e0:in_ i 0 3=true:=in_iff.2 (by omega)
   have hho:=(ho.houseAt (i:=i) hi').2.1
   rw[br]at hho
   simp only at hho
   have hho':HsOk ⟨(bB hs i).id,(bB hs i).up,(bB hs i).room,⟨(bB hs i).lg.rs,(bB hs i).lg.f⟩⟩:=hho
   have h2:i<=hs.length:=by omega
   have hset:=fun id up room rs f=>jN (l:=hs) hi'.1 h2 id up room rs f
   simp (disch:=first|assumption|omega|(simp only[zL];omega)) only[Ep,c7,cd,e0,h0,hi,if_false,if_true,aE,i5,House.e,i_do2 hho',hset,lu,jC,eqD,List.set_set,br,Int.reduceEq,reduceIte,zU,zT,aa]
   simp[Wd.e,setHouse]
theorem yI:t8 []=some deskNew.e:=by rw[q_dv];rfl
theorem vy:t9 [.int .i64 id,.int .i64 room] =
  some (if in_ id 1 3 && in_ room 0 9 then(⟨id,true,room,⟨[],0⟩⟩:House).e++[.bool true] else(⟨0,false,0,⟨[],0⟩⟩:House).e++[.bool false]):=by
 rw[q_dt]
 simp (disch:=first|assumption|omega|(simp only[zL];omega)) only[F_dt,c7,lP,Int.reduceEq,reduceIte,zU,zT,aa]
 cases in_ id 1 3<;>cases in_ room 0 9<;>rfl
theorem vz{rooms:List Int}(hL:rooms.length<=1099511627775):ua [.list (rooms.map eI)]=some (((aV rooms).getD wd0).e++[.bool (aV rooms).isSome]):=by
 rw[q_do]
 simp (disch:=first|assumption|omega|(simp only[zL];omega)) only[F_do,yI,Desk.e,deskNew,Int.reduceEq,reduceIte,zU,zT,aa]
 by_cases h3:((rooms.length:Nat):Int)=3
 case neg =>
  have:aV rooms=none:=by unfold aV;rw[if_neg];omega
  simp[h3,this,Wd.e,wd0]
 have h3':rooms.length=3:=by omega
 simp only[h3,if_true]
 have key:=aL (l:=rooms) (F:=fun ps=>qS (rooms.map eI) true [] 0 [] 3 ((aa ps 0).toInt) ((aa ps 1).toList)) (enc:=fun i (s:List House)=>[.int .i64 i,.list (s.map House.e)])
  (res:=fun xs i s=>.ret (((if xs.all (fun n=>in_ n 0 9)=true then some (⟨deskNew,s++nh i xs,[]⟩:Wd) else none).getD wd0).e++[.bool (if xs.all (fun n=>in_ n 0 9)=true then some (⟨deskNew,s++nh i xs,[]⟩:Wd) else none).isSome])) (fun i s=>s.length=i) (s:=[]) (by simp) ?_ ?_
 ·have key:aN _ [C.int .i64 0,C.list []]=_:=key
  simp only[List.map_nil]at key ⊢
  rw[key]
  have:(if rooms.all (fun n=>in_ n 0 9)=true then some (⟨deskNew,[]++nh 0 rooms,[]⟩:Wd) else none)=aV rooms:=by
   unfold aV ch
   rw[Bx];simp[h3']
  rw[this];rfl
 ·intro i x xs s hx hs
  have hi:=(List.getElem?_eq_some_iff.1 hx).1
  have hi':(i:Int)<3:=by omega
  simp only[qS,aa,C.toInt_int,C.toList_list,a8,hi',if_true,gl hx,eI]
  simp (disch:=first|assumption|omega|(simp only[zL];omega)) only[al,vy]
  have hid:in_ ((i+1:Nat):Int) 1 3=true:=in_iff.2 (by omega)
  simp only[hid,Bool.true_and]
  cases hok:in_ x 0 9 with
  | true =>
   simp only[House.e,List.cons_append,List.nil_append,kp,aa,C.toInt_int,C.toList_list,C.toBool_bool,List.map_nil,Bool.not_true,aB,if_true]
   rw[bo (by simp[bJ];omega)]
   refine .inl ⟨s++[⟨((i+1:Nat):Int),true,x,⟨[],0⟩⟩],by simp[House.e],by simp[hs],?_⟩
   simp[nh,hok]
  | false =>
   refine .inr ⟨_,rfl,?_⟩
   simp only[List.all_cons,hok,Bool.false_and,Bool.false_eq_true,if_false];rfl
 ·intro s hs
  have h:¬ ((rooms.length:Int)<3):=by omega
  simp only[qS,aa,C.toInt_int,C.toList_list,a8,h,if_false]
  simp[upD,nh,Wd.e,deskNew]
end
end Dx
namespace Dx
open Go
section
variable {up b:Bool} {rs:List Rec} {f:Int} {td:List Word} {k h t m keep:Int} {ms:List Int} {id room:Int} {hs:List House} {ns:List Word}
theorem zF{r:List (List C)}{i:Nat}{x12 x13:Int}(hi:i<=100)(hm:ms.length<=3)(hL:td.length<=1099511627775)(h14:b=true->x13=rg x12){acc:List Word}(ha:acc.length<=300) :
  aN (fun ps=>nM up r f (td.map Word.e) ((i:Nat):Int) (ms.map eI) x12 x13 b ((ms.length:Nat):Int) ((aa ps 0).toInt) ((aa ps 1).toList)) [.int .i64 0,.list (acc.map Word.e)] =
   some (.jump [.int .i64 ((i+1:Nat):Int),.list ((acc++if b then bh td x12 ((i+1:Nat):Int) 1 ms else []).map Word.e)]):=by
 have key:=aL (l:=ms) (F:=fun ps=>nM up r f (td.map Word.e) ((i:Nat):Int) (ms.map eI) x12 x13 b ((ms.length:Nat):Int) ((aa ps 0).toInt) ((aa ps 1).toList)) (enc:=fun j (s:List Word)=>[.int .i64 j,.list (s.map Word.e)])
  (res:=fun xs j s=>.jump [.int .i64 ((i+1:Nat):Int),.list ((s++if b then bh td x12 ((i+1:Nat):Int) ((j+1:Nat):Int) xs else []).map Word.e)]) (fun j s=>s.length<=300+j) (s:=acc) (by omega) ?_ ?_
 ·have key:aN _ [C.int .i64 0,C.list (acc.map Word.e)]=_:=key
  rw[key];rfl
 ·intro j x xs s hx hs
  have hj:=(List.getElem?_eq_some_iff.1 hx).1
  have hj':(j:Int)<(ms.length:Nat):=by omega
  have e1:((j+1:Nat):Int)+1=((j+1+1:Nat):Int):=by omega
  have hc:s.length+1<=1099511627776:=by omega
  simp (disch:=first|assumption|omega|(simp only[zL];omega)) only[nM,gl hx,eI,al,hj',if_true,Ah,Int.reduceEq,reduceIte,zU,zT,aa]
  cases b with
  | false =>
   exact .inl ⟨s,by simp,by omega,by simp⟩
  | true =>
   have h13:=h14 rfl
   simp only[bh,gH,e1,if_true]
   rw[h13]
   by_cases h0:x=0
   ·simp only[h0,if_true,true_or,List.nil_append]
    exact .inl ⟨s,rfl,by omega,rfl⟩
   ·simp only[h0,if_false,false_or]
    cases hcn:td.contains ⟨rg x12,((j+1:Nat):Int),((i+1:Nat):Int),0⟩with
    | true =>
     simp only[aD,if_true,List.nil_append]
     exact .inl ⟨s,rfl,by omega,rfl⟩
    | false =>
     simp only[aB,Bool.false_eq_true,if_false]
     by_cases h1:x12=1
     ·subst h1
      simp only[if_true,aD]
      exact .inl ⟨s++[⟨1,((j+1:Nat):Int),((i+1:Nat):Int),x⟩],by simp[Word.e],by simp;omega,by simp⟩
     ·simp only[h1,if_false]
      simp only[aD]
      exact .inl ⟨s++[⟨x12,((j+1:Nat):Int),((i+1:Nat):Int),0⟩],by simp[Word.e],by simp;omega,by simp⟩
 ·intro s hs
  have h:¬ ((ms.length:Int)<(ms.length:Nat)):=by omega
  simp (disch:=first|assumption|omega|(simp only[zL];omega)) only[nM,h,if_false,al,Int.reduceEq,reduceIte,zU,zT,aa]
  cases b<;>simp[upD,bh]
theorem xx(hd:DkOk ⟨up,⟨rs,f⟩,td⟩):oY [.bool up,.list (rs.map Rec.e),.int .i64 f,.list (td.map Word.e)]=some [.list ((bI ⟨up,⟨rs,f⟩,td⟩).map Word.e)]:=by
 rw[q_ca]
 have hS:=hd.lg.S
 have hS':LgS ⟨rs,f⟩:=hS
 have h1:0<=f:=hd.lg.lo
 have h2:f<=rs.length:=hd.lg.hi
 have hT:TrOk (aj ⟨rs,f⟩ true):=hd.trOk true
 have htl:td.length<=1099511627775:=by have:=hd.tdlen;simp only at this;omega
 cases up with
 | false=>simp[F_ca,bI]
 | true =>
  simp (disch:=first|assumption|omega|(simp only[zL];omega)) only[F_ca,mq hS' (fun _=>⟨h1,h2⟩),Int.reduceEq,reduceIte,zU,zT,aa]
  have ed:bI ⟨true,⟨rs,f⟩,td⟩=di td 1 (aj ⟨rs,f⟩ true):=rfl
  rw[ed]
  generalize aj ⟨rs,f⟩ true=l at hT
  have hl6:=hT.len
  have key:=aL (l:=l) (F:=fun ps=>qW true (rs.map Rec.e) f (td.map Word.e) (l.map Trip.e) ((l.length:Nat):Int) ((aa ps 0).toInt) ((aa ps 1).toList)) (enc:=fun j (s:List Word)=>[.int .i64 j,.list (s.map Word.e)])
   (res:=fun xs j s=>.ret [.list ((s++di td ((j+1:Nat):Int) xs).map Word.e)]) (fun j s=>s.length<=3*j) (s:=[]) (by simp) ?_ ?_
  ·have key:aN _ [C.int .i64 0,C.list []]=_:=key
   rw[key];rfl
  ·intro j x xs s hx hs
   have hj:=(List.getElem?_eq_some_iff.1 hx).1
   have hj':(j:Int)<(l.length:Nat):=by omega
   have hxo:=tripOk_iff.1 (hT.ok x (List.mem_of_getElem? hx))
   have hm3:=bc hxo.1
   have e1:((j+1:Nat):Int)+1=((j+1+1:Nat):Int):=by omega
   obtain⟨hx1,hx2⟩:=hxo.2
   simp (disch:=first|assumption|omega|(simp only[zL];omega)) only[qW,ip hx,Trip.e,hj',if_true,Int.reduceEq,reduceIte,zU,zT,aa]
   rw[zF (hi:=by omega) (hm:=by omega) (hL:=htl) (ha:=by omega)]
   ·refine .inl ⟨s++(if(([1,2,3]:List Int).any fun k=>(x.s:Int)==k) then bh td (gK [(1,1),(2,2),(3,3)] x.s) ((j+1:Nat):Int) 1 x.m else []),rfl,?_,?_⟩
    ·rw[List.length_append]
     have:=eD td (gK [(1,1),(2,2),(3,3)] x.s) ((j+1:Nat):Int) x.m 1
     split
     ·omega
     ·simp;omega
    ·simp only[di,e1,List.append_assoc]
     have:(if(([1,2,3]:List Int).any fun k=>(x.s:Int)==k) then bh td (gK [(1,1),(2,2),(3,3)] x.s) ((j+1:Nat):Int) 1 x.m else [])=if x.s>3 then [] else bh td x.s ((j+1:Nat):Int) 1 x.m:=by
      have:x.s=1\/x.s=2\/x.s=3\/x.s=4\/x.s=5:=by omega
      rcases this with e|e|e|e|e<;>rw[e]<;>simp[gK]
     rw[this]
   ·intro hb
    have:x.s=1\/x.s=2\/x.s=3\/x.s=4\/x.s=5:=by omega
    rcases this with e|e|e|e|e<;>rw[e]at hb ⊢<;>simp[gK,rg]at hb ⊢
  ·intro s hs
   have h:¬ ((l.length:Int)<(l.length:Nat)):=by omega
   simp (disch:=first|assumption|omega|(simp only[zL];omega)) only[qW,h,if_false,Int.reduceEq,reduceIte,zU,zT,aa]
   simp[di]
theorem se(hl:DkS ⟨up,⟨rs,f⟩,td⟩):uV [.bool up,.list (rs.map Rec.e),.int .i64 f,.list (td.map Word.e)]=some [.list ((if cm ⟨up,⟨rs,f⟩,td⟩ then bI ⟨up,⟨rs,f⟩,td⟩ else []).map Word.e)]:=by
 rw[q_cy]
 cases ho:cm ⟨up,⟨rs,f⟩,td⟩with
 | false=>simp (disch:=first|assumption|omega|(simp only[zL];omega)) only[F_cy,cG,ho,Int.reduceEq,reduceIte,zU,zT,aa];rfl
 | true =>
  have hd:=deskOk_iff.1 ho
  simp (disch:=first|assumption|omega|(simp only[zL];omega)) only[F_cy,cG,ho,xx hd,if_true,Int.reduceEq,reduceIte,zU,zT,aa]
end
end Dx
namespace Dx
open Go
section
variable {up b:Bool} {rs:List Rec} {f:Int} {td:List Word} {k h t m keep:Int} {ms:List Int} {id room:Int} {hs:List House} {ns:List Word}
theorem i_net(ho:WOk ⟨⟨up,⟨rs,f⟩,td⟩,hs,ns⟩){k a b:Int}{mc:List (List C)}(hk:k=4\/k=5\/k=6) :
  uG [.bool up,.list (rs.map Rec.e),.int .i64 f,.list (td.map Word.e),.list (hs.map House.e),.list (ns.map Word.e),.int .i64 k,.int .i64 a,.int .i64 b,.list mc]=some (jX ⟨⟨up,⟨rs,f⟩,td⟩,hs,ns⟩ ⟨k,a,b,ms⟩).e:=by
 rw[q_cj]
 have hnl:ns.length<=14:=ho.nlen
 simp (disch:=first|assumption|omega|(simp only[zL];omega)) only[F_cj,lP,aE,Int.reduceEq,reduceIte,zU,zT,aa]
 cases hi:in_ a 0 ((ns.length:Nat)-1)with
 | false =>
  have hn:(if 0<=a then ns[a.toNat]? else none)=none:=by
   rw[in_false]at hi
   split
   ·rw[List.getElem?_eq_none];omega
   ·rfl
  unfold jX
  simp only[hn,aB,aD,Bool.not_false,az]
  rfl
 | true =>
  have hi:=in_iff.1 hi
  have hlt:a.toNat<ns.length:=by omega
  have hx:ns[a.toNat]?=some ns[a.toNat]:=by simp
  have hn:(if 0<=a then ns[a.toNat]? else none)=some ns[a.toNat]:=by rw[if_pos hi.1,hx]
  have hxo:=ho.ns _ (List.getElem_mem hlt)
  have hrow:∀ f:List C->Option Out,aO (.list (ns.map Word.e)) (.int .i64 a) [.int .i64,.int .i64,.int .i64,.int .i64] f=f (ns[a.toNat]).e:=fun f=>dm hi.1 hx rfl
  have hdel:pg [.list (ns.map Word.e),.int .i64 a,.int .i64 (a+1)]=some [.list ((ns.eraseIdx a.toNat).map Word.e)]:=by
   have hc:(decide (0<=a) && (decide (a<a+1) && decide (a+1<=((ns.map Word.e).length:Nat))))=true:=by
    simp only[Bool.and_eq_true,decide_eq_true_eq,List.length_map];omega
   unfold pg
   simp only[hc]
   have e1:(a+1).toNat=a.toNat+1:=by omega
   rw[e1,List.eraseIdx_eq_take_drop_succ,List.map_append,List.map_take,List.map_drop]
  have hd:decide (0<=a) && decide (a<((ns.length:Nat):Int))=true:=by simp;omega
  have hto:=ho.take a
  unfold jX
  simp only[hn]
  generalize hxx:ns[a.toNat]=x at hrow hxo
  have hsn:iR [.bool up,.list (rs.map Rec.e),.int .i64 f,.list (td.map Word.e),.list (hs.map House.e),.list (ns.map Word.e),.int .i64 x.k,.int .i64 x.h,.int .i64 x.t,.int .i64 x.m]=some (iA ⟨⟨up,⟨rs,f⟩,td⟩,hs,ns⟩ x).e:=wU (by omega)
  have hto':WOk ⟨⟨up,⟨rs,f⟩,td⟩,hs,ns.eraseIdx a.toNat⟩:=hto
  have hh:=hto'.hear hxo
  have hhe:=Co (k:=x.k) (h:=x.h) (t:=x.t) (m:=x.m) hto' hxo
  have etk:ez ⟨⟨up,⟨rs,f⟩,td⟩,hs,ns⟩ a=⟨⟨up,⟨rs,f⟩,td⟩,hs,ns.eraseIdx a.toNat⟩:=rfl
  simp only[etk]
  have hw:IntKind.wrap .i64 (a+1)=a+1:=aE (by omega) (by omega)
  rcases hk with e|e|e
  ·subst e
   simp (disch:=first|assumption|omega|(simp only[zL];omega)) only[rb,hrow,hd,Word.e,Int.reduceEq,reduceIte,zU,zT,aa]
   rw[hw,hdel]
   simp only[Ac,aa,C.toList_list]
   rw[hhe]
   have ex:(⟨x.k,x.h,x.t,x.m⟩:Word)=x:=rfl
   rw[ex]
   generalize bH (⟨⟨up,⟨rs,f⟩,td⟩,hs,ns.eraseIdx a.toNat⟩:Wd) x=q at hh ⊢
   obtain⟨q1,q2⟩:=q
   cases q2 with
   | none =>
    simp only[oW,Word.e,Wd.e,List.cons_append,List.nil_append,Option.isSome_none]
    rw[bv rfl]
    rfl
   | some y =>
    have hq:WOk q1:=hh.1
    have hql:=hq.nlen
    have hsn2:iR [.bool q1.dk.up,.list (q1.dk.lg.rs.map Rec.e),.int .i64 q1.dk.lg.f,.list (q1.dk.td.map Word.e),.list (q1.hs.map House.e),.list (q1.ns.map Word.e),.int .i64 y.k,.int .i64 y.h,.int .i64 y.t,.int .i64 y.m]=some (iA q1 y).e:=wU (ns:=q1.ns) (by omega)
    simp only[oW,Word.e,Wd.e,List.cons_append,List.nil_append,Option.isSome_some,Option.getD_some]
    rw[bv rfl]
    simp only[aa,C.toBool_bool,C.toList_list,C.toInt_int,aD]
    rw[hsn2]
    simp only[Wd.e]
    rw[bv rfl]
    rfl
  ·subst e
   simp (disch:=first|assumption|omega|(simp only[zL];omega)) only[rb,hrow,hd,Word.e,Int.reduceEq,reduceIte,zU,zT,aa]
   rw[hw,hdel]
   rfl
  ·subst e
   simp (disch:=first|assumption|omega|(simp only[zL];omega)) only[rb,hrow,hd,Word.e,Int.reduceEq,reduceIte,zU,zT,aa]
   rw[hsn]
   simp only[Wd.e]
   rw[bv rfl]
   rfl
theorem FK{l:List Word}{i:Int}{x:Word}(h0:0<=i)(h:l[i.toNat]?=some x){kk:IntKind}{f:List C->Option Out}:aO (.list (l.map Word.e)) (.int kk i) [.int .i64,.int .i64,.int .i64,.int .i64] f=f x.e:=dm h0 h rfl
theorem px{d:Desk}{r:Rec}(h:dZ d r=false):aZ d r=d:=by
 unfold dZ at h
 unfold aZ
 split
 ·rename_i hc
  simp only[Bool.and_eq_true]at hc
  simp only[hc.1,hc.2,Bool.true_and]at h
  have:d.lg.rs.length>=40:=by simpa [l7] using h
  simp[dA,this]
 ·rfl
theorem i_do(ho:WOk ⟨⟨up,⟨rs,f⟩,td⟩,hs,ns⟩){k a b:Int}(hm:ms.length<=1099511627776) :
  l5 [.bool up,.list (rs.map Rec.e),.int .i64 f,.list (td.map Word.e),.list (hs.map House.e),.list (ns.map Word.e),.int .i64 k,.int .i64 a,.int .i64 b,.list (ms.map eI)]=some (wdo ⟨⟨up,⟨rs,f⟩,td⟩,hs,ns⟩ ⟨k,a,b,ms⟩).e:=by
 rw[q_db]
 have hd:DkOk ⟨up,⟨rs,f⟩,td⟩:=ho.dk
 have hdS:DkS ⟨up,⟨rs,f⟩,td⟩:=hd.S
 have hdo:=deskOk_iff.2 hd
 have hnl:ns.length<=14:=ho.nlen
 unfold F_db
 by_cases h1:k=1
 ·subst h1
  simp only[BEq.rfl,aD,rZ hdS hm,hdo,Bool.true_and]
  have ew:wdo ⟨⟨up,⟨rs,f⟩,td⟩,hs,ns⟩ ⟨1,a,b,ms⟩=⟨fF ⟨up,⟨rs,f⟩,td⟩ ms,hs,ns⟩:=rfl
  rw[ew]
  unfold fF
  cases hr:aF (eY ⟨up,⟨rs,f⟩,td⟩ ms)with
  | false=>rfl
  | true =>
   simp only[if_true]
   cases hb:dZ ⟨up,⟨rs,f⟩,td⟩ (eY ⟨up,⟨rs,f⟩,td⟩ ms)with
   | false=>rw[px hb];rfl
   | true=>rfl
 by_cases h2:k=2
 ·subst h2
  simp only[Int.reduceBEq,aB,aD,vq hdS,hdo,Bool.true_and]
  have ew:wdo ⟨⟨up,⟨rs,f⟩,td⟩,hs,ns⟩ ⟨2,a,b,ms⟩=⟨iU ⟨up,⟨rs,f⟩,td⟩ a,hs,ns⟩:=rfl
  rw[ew]
  unfold iU
  cases hr:in_ a 1 6 with
  | false=>rfl
  | true =>
   simp only[if_true]
   cases hb:dZ ⟨up,⟨rs,f⟩,td⟩ ⟨6,a,[]⟩with
   | false=>rw[px hb];rfl
   | true=>rfl
 by_cases h3:k=3
 ·subst h3
  have hwl:(bI ⟨up,⟨rs,f⟩,td⟩).length<=18:=me hd
  simp (disch:=first|assumption|omega|(simp only[zL];omega)) only[Int.reduceBEq,xx hd,lP,aE,Int.reduceEq,reduceIte,zU,zT,aa]
  have ew:wdo ⟨⟨up,⟨rs,f⟩,td⟩,hs,ns⟩ ⟨3,a,b,ms⟩=gI ⟨⟨up,⟨rs,f⟩,td⟩,hs,ns⟩ ⟨3,a,b,ms⟩:=rfl
  rw[ew]
  unfold gI
  simp only[Int.reduceEq,if_false,if_true]
  generalize bI ⟨up,⟨rs,f⟩,td⟩=l at hwl
  cases hi:in_ a 0 ((l.length:Nat)-1)with
  | false =>
   have hn:(if 0<=a then l[a.toNat]? else none)=none:=by
    rw[in_false]at hi
    split
    ·rw[List.getElem?_eq_none];omega
    ·rfl
   rw[hn];rfl
  | true =>
   have hi:=in_iff.1 hi
   have hlt:a.toNat<l.length:=by omega
   have hx:l[a.toNat]?=some l[a.toNat]:=by simp
   have hn:(if 0<=a then l[a.toNat]? else none)=some l[a.toNat]:=by rw[if_pos hi.1,hx]
   rw[hn]
   simp only[aD]
   rw[FK hi.1 hx]
   generalize l[a.toNat]=x
   simp only[Word.e,aa,C.toInt_int]
   have hsn:iR [.bool up,.list (rs.map Rec.e),.int .i64 f,.list (td.map Word.e),.list (hs.map House.e),.list (ns.map Word.e),.int .i64 x.k,.int .i64 x.h,.int .i64 x.t,.int .i64 x.m]=some (iA ⟨⟨up,⟨rs,f⟩,td⟩,hs,ns⟩ x).e:=wU (by omega)
   rw[hsn]
   simp only[Wd.e]
   rw[bv rfl]
   rfl
 have e1:(k==1)=false:=by simpa using h1
 have e2:(k==2)=false:=by simpa using h2
 have e3:(k==3)=false:=by simpa using h3
 have ew:wdo ⟨⟨up,⟨rs,f⟩,td⟩,hs,ns⟩ ⟨k,a,b,ms⟩=if k=4\/k=5\/k=6 then jX ⟨⟨up,⟨rs,f⟩,td⟩,hs,ns⟩ ⟨k,a,b,ms⟩ else if k=7\/k=8\/k=9 then cd ⟨⟨up,⟨rs,f⟩,td⟩,hs,ns⟩ ⟨k,a,b,ms⟩ else⟨⟨up,⟨rs,f⟩,td⟩,hs,ns⟩:=by
  unfold wdo;simp only[h1,h2,h3,false_or,if_false]
 rw[ew]
 simp only[e1,e2,e3,aB]
 by_cases h4:k=4\/k=5\/k=6
 ·rw[if_pos h4]
  have hn:=i_net (ms:=ms) ho (k:=k) (a:=a) (b:=b) (mc:=ms.map eI) h4
  have:bl (ae (k==4) (some (.jump [.bool true])) (ae (k==5) (some (.jump [.bool true])) (some (.jump [.bool (k==6)])))) (fun ps=>nO up (rs.map Rec.e) f (td.map Word.e) (hs.map House.e) (ns.map Word.e) k a b (ms.map eI) (aa ps 0).toBool) =
    nO up (rs.map Rec.e) f (td.map Word.e) (hs.map House.e) (ns.map Word.e) k a b (ms.map eI) true:=by
   rcases h4 with e|e|e<;>subst e<;>rfl
  rw[this]
  unfold nO
  simp only[aD]
  rw[hn]
  simp only[Wd.e]
  rw[bv rfl]
  rfl
 ·rw[if_neg h4]
  simp only[not_or]at h4
  have f4:(k==4)=false:=by simpa using h4.1
  have f5:(k==5)=false:=by simpa using h4.2.1
  have f6:(k==6)=false:=by simpa using h4.2.2
  simp only[f4,f5,f6,aB,ba,aa,C.toBool_bool]
  unfold nO
  simp only[aB]
  by_cases h7:k=7
  ·subst h7
   have hn:cd ⟨⟨up,⟨rs,f⟩,td⟩,hs,ns⟩ ⟨7,a,b,ms⟩=cR ⟨⟨up,⟨rs,f⟩,td⟩,hs,ns⟩ a:=by
    unfold cd cR
    cases hi:in_ a 0 3 with
    | true=>simp
    | false =>
     rw[in_false]at hi
     have h0:a≠0:=by omega
     have h1:in_ a 1 3=false:=by rw[in_false];omega
     simp[h0,h1]
   simp only[BEq.rfl,aD,sd ho,Int.reduceEq,true_or,if_true,hn]
   simp only[Wd.e]
   rw[bv rfl]
   rfl
  by_cases h8:k=8
  ·subst h8
   have hn:cd ⟨⟨up,⟨rs,f⟩,td⟩,hs,ns⟩ ⟨8,a,b,ms⟩=cd ⟨⟨up,⟨rs,f⟩,td⟩,hs,ns⟩ ⟨8,a,b,[]⟩:=rfl
   simp only[Int.reduceBEq,aB,aD,vx ho,Int.reduceEq,true_or,or_true,if_true,hn]
   simp only[Wd.e]
   rw[bv rfl]
   rfl
  by_cases h9:k=9
  ·subst h9
   have hn:cd ⟨⟨up,⟨rs,f⟩,td⟩,hs,ns⟩ ⟨9,a,b,ms⟩=cd ⟨⟨up,⟨rs,f⟩,td⟩,hs,ns⟩ ⟨9,a,0,[]⟩:=rfl
   simp only[Int.reduceBEq,aB,aD,vv ho,Int.reduceEq,or_true,if_true,hn]
   simp only[Wd.e]
   rw[bv rfl]
   rfl
  have g7:(k==7)=false:=by simpa using h7
  have g8:(k==8)=false:=by simpa using h8
  have g9:(k==9)=false:=by simpa using h9
  simp only[g7,g8,g9,aB,h7,h8,h9,or_false,if_false,az]
  rfl
theorem E1{w:Wd}(ho:WOk w){e:Ev}(hm:e.m.length<=1099511627776) :
  l5 [.bool w.dk.up,.list (w.dk.lg.rs.map Rec.e),.int .i64 w.dk.lg.f,.list (w.dk.td.map Word.e),.list (w.hs.map House.e),.list (w.ns.map Word.e),.int .i64 e.k,.int .i64 e.a,.int .i64 e.b,.list (e.m.map eI)]=some (wdo w e).e :=
 i_do (up:=w.dk.up) (rs:=w.dk.lg.rs) (f:=w.dk.lg.f) (td:=w.dk.td) (hs:=w.hs) (ns:=w.ns) ho hm
theorem cL{rooms:List Int}{es:List Ev}(hr:rooms.length<=1099511627775)(hl:es.length<=1099511627776)(hs:∀ e∈es,EvS e) :
  dq [.list (rooms.map eI),.list (es.map Ev.e)]=some (((aU rooms es).getD wd0).e++[.bool (aU rooms es).isSome]):=by
 rw[q_cr]
 have hwn:=vz (rooms:=rooms) hr
 simp only[Wd.e,List.cons_append,List.nil_append]at hwn
 simp (disch:=first|assumption|omega|(simp only[zL];omega)) only[F_cr,hwn,Int.reduceEq,reduceIte,zU,zT,aa]
 unfold aU
 cases hw:aV rooms with
 | none=>simp[Wd.e,wd0]
 | some w0 =>
  have ok0:=co hw
  simp only[Option.isSome_some,Bool.not_true,aD,aB,Option.getD_some,Option.map_some]
  by_cases h80:((es.length:Nat):Int)>80
  ·have h80':es.length>80:=by omega
   simp[h80,h80',Wd.e,wd0]
  ·have h80':¬ es.length>80:=by omega
   simp only[h80,h80',if_false]
   have key:=aL (l:=es) (F:=fun ps=>rc (es.map Ev.e) ((es.length:Nat):Int) ((aa ps 0).toInt) ((aa ps 1).toBool) ((aa ps 2).toList) ((aa ps 3).toInt) ((aa ps 4).toList) ((aa ps 5).toList) ((aa ps 6).toList))
    (enc:=fun i (w:Wd)=>.int .i64 i::w.e)
    (res:=fun xs _ w=>.ret ((bA w xs).e++[.bool true])) (fun _ w=>WOk w) (s:=w0) ok0 ?_ ?_
   ·have key:aN _ (C.int .i64 0::w0.e)=_:=key
    simp only[Wd.e]at key
    rw[key];rfl
   ·intro i x xs w hx ow
    have hi:=(List.getElem?_eq_some_iff.1 hx).1
    have hi':(i:Int)<(es.length:Nat):=by omega
    have hx3:=hs x (List.mem_of_getElem? hx)
    have hxm:x.m.length<=1099511627776:=by unfold EvS at hx3;omega
    simp only[Wd.e,aa,C.toInt_int,C.toBool_bool,C.toList_list]
    unfold rc
    simp only[a8,hi',if_true,lv hx,Ev.e,aa,C.toInt_int,C.toList_list,E1 ow hxm]
    simp only[Wd.e,dM,aa,C.toInt_int,C.toList_list,C.toBool_bool]
    rw[al (by omega)]
    exact .inl ⟨wdo w x,rfl,ow.do_ x,rfl⟩
   ·intro w ow
    have h:¬ ((es.length:Int)<(es.length:Nat)):=by omega
    simp only[Wd.e,aa,C.toInt_int,C.toBool_bool,C.toList_list]
    unfold rc
    simp only[a8,h,if_false]
    rfl
end
end Dx
