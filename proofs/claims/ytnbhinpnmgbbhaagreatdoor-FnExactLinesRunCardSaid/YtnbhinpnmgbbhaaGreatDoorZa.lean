import Derived.Test.YtnbhinpnmgbbhaaGreatDoorTa
import Derived.Test.YtnbhinpnmgbbhaaGreatDoorYq1
import Derived.Test.YtnbhinpnmgbbhaaGreatDoorYq2
import Derived.Test.YtnbhinpnmgbbhaaGreatDoorYq3
set_option linter.all false
namespace Dx
open Go
theorem wrap64{x:Int}(h1:-9223372036854775808<=x)(h2:x<=9223372036854775807):IntKind.wrap .i64 x=x:=by
 have e:IntKind.wrap .i64 x=if x % 18446744073709551616>=9223372036854775808 then x % 18446744073709551616-18446744073709551616 else x % 18446744073709551616:=by
  simp[IntKind.wrap,IntKind.bits,IntKind.signed]
 rw[e]
 split<;>omega
theorem CV{i:Nat}(h:i<=aK):IntKind.wrap .i64 ((i:Int)+1)=((i+1:Nat):Int):=by
 rw[wrap64]<;>(simp[aK]at h;omega)
theorem bR{cs:List C}{ks:List CK}{f:List C->Option Out}(hk:ah ks cs=true):ac (some cs) ks f=f cs:=by
 simp only[ac,ae,hk,jN hk]
theorem sB(x0:List (List C))(f:List C->Option Out):ac (some [.list x0]) [.list] f=f [.list x0]:=rfl
theorem zp(x0:Bool)(f:List C->Option Out):ac (some [.bool x0]) [.bool] f=f [.bool x0]:=rfl
theorem cd_i(x0:Int)(f:List C->Option Out):ac (some [.int .i64 x0]) [(.int .i64)] f=f [.int .i64 x0]:=rfl
theorem Kr(x0:List (List C))(x1:Bool)(f:List C->Option Out):ac (some [.list x0,.bool x1]) [.list,.bool] f=f [.list x0,.bool x1]:=rfl
theorem cd_bb(x0:Bool)(x1:Bool)(f:List C->Option Out):ac (some [.bool x0,.bool x1]) [.bool,.bool] f=f [.bool x0,.bool x1]:=rfl
theorem Ks(x0:List (List C))(x1:Int)(f:List C->Option Out):ac (some [.list x0,.int .i64 x1]) [.list,(.int .i64)] f=f [.list x0,.int .i64 x1]:=rfl
theorem cd_il(x0:Int)(x1:List (List C))(f:List C->Option Out):ac (some [.int .i64 x0,.list x1]) [(.int .i64),.list] f=f [.int .i64 x0,.list x1]:=rfl
theorem K1(x0:List (List C))(x1:Int)(x2:Bool)(f:List C->Option Out):ac (some [.list x0,.int .i64 x1,.bool x2]) [.list,(.int .i64),.bool] f=f [.list x0,.int .i64 x1,.bool x2]:=rfl
theorem K2(x0:List (List C))(x1:List (List C))(x2:Int)(f:List C->Option Out):ac (some [.list x0,.list x1,.int .i64 x2]) [.list,.list,(.int .i64)] f=f [.list x0,.list x1,.int .i64 x2]:=rfl
theorem K3(x0:Int)(x1:List (List C))(x2:Bool)(f:List C->Option Out):ac (some [.int .i64 x0,.list x1,.bool x2]) [(.int .i64),.list,.bool] f=f [.int .i64 x0,.list x1,.bool x2]:=rfl
theorem K4(x0:Int)(x1:List (List C))(x2:Int)(f:List C->Option Out):ac (some [.int .i64 x0,.list x1,.int .i64 x2]) [(.int .i64),.list,(.int .i64)] f=f [.int .i64 x0,.list x1,.int .i64 x2]:=rfl
theorem K5(x0:Int)(x1:Int)(x2:List (List C))(f:List C->Option Out):ac (some [.int .i64 x0,.int .i64 x1,.list x2]) [(.int .i64),(.int .i64),.list] f=f [.int .i64 x0,.int .i64 x1,.list x2]:=rfl
theorem t8(x0:Bool)(x1:List (List C))(x2:Int)(x3:List (List C))(f:List C->Option Out):ac (some [.bool x0,.list x1,.int .i64 x2,.list x3]) [.bool,.list,(.int .i64),.list] f=f [.bool x0,.list x1,.int .i64 x2,.list x3]:=rfl
theorem jd(x0:Bool)(x1:List (List C))(x2:Int)(x3:List (List C))(x4:Bool)(f:List C->Option Out):ac (some [.bool x0,.list x1,.int .i64 x2,.list x3,.bool x4]) [.bool,.list,(.int .i64),.list,.bool] f=f [.bool x0,.list x1,.int .i64 x2,.list x3,.bool x4]:=rfl
theorem lv(x0:Bool)(x1:Bool)(x2:List (List C))(x3:Int)(x4:List (List C))(f:List C->Option Out):ac (some [.bool x0,.bool x1,.list x2,.int .i64 x3,.list x4]) [.bool,.bool,.list,(.int .i64),.list] f=f [.bool x0,.bool x1,.list x2,.int .i64 x3,.list x4]:=rfl
theorem dR(x0:Bool)(x1:List (List C))(x2:Int)(x3:List (List C))(x4:List (List C))(x5:List (List C))(f:List C->Option Out):ac (some [.bool x0,.list x1,.int .i64 x2,.list x3,.list x4,.list x5]) [.bool,.list,(.int .i64),.list,.list,.list] f=f [.bool x0,.list x1,.int .i64 x2,.list x3,.list x4,.list x5]:=rfl
theorem Ej(x0:Int)(x1:Bool)(x2:Int)(x3:List (List C))(x4:Int)(f:List C->Option Out):ac (some [.int .i64 x0,.bool x1,.int .i64 x2,.list x3,.int .i64 x4]) [(.int .i64),.bool,(.int .i64),.list,(.int .i64)] f=f [.int .i64 x0,.bool x1,.int .i64 x2,.list x3,.int .i64 x4]:=rfl
theorem zq(x0:Bool)(x1:List (List C))(x2:Int)(x3:List (List C))(x4:List (List C))(x5:List (List C))(x6:Bool)(f:List C->Option Out):ac (some [.bool x0,.list x1,.int .i64 x2,.list x3,.list x4,.list x5,.bool x6]) [.bool,.list,(.int .i64),.list,.list,.list,.bool] f=f [.bool x0,.list x1,.int .i64 x2,.list x3,.list x4,.list x5,.bool x6]:=rfl
theorem Ek(x0:Int)(x1:Int)(x2:Int)(x3:Int)(x4:Bool)(f:List C->Option Out):ac (some [.int .i64 x0,.int .i64 x1,.int .i64 x2,.int .i64 x3,.bool x4]) [(.int .i64),(.int .i64),(.int .i64),(.int .i64),.bool] f=f [.int .i64 x0,.int .i64 x1,.int .i64 x2,.int .i64 x3,.bool x4]:=rfl
theorem mo(x0:Int)(x1:Bool)(x2:Int)(x3:List (List C))(x4:Int)(x5:Bool)(f:List C->Option Out):ac (some [.int .i64 x0,.bool x1,.int .i64 x2,.list x3,.int .i64 x4,.bool x5]) [(.int .i64),.bool,(.int .i64),.list,(.int .i64),.bool] f=f [.int .i64 x0,.bool x1,.int .i64 x2,.list x3,.int .i64 x4,.bool x5]:=rfl
theorem CW(x0:Int)(x1:Int)(x2:Int)(x3:List (List C))(x4:List (List C))(x5:Int)(f:List C->Option Out):ac (some [.int .i64 x0,.int .i64 x1,.int .i64 x2,.list x3,.list x4,.int .i64 x5]) [(.int .i64),(.int .i64),(.int .i64),.list,.list,(.int .i64)] f=f [.int .i64 x0,.int .i64 x1,.int .i64 x2,.list x3,.list x4,.int .i64 x5]:=rfl
theorem qO(x0:List (List C))(x1:List (List C))(x2:Bool)(x3:List (List C))(x4:Int)(x5:List (List C))(x6:List (List C))(x7:List (List C))(x8:List (List C))(x9:Int)(f:List C->Option Out):ac (some [.list x0,.list x1,.bool x2,.list x3,.int .i64 x4,.list x5,.list x6,.list x7,.list x8,.int .i64 x9]) [.list,.list,.bool,.list,(.int .i64),.list,.list,.list,.list,(.int .i64)] f=f [.list x0,.list x1,.bool x2,.list x3,.int .i64 x4,.list x5,.list x6,.list x7,.list x8,.int .i64 x9]:=rfl
theorem og(x0:Bool)(x1:List (List C))(x2:Int)(x3:List (List C))(x4:List (List C))(x5:List (List C))(x6:Int)(x7:Int)(x8:Int)(x9:Int)(x10:Bool)(f:List C->Option Out):ac (some [.bool x0,.list x1,.int .i64 x2,.list x3,.list x4,.list x5,.int .i64 x6,.int .i64 x7,.int .i64 x8,.int .i64 x9,.bool x10]) [.bool,.list,(.int .i64),.list,.list,.list,(.int .i64),(.int .i64),(.int .i64),(.int .i64),.bool] f=f [.bool x0,.list x1,.int .i64 x2,.list x3,.list x4,.list x5,.int .i64 x6,.int .i64 x7,.int .i64 x8,.int .i64 x9,.bool x10]:=rfl
theorem qP(x0:Int)(x1:Bool)(x2:Int)(x3:List (List C))(x4:Int)(x5:Int)(x6:Int)(x7:Int)(x8:Int)(x9:Bool)(f:List C->Option Out):ac (some [.int .i64 x0,.bool x1,.int .i64 x2,.list x3,.int .i64 x4,.int .i64 x5,.int .i64 x6,.int .i64 x7,.int .i64 x8,.bool x9]) [(.int .i64),.bool,(.int .i64),.list,(.int .i64),(.int .i64),(.int .i64),(.int .i64),(.int .i64),.bool] f=f [.int .i64 x0,.bool x1,.int .i64 x2,.list x3,.int .i64 x4,.int .i64 x5,.int .i64 x6,.int .i64 x7,.int .i64 x8,.bool x9]:=rfl
theorem kd{es:List (List C)}{i:Int}{r:List C}(h0:0<=i)(hx:es[i.toNat]?=some r){kk:IntKind}{ks:List CK}{f:List C->Option Out}(hk:ah ks r=true):aG (.list es) (.int kk i) ks f=f r:=by
 obtain⟨n,rfl⟩:=Int.eq_ofNat_of_zero_le h0
 unfold aG
 simp only[C.toInt,C.toList]
 show (match es[n]? with|some r=>ae (ah ks r) (f (c9 r 0 ks))|none=>none)=f r
 rw[show es[n]?=some r from hx]
 simp only[ae,hk,jN hk]
theorem fV{α:Type}{e:α->List C}{l:List α}{i:Nat}{x:α}(hx:l[i]?=some x){kk:IntKind}{ks:List CK}{f:List C->Option Out}(hk:ah ks (e x)=true):aG (.list (l.map e)) (.int kk i) ks f=f (e x) :=
 kd (by omega) (by simp[hx]) hk
theorem eP{α:Type}{e:α->List C}{l:List α}{i:Int}{x:α}(h0:0<=i)(hx:l[i.toNat]?=some x){kk:IntKind}{ks:List CK}{f:List C->Option Out}(hk:ah ks (e x)=true):aG (.list (l.map e)) (.int kk i) ks f=f (e x) :=
 kd h0 (by simp[hx]) hk
theorem sC{α σ:Type}{F:List C->Option Out}{l:List α}{enc:Nat->σ->List C}{res:List α->Nat->σ->Out}{P:Nat->σ->Prop}
  (hs:∀(i:Nat) (x:α) (xs:List α) (s:σ),l[i]?=some x->P i s->(∃ s',F (enc i s)=some (.jump (enc (i+1) s'))/\P (i+1) s'/\res (x::xs) i s=res xs (i+1) s')\/(∃ o,F (enc i s)=some (.up o)/\res (x::xs) i s=o))
  (hf:∀ s,P l.length s->F (enc l.length s)=some (.up (res [] l.length s))):∀(n i:Nat) (s:σ),n+i=l.length->P i s->aq F (enc i s)=some (res (l.drop i) i s)
 | 0,i,s,hn,h=>by
  have:i=l.length:=by omega
  subst this
  rw[fk,hf s h,List.drop_of_length_le (Nat.le_refl _)]
  rfl
 | n+1,i,s,hn,h=>by
  have hi:i<l.length:=by omega
  have hx:l[i]?=some l[i]:=by simp[hi]
  rw[fk,List.drop_eq_getElem_cons hi]
  rcases hs i _ (l.drop (i+1)) s hx h with ⟨s',h1,h2,h3⟩|⟨o,h1,h2⟩
  ·rw[h1,h3]
   simp only[bC]
   exact sC hs hf n (i+1) s' (by omega) h2
  ·rw[h1,h2]
   rfl
theorem am{α σ:Type}{F:List C->Option Out}{l:List α}{enc:Nat->σ->List C}{res:List α->Nat->σ->Out}(P:Nat->σ->Prop){s:σ}(h:P 0 s)
  (hs:∀(i:Nat) (x:α) (xs:List α) (s:σ),l[i]?=some x->P i s->(∃ s',F (enc i s)=some (.jump (enc (i+1) s'))/\P (i+1) s'/\res (x::xs) i s=res xs (i+1) s')\/(∃ o,F (enc i s)=some (.up o)/\res (x::xs) i s=o))
  (hf:∀ s,P l.length s->F (enc l.length s)=some (.up (res [] l.length s))):aq F (enc 0 s)=some (res l 0 s):=by
 have:=sC hs hf l.length 0 s (by omega) h
 simpa using this
def eI(n:Int):List C:=[.int .i64 n]
def eB(n:Int):List C:=[.int .u8 n]
def Rec.e(r:Rec):List C:=[.int .i64 r.k,.int .i64 r.t,.list (r.m.map eI)]
def Log.e(l:Log):List C:=[.list (l.rs.map Rec.e),.int .i64 l.f]
def Hold.e(h:Hold):List C:=[.int .i64 h.m,.int .i64 h.s]
def Stock.e(s:Stock):List C:=[.int .i64 s.room,.list (s.hs.map Hold.e)]
def Word.e(w:Word):List C:=[.int .i64 w.k,.int .i64 w.h,.int .i64 w.t,.int .i64 w.m]
def House.e(h:House):List C:=[.int .i64 h.id,.bool h.up,.int .i64 h.room,.list (h.lg.rs.map Rec.e),.int .i64 h.lg.f]
def Trip.e(t:Trip):List C:=[.list (t.m.map eI),.int .i64 t.s]
def Desk.e(d:Desk):List C:=[.bool d.up,.list (d.lg.rs.map Rec.e),.int .i64 d.lg.f,.list (d.td.map Word.e)]
def Wd.e(w:Wd):List C:=[.bool w.dk.up,.list (w.dk.lg.rs.map Rec.e),.int .i64 w.dk.lg.f,.list (w.dk.td.map Word.e),.list (w.hs.map House.e),.list (w.ns.map Word.e)]
def Ev.e(e:Ev):List C:=[.int .i64 e.k,.int .i64 e.a,.int .i64 e.b,.list (e.m.map eI)]
section
variable {kk:IntKind} {i:Nat} {f:List C->Option Out}
theorem iP{l:List Int}{x:Int}(h:l[i]?=some x):aG (.list (l.map eI)) (.int kk i) [.int .i64] f=f (eI x):=fV h rfl
theorem oL{l:List Rec}{x:Rec}(h:l[i]?=some x):aG (.list (l.map Rec.e)) (.int kk i) [.int .i64,.int .i64,.list] f=f x.e:=fV h rfl
theorem zr{l:List Hold}{x:Hold}(h:l[i]?=some x):aG (.list (l.map Hold.e)) (.int kk i) [.int .i64,.int .i64] f=f x.e:=fV h rfl
theorem jv{l:List Word}{x:Word}(h:l[i]?=some x):aG (.list (l.map Word.e)) (.int kk i) [.int .i64,.int .i64,.int .i64,.int .i64] f=f x.e:=fV h rfl
theorem sb{l:List Trip}{x:Trip}(h:l[i]?=some x):aG (.list (l.map Trip.e)) (.int kk i) [.list,.int .i64] f=f x.e:=fV h rfl
theorem iQ{l:List House}{x:House}(h:l[i]?=some x):aG (.list (l.map House.e)) (.int kk i) [.int .i64,.bool,.int .i64,.list,.int .i64] f=f x.e:=fV h rfl
end
end Dx
namespace Dx
open Go
@[simp] theorem ax (t e:Option Out):af true t e=t:=rfl
@[simp] theorem ar (t e:Option Out):af false t e=e:=rfl
theorem El(b:Bool)(t e:Option Out):af (!b) t e=af b e t:=by cases b<;>rfl
theorem aT(p:Prop)[Decidable p](t e:Option Out):af (decide p) t e=if p then t else e:=by by_cases h:p<;>simp[h,af]
theorem Fn(b:Bool)(t e:Option Out):af b t e=if b=true then t else e:=by cases b<;>rfl
theorem bA(a b:Int)(t e:Option Out):af (a==b) t e=if a=b then t else e:=by rw[Fn];simp
theorem BE(a b:Int)(t e:Option Out):af (a != b) t e=if a=b then e else t:=by rw[Fn];by_cases h:a=b<;>simp[h]
theorem cd{b:Bool}{k:Option Out}(h:b=true):ae b k=k:=by subst h;rfl
@[simp] theorem aE (cs:List C):ai (some (.ret cs))=some cs:=rfl
theorem Em(o:Out):ai (some (.up o))=none:=rfl
@[simp] theorem oM (o:Out):upD (some o)=some (.up o):=rfl
theorem mp(p:Prop)[Decidable p](a b:Option Out):ai (if p then a else b)=if p then ai a else ai b:=by split<;>rfl
theorem ap{i:Nat}(h:i<=1099511627776):IntKind.wrap .i64 ((i:Int)+1)=((i+1:Nat):Int):=CV h
theorem cp(t:Option Out):cw t t=t:=by unfold cw;rw[if_pos rfl]
theorem wP(x w:Word):(([x.k,x.h,x.t,x.m]:List Int)==[w.k,w.h,w.t,w.m])=decide (x=w):=by
 obtain⟨a,b,c,d⟩:=x;obtain⟨a',b',c',d'⟩:=w
 rw[Bool.eq_iff_iff];simp
theorem Fo(s:Stock):(⟨s.room,s.hs⟩:Stock)=s:=rfl
theorem eta_R(s:Rec):(⟨s.k,s.t,s.m⟩:Rec)=s:=rfl
theorem vx(s:Word):(⟨s.k,s.h,s.t,s.m⟩:Word)=s:=rfl
theorem lw(s:Log):(⟨s.rs,s.f⟩:Log)=s:=rfl
theorem lx(s:Desk):(⟨s.up,s.lg,s.td⟩:Desk)=s:=rfl
theorem eta_H(s:House):(⟨s.id,s.up,s.room,s.lg⟩:House)=s:=rfl
theorem eta_T(s:Trip):(⟨s.m,s.s⟩:Trip)=s:=rfl
theorem jI(s:Wd):(⟨s.dk,s.hs,s.ns⟩:Wd)=s:=rfl
theorem K6(s:Ev):(⟨s.k,s.a,s.b,s.m⟩:Ev)=s:=rfl
@[simp] theorem dq (k:Option Out):ae true k=k:=rfl
theorem CX{p:Prop}[Decidable p](h:p)(k:Option Out):ae (decide p) k=k:=by simp[h,ae]
theorem db{p q:Prop}[Decidable p][Decidable q](h1:p)(h2:q)(k:Option Out):ae (decide p && decide q) k=k:=by simp[h1,h2,ae]
@[simp] theorem br (ps:List C) (k:List C->Option Out):bC (some (.jump ps)) k=k ps:=rfl
theorem gJ(p:Prop)[Decidable p](a b:Option Out)(k:List C->Option Out):bC (if p then a else b) k=if p then bC a k else bC b k:=by split<;>rfl
theorem Hh{b:Bool}{k:Option Out}(h:b=true):ai (ae b k)=ai k:=by subst h;rfl
theorem le_B{i n:Int}(h1:0<=i)(h2:i<=n):(decide ((0:Int)<=i) && decide (i<=n))=true:=by simp[h1,h2]
theorem lt_B{i n:Int}(h1:0<=i)(h2:i<n):(decide ((0:Int)<=i) && decide (i<n))=true:=by simp[h1,h2]
theorem cD:aK=1099511627776:=rfl
theorem ub(m:List Int):(m.map eI).all (ah [.int .i64])=true:=by simp[List.all_map,eI,ah,ej,ef,Function.comp_def]
theorem oN(m:List Word):(m.map Word.e).all (ah [.int .i64,.int .i64,.int .i64,.int .i64])=true:=by simp[List.all_map,Word.e,ah,ej,ef,Function.comp_def]
theorem Hi(m:List Rec):(m.map Rec.e).all (ah [.int .i64,.int .i64,.list])=true:=by simp[List.all_map,Rec.e,ah,ej,ef,Function.comp_def]
theorem dJ{α:Type}{e:α->List C}{l:List α}{off j:Nat}{cs:List C}{x y:α}(hx:l[j]?=some x)(hy:xg (e x) off cs=e y):setRow off (l.map e) j cs=(l.set j y).map e:=by
 unfold setRow
 simp only[List.getElem?_map,hx,Option.map_some,hy,List.map_set]
theorem bN(n lo hi:Int):b8 [.int .i64 n,.int .i64 lo,.int .i64 hi]=some [.bool (in_ n lo hi)]:=by
 rw[q_gw]
 simp only[F_gw,ge_iff_le,in_]
 cases decide (lo<=n)<;>rfl
theorem uc{l:List Trip}{t:Int}(h1:1<=t)(h2:t<=l.length):l[(t-1).toNat]?=some (tAt l t):=by rw[vu (by omega)];exact List.getElem?_eq_getElem (by omega)
theorem ud{l:List Hold}{t:Int}(h1:1<=t)(h2:t<=l.length):l[(t-1).toNat]?=some (hAt l t):=by rw[vr (by omega)];exact List.getElem?_eq_getElem (by omega)
theorem Fp{l:List Trip}{t:Int}(h1:1<=t)(h2:t<=l.length){kk:IntKind}{f:List C->Option Out}:aG (.list (l.map Trip.e)) (.int kk (t-1)) [.list,.int .i64] f=f (tAt l t).e :=
 eP (by omega) (uc h1 h2) rfl
theorem DZ{l:List Hold}{t:Int}(h1:1<=t)(h2:t<=l.length){kk:IntKind}{f:List C->Option Out}:aG (.list (l.map Hold.e)) (.int kk (t-1)) [.int .i64,.int .i64] f=f (hAt l t).e :=
 eP (by omega) (ud h1 h2) rfl
def zL:=And.intro @List.length_append.{0}<|And.intro @List.length_map.{0,0}<|And.intro @List.length_cons.{0}<|@List.length_nil.{0}
def zS:=And.intro @Bool.and_true<|And.intro @List.length_map.{0,0}<|And.intro @List.length_nil.{0}<|And.intro @List.length_cons.{0}<|@List.nil_append.{0}
def zT:=And.intro zS<|And.intro @El<|And.intro @ax<|And.intro @ar<|And.intro @Fo<|And.intro @eta_R<|And.intro @vx<|And.intro @lw<|And.intro @lx<|And.intro @eta_H<|And.intro @eta_T<|And.intro @jI<|And.intro @K6<|And.intro @cD<|And.intro @dq<|And.intro @CX<|And.intro @db<|And.intro @ub<|And.intro @oN<|And.intro @Hi<|And.intro @aE<|And.intro @Em<|And.intro @oM<|And.intro @Hh<|And.intro @br<|And.intro @sB<|And.intro @zp<|And.intro @cd_i<|And.intro @Kr<|And.intro @cd_bb<|And.intro @Ks<|And.intro @cd_il<|And.intro @K1<|And.intro @K2<|And.intro @K3<|And.intro @K4<|And.intro @K5<|And.intro @t8<|And.intro @jd<|And.intro @lv<|And.intro @dR<|And.intro @Ej<|And.intro @zq<|And.intro @Ek<|And.intro @mo<|And.intro @CW<|And.intro @qO<|And.intro @og<|And.intro @qP<|And.intro @C.toInt_int<|And.intro @C.toBool_bool<|And.intro @C.toList_list<|@C.toStr_str
def zU:=And.intro @bA<|And.intro @BE<|And.intro @aT<|And.intro @mp<|@gJ
theorem wQ{l:List Trip}(hl:l.length<=1099511627776){k t:Int}{m:List Int}(hr:aH ⟨k,t,m⟩=true) :
  rQ [.list (l.map Trip.e),.int .i64 k,.int .i64 t,.list (m.map eI)]=some [.bool (cG l ⟨k,t,m⟩)]:=by
 have ht:=cS hr
 simp only at ht
 rw[q_gf]
 simp (disch:=first|assumption|omega|(simp only[zL];omega)) only[F_gf,cG,wrap64,Int.reduceEq,reduceIte,zU,zT,aa]
 split
 ·rfl
 ·split
  ·rfl
  ·simp (disch:=first|assumption|omega|(simp only[zL];omega)) only[Fp,Trip.e,Int.reduceEq,reduceIte,zU,zT,aa]
   grind
theorem Hj{l:List Trip}(hl:l.length<=1099511627775){k t:Int}{m:List Int}(hr:aH ⟨k,t,m⟩=true)(hm:cG l ⟨k,t,m⟩=true)(hT:TrOk l) :
  dy [.list (l.map Trip.e),.int .i64 k,.int .i64 t,.list (m.map eI)]=some [.list ((cM l ⟨k,t,m⟩).map Trip.e)]:=by
 have ht:=cS hr
 have hml:=fO hr
 simp only at ht hml
 rw[tH]
 rcases lp hr hm with ⟨h4,h⟩|⟨h1,h2,h⟩
 ·simp only at h4;subst h4
  have c1:decide (([]:List (List C)).length+(m.map eI).length<=aK)=true:=by simp[cD];omega
  have c2:decide ((l.map Trip.e).length+[[C.list (m.map eI),C.int .i64 1]].length<=aK)=true:=by simp[cD];omega
  simp only[hD,cM,bA,if_true,cd (ub m),cd c1,List.nil_append,cd c2]
  simp[aE,Trip.e]
 ·simp only at h1 h2 h
  have hx:=uc h1 h2
  have hw:IntKind.wrap .i64 (t-1)=t-1:=wrap64 (by omega) (by omega)
  have hb:(decide ((0:Int)<=t-1) && decide (t-1<((l.map Trip.e).length:Nat)))=true:=lt_B (by omega) (by simp;omega)
  have st:∀ s:Int,setRow 1 (l.map Trip.e) (t-1).toNat [C.int .i64 s]=(l.set (t-1).toNat ⟨(tAt l t).m,s⟩).map Trip.e:=fun s=>dJ hx rfl
  simp only[hD,hw,cM,bA,cd hb,Fp h1 h2,Trip.e,aa,C.toInt,st]
  rcases h with ⟨h|h,_⟩|⟨h,hs⟩
  ·subst h;rfl
  ·subst h;rfl
  ·subst h;rw[wrap64 (by omega) (by omega)];rfl
end Dx
namespace Dx
open Go
theorem En(m:List Int)(hL:m.length<=1099511627776):yR [.list (m.map eI)]=some [.bool (di m)]:=by
 rw[q_gi];unfold F_gi
 have key:=am (l:=m) (F:=fun ps=>uY (m.map eI) ((aa ps 0).toInt) ((aa ps 1).toInt)) (enc:=fun i (s:Int)=>[.int .i64 s,.int .i64 i])
  (res:=fun xs _ s=>.ret [.bool (xs.all (fun n=>in_ n 0 3) && (m.length==3 && decide (s+xs.sum>0)))]) (fun i s=>0<=s/\s<=3*i) (s:=0) (by simp) ?_ ?_
 ·have key:aq _ [C.int .i64 0,C.int .i64 0]=_:=key
  rw[key];simp[ai,di]
 ·intro i x xs s hx ⟨h1,h2⟩
  have hi:=(List.getElem?_eq_some_iff.1 hx).1
  have hi':(i:Int)<(m.length:Nat):=by omega
  simp (disch:=first|assumption|omega|(simp only[zL];omega)) only[uY,iP hx,bN,eI,ap,hi',if_true,Int.reduceEq,reduceIte,zU,zT,aa]
  cases hin:in_ x 0 3 with
  | true =>
   have:=in_iff.1 hin
   refine .inl ⟨s+x,?_,by omega,by simp[hin,Int.add_assoc]⟩
   simp (disch:=first|assumption|omega|(simp only[zL];omega)) only[ax,wrap64]
  | false=>exact .inr ⟨_,rfl,by simp[hin]⟩
 ·intro s _
  have h:¬ ((m.length:Int)<(m.length:Nat)):=by omega
  simp only[uY,h,if_false,Int.reduceEq,reduceIte,zU,zT,aa]
  by_cases h3:m.length=3
  ·have h3':((m.length:Nat):Int)=3:=by omega
   simp[h3,upD]
  ·have h3':¬ ((m.length:Nat):Int)=3:=by omega
   simp[h3,h3',upD]
theorem oO{k t:Int}{m:List Int}(hL:m.length<=1099511627776):jW [.int .i64 k,.int .i64 t,.list (m.map eI)]=some [.bool (aH ⟨k,t,m⟩)]:=by
 rw[q_gt]
 simp (disch:=first|assumption|omega|(simp only[zL];omega)) only[F_gt,bN,En,aH,Int.reduceEq,reduceIte,zU,zT,aa]
 cases in_ t 1 6 with
 | false=>rfl
 | true =>
  simp only[Bool.true_and]
  by_cases h1:k=1
  ·simp only[h1,if_true]
   match m with
   | []=>rfl
   | [n]=>have hr:∀ f,aG (.list ([n].map eI)) (.int .i64 0) [.int .i64] f=f (eI n):=fun f=>rfl
          simp (disch:=first|assumption|omega|(simp only[zL];omega)) only[hr,eI,bN,Int.reduceEq,reduceIte,zU,zT,aa];rfl
   | a::b::l=>have:¬ ((((a::b::l).length:Nat):Int)=1):=by simp;omega
              simp only[List.length_map,this,if_false];rfl
  ·by_cases h4:k=4
   ·simp[h4,ai]
   ·simp only[h1,h4,if_false]
    cases in_ k 2 7 with
    | false=>rfl
    | true=>cases m with
     | nil=>rfl
     | cons a l=>simp;omega
theorem BF{rs:List Rec}{f k t:Int}{m:List Int}(hL:rs.length<=1099511627775) :
  rV [.list (rs.map Rec.e),.int .i64 f,.int .i64 k,.int .i64 t,.list (m.map eI)]=some [.list ((dW ⟨rs,f⟩ ⟨k,t,m⟩).rs.map Rec.e),.int .i64 f,.bool (oz ⟨rs,f⟩)]:=by
 rw[q_gu]
 simp (disch:=first|assumption|omega|(simp only[zL];omega)) only[F_gu,dW,oz,Int.reduceEq,reduceIte,zU,zT,aa]
 by_cases h:rs.length>=40
 ·have h':((rs.length:Nat):Int)>=40:=by omega
  simp only[h,h',if_true];simp
 ·have h':¬ (((rs.length:Nat):Int)>=40):=by omega
  simp only[h,h',if_false];simp[Rec.e]
theorem BG{rs:List Rec}(hL:rs.length<=2000000)(hm:∀ r∈rs,r.m.length<=1099511627776) :
  nA [.list (rs.map Rec.e)]=some [.list (((bc rs).getD []).map Trip.e),.bool (bc rs).isSome]:=by
 rw[q_gr];unfold F_gr
 have key:=am (l:=rs) (F:=fun ps=>uZ (rs.map Rec.e) ((aa ps 0).toInt) ((aa ps 1).toList)) (enc:=fun i (s:List Trip)=>[.int .i64 i,.list (s.map Trip.e)])
  (res:=fun xs _ s=>.ret [.list (((ch xs s).getD []).map Trip.e),.bool (ch xs s).isSome]) (fun _ s=>TrOk s) (s:=[]) TrOk.nil ?_ ?_
 ·have key:aq _ [C.int .i64 0,C.list []]=_:=key
  rw[key];rfl
 ·intro i x xs s hx hs
  have hi:=(List.getElem?_eq_some_iff.1 hx).1
  have hi':(i:Int)<(rs.length:Nat):=by omega
  have hxm:=hm x (List.mem_of_getElem? hx)
  have hsl:=hs.len
  simp (disch:=first|assumption|omega|(simp only[zL];omega)) only[uZ,oL hx,Rec.e,oO,ap,hi',if_true,Int.reduceEq,reduceIte,zU,zT,aa]
  cases hr:aH ⟨x.k,x.t,x.m⟩with
  | false=>exact .inr ⟨_,rfl,by simp[ch,hr]⟩
  | true =>
   simp (disch:=first|assumption|omega|(simp only[zL];omega)) only[wQ,Int.reduceEq,reduceIte,zU,zT,aa]
   cases hmay:cG s ⟨x.k,x.t,x.m⟩with
   | false=>exact .inr ⟨_,rfl,by simp[ch,hr,hmay]⟩
   | true =>
    simp (disch:=first|assumption|omega|(simp only[zL];omega)) only[Hj,Int.reduceEq,reduceIte,zU,zT,aa]
    exact .inl ⟨cM s x,rfl,oC hs hr hmay,by simp[ch,hr,hmay]⟩
 ·intro s _
  have h:¬ ((rs.length:Int)<(rs.length:Nat)):=by omega
  simp only[uZ,h,if_false,Int.reduceEq,reduceIte,zU,zT,aa]
  rfl
def LgS(l:Log):Prop:=l.rs.length<=2000000/\∀ r∈l.rs,r.m.length<=1099511627776
theorem LgOk.S{l:Log}(h:LgOk l):LgS l:=⟨by have:=h.len;omega,fun r hr=>by have:=fO (h.ok r hr);omega⟩
theorem ke{up:Bool}{rs:List Rec}{f:Int}{b:Bool}(hl:LgS ⟨rs,f⟩)(hf:b=true->0<=f/\f<=rs.length){tl:List (List C)} :
  fx [.bool up,.list (rs.map Rec.e),.int .i64 f,.list tl,.bool b]=some [.list ((aF ⟨rs,f⟩ b).map Trip.e)]:=by
 rw[q_dn]
 have ht:∀ n:Nat,(rs.map Rec.e).take n=(rs.take n).map Rec.e:=fun n=>by simp
 have h1:∀ n:Nat,nA [.list ((rs.take n).map Rec.e)]=_:=fun n=>BG (by simp;have:=hl.1;simp only at this;omega) (fun r hr=>hl.2 r (List.mem_of_mem_take hr))
 cases b with
 | true =>
  obtain⟨h2,h3⟩:=hf rfl
  simp only[F_dn,List.length_map,cd (le_B h2 h3),ht,h1,aF,aW]
  simp (disch:=first|assumption|omega|(simp only[zL];omega)) only[Int.reduceEq,reduceIte,zU,zT,aa]
 | false =>
  have h2:(0:Int)<=(rs.length:Nat):=by omega
  simp only[F_dn,List.length_map,cd (le_B h2 (Int.le_refl _)),ht,h1,aF,aW]
  simp (disch:=first|assumption|omega|(simp only[zL];omega)) only[Int.reduceEq,reduceIte,zU,zT,aa]
  simp only[Bool.false_eq_true,if_false,List.take_length,Int.toNat_natCast]
theorem ly{up:Bool}{rs:List Rec}{f:Int}(hl:LgS ⟨rs,f⟩){tl:List (List C)} :
  fx [.bool up,.list (rs.map Rec.e),.int .i64 f,.list tl,.bool false]=some [.list ((aF ⟨rs,f⟩ false).map Trip.e)]:=ke hl (fun h=>by cases h)
theorem wR{up:Bool}{rs:List Rec}{f:Int}(hl:LgOk ⟨rs,f⟩){tl:List (List C)} :
  fx [.bool up,.list (rs.map Rec.e),.int .i64 f,.list tl,.bool true]=some [.list ((aF ⟨rs,f⟩ true).map Trip.e)]:=ke hl.S (fun _=>⟨hl.lo,hl.hi⟩)
theorem fQ{up:Bool}{rs:List Rec}{f:Int}{td:List Word}(hd:DkOk ⟨up,⟨rs,f⟩,td⟩){k t:Int}{m:List Int}(hr:aH ⟨k,t,m⟩=true) :
  ei [.bool up,.list (rs.map Rec.e),.int .i64 f,.list (td.map Word.e),.int .i64 k,.int .i64 t,.list (m.map eI)]=some ((bh ⟨up,⟨rs,f⟩,td⟩ ⟨k,t,m⟩).e++[.bool (e9 ⟨up,⟨rs,f⟩,td⟩ ⟨k,t,m⟩)]):=by
 rw[q_dv]
 have h1:=hd.lg.S
 have h2:=hd.trOk false
 have hl2:=h2.len
 have h3:=hd.lg.len
 simp only[aj]at h2 hl2 h3
 simp (disch:=first|assumption|omega|(simp only[zL];omega)) only[F_dv,ly,wQ,BF,bh,e9,aj,Int.reduceEq,reduceIte,zU,zT,aa]
 cases up with
 | false=>rfl
 | true =>
  simp only[Bool.true_and]
  cases cG (aF ⟨rs,f⟩ false) ⟨k,t,m⟩with
  | false=>rfl
  | true=>simp only[dW,oz];by_cases h:rs.length>=40<;>simp[h,Desk.e,aE]
theorem gK{td:List Word}(hL:td.length<=1099511627775){k h t m:Int} :
  iN [.list (td.map Word.e),.int .i64 k,.int .i64 h,.int .i64 t,.int .i64 m]=some [.bool (td.contains ⟨k,h,t,m⟩)]:=by
 rw[q_fi];unfold F_fi
 have key:=am (l:=td) (F:=fun ps=>u0 (td.map Word.e) k h t m ((aa ps 0).toInt)) (enc:=fun i (_:Unit)=>[.int .i64 i])
  (res:=fun xs _ _=>.ret [.bool (xs.contains ⟨k,h,t,m⟩)]) (fun _ _=>True) (s:=()) trivial ?_ ?_
 ·have key:aq _ [C.int .i64 0]=_:=key
  rw[key];rfl
 ·intro i x xs s hx _
  have hi:=(List.getElem?_eq_some_iff.1 hx).1
  have hi':(i:Int)<(td.length:Nat):=by omega
  have hw:=wP x ⟨k,h,t,m⟩
  simp only at hw
  simp (disch:=first|assumption|omega|(simp only[zL];omega)) only[u0,jv hx,Word.e,ap,hi',if_true,hw,Int.reduceEq,reduceIte,zU,zT,aa]
  by_cases e:x=⟨k,h,t,m⟩
  ·exact .inr ⟨_,by rw[if_pos e],by simp[e]⟩
  ·exact .inl ⟨(),by rw[if_neg e],trivial,by simp[Ne.symm e]⟩
 ·intro s _
  have h:¬ ((td.length:Int)<(td.length:Nat)):=by omega
  simp only[u0,h,if_false,Int.reduceEq,reduceIte,zU,zT,aa]
  rfl
theorem je{k h t m:Int}:iM [.int .i64 k,.int .i64 h,.int .i64 t,.int .i64 m]=some [.bool (bJ ⟨k,h,t,m⟩)]:=by
 rw[q_gd]
 simp (disch:=first|assumption|omega|(simp only[zL];omega)) only[F_gd,bN,bJ,Int.reduceEq,reduceIte,zU,zT,aa]
 cases in_ h 1 3<;>cases in_ t 1 6<;>cases in_ k 1 7<;>simp only[ax,ar,Bool.true_and,Bool.false_and,aE]
 split<;>rfl
theorem Eo{up:Bool}{rs:List (List C)}{f:Int}{td:List Word}(hL:td.length<=1099511627775){t k:Int}{m:List Int}(hm:m.length<=1000) :
  yY [.bool up,.list rs,.int .i64 f,.list (td.map Word.e),.int .i64 t,.list (m.map eI),.int .i64 k]=some [.bool (bl td t k 1 m)]:=by
 rw[q_fq];unfold F_fq
 have key:=am (l:=m) (F:=fun ps=>vd (td.map Word.e) t (m.map eI) k ((aa ps 0).toInt)) (enc:=fun i (_:Unit)=>[.int .i64 i])
  (res:=fun xs i _=>.ret [.bool (bl td t k ((i+1:Nat):Int) xs)]) (fun _ _=>True) (s:=()) trivial ?_ ?_
 ·have key:aq _ [C.int .i64 0]=_:=key
  rw[key];rfl
 ·intro i x xs s hx _
  have hi:=(List.getElem?_eq_some_iff.1 hx).1
  have hi':(i:Int)<(m.length:Nat):=by omega
  simp (disch:=first|assumption|omega|(simp only[zL];omega)) only[vd,iP hx,eI,ap,hi',if_true,gK,Int.reduceEq,reduceIte,zU,zT,aa]
  have e1:((i+1:Nat):Int)+1=((i+1+1:Nat):Int):=by omega
  by_cases hx0:x>0
  ·simp only[hx0,if_true]
   cases hc:td.contains ⟨k,((i+1:Nat):Int),t,0⟩with
   | true=>exact .inr ⟨_,rfl,by simp only[bl,hx0,hc,decide_true,Bool.and_self,Bool.true_or]⟩
   | false=>exact .inl ⟨(),rfl,trivial,by simp only[bl,hx0,hc,e1,Bool.and_false,Bool.false_or]⟩
  ·simp only[hx0,if_false]
   exact .inl ⟨(),by first|rfl|trivial,trivial,by simp only[bl,hx0,e1,decide_false,Bool.false_and,Bool.false_or]⟩
 ·intro s _
  have h:¬ ((m.length:Int)<(m.length:Nat)):=by omega
  simp only[vd,h,if_false,Int.reduceEq,reduceIte,zU,zT,aa]
  rfl
theorem pZ{up:Bool}{rs:List (List C)}{f:Int}{td:List Word}(hL:td.length<=1099511627775){t k:Int}{m:List Int}(hm:m.length<=1000) :
  nC [.bool up,.list rs,.int .i64 f,.list (td.map Word.e),.int .i64 t,.list (m.map eI),.int .i64 k]=some [.bool (aD td t k 1 m)]:=by
 rw[q_fu];unfold F_fu
 have key:=am (l:=m) (F:=fun ps=>ve (td.map Word.e) t (m.map eI) k ((aa ps 0).toInt)) (enc:=fun i (_:Unit)=>[.int .i64 i])
  (res:=fun xs i _=>.ret [.bool (aD td t k ((i+1:Nat):Int) xs)]) (fun _ _=>True) (s:=()) trivial ?_ ?_
 ·have key:aq _ [C.int .i64 0]=_:=key
  rw[key];rfl
 ·intro i x xs s hx _
  have hi:=(List.getElem?_eq_some_iff.1 hx).1
  have hi':(i:Int)<(m.length:Nat):=by omega
  simp (disch:=first|assumption|omega|(simp only[zL];omega)) only[ve,iP hx,eI,ap,hi',if_true,gK,Int.reduceEq,reduceIte,zU,zT,aa]
  have e1:((i+1:Nat):Int)+1=((i+1+1:Nat):Int):=by omega
  by_cases hx0:x>0
  ·simp only[hx0,if_true]
   cases hc:td.contains ⟨k,((i+1:Nat):Int),t,0⟩with
   | true=>exact .inl ⟨(),rfl,trivial,by simp only[aD,hx0,hc,e1,Bool.or_true,Bool.true_and]⟩
   | false=>exact .inr ⟨_,rfl,by simp only[aD,hx0,hc,decide_true,Bool.not_true,Bool.or_self,Bool.false_and]⟩
  ·simp only[hx0,if_false]
   exact .inl ⟨(),by first|rfl|trivial,trivial,by simp only[aD,hx0,e1,decide_false,Bool.not_false,Bool.true_or,Bool.true_and]⟩
 ·intro s _
  have h:¬ ((m.length:Int)<(m.length:Nat)):=by omega
  simp only[ve,h,if_false,Int.reduceEq,reduceIte,zU,zT,aa]
  rfl
end Dx
namespace Dx
open Go
theorem oP{room:Int}:rP [.int .i64 room]=some ((if in_ room 0 9 then cq room else⟨0,[]⟩).e++[.bool (in_ room 0 9)]):=by
 rw[q_dt]
 simp (disch:=first|assumption|omega|(simp only[zL];omega)) only[F_dt,bN,Int.reduceEq,reduceIte,zU,zT,aa]
 cases in_ room 0 9<;>rfl
theorem wS{h:Hold}(ho:bi h=true):0<=had h/\had h<=3/\(h.s=1\/h.s=2->had h=h.m)/\0<=h.m/\h.m<=3:=by
 unfold bi at ho
 unfold had
 split at ho
 ·rename_i e;simp at ho;simp[e];omega
 ·split at ho
  ·rename_i e;have h1:=in_iff.1 ho;simp only[e,if_true];exact⟨by omega,by omega,by simp,by omega,by omega⟩
  ·rename_i e;simp only[e,if_false]
   split at ho
   ·have h1:=in_iff.1 ho;exact⟨by omega,by omega,by simp,by omega,by omega⟩
   ·cases ho
theorem wT{room:Int}{hs:List Hold}(hr:0<=room/\room<=9)(ho:∀ h∈hs,bi h=true)(hl:hs.length<=100) :
  rS [.int .i64 room,.list (hs.map Hold.e)]=some [.int .i64 (free ⟨room,hs⟩)]:=by
 rw[q_gg];unfold F_gg
 have key:=am (l:=hs) (F:=fun ps=>u6 (hs.map Hold.e) ((aa ps 0).toInt) ((aa ps 1).toInt)) (enc:=fun i (s:Int)=>[.int .i64 s,.int .i64 i])
  (res:=fun xs _ s=>.ret [.int .i64 (s-(xs.map had).sum)]) (fun i s=>room-3*i<=s/\s<=room) (s:=room) (by simp) ?_ ?_
 ·have key:aq _ [C.int .i64 room,C.int .i64 0]=_:=key
  rw[key];rfl
 ·intro i x xs s hx ⟨h1,h2⟩
  have hi:=(List.getElem?_eq_some_iff.1 hx).1
  have hi':(i:Int)<(hs.length:Nat):=by omega
  have hm:=wS (ho x (List.mem_of_getElem? hx))
  simp (disch:=first|assumption|omega|(simp only[zL];omega)) only[u6,zr hx,Hold.e,ap,hi',if_true,wrap64,Int.reduceEq,reduceIte,zU,zT,aa]
  refine .inl ⟨s-had x,?_,by omega,by simp[Int.sub_sub]⟩
  unfold had
  by_cases e1:x.s=1
  ·simp[e1]
  ·by_cases e2:x.s=2<;>simp[e1,e2]
 ·intro s _
  have h:¬ ((hs.length:Int)<(hs.length:Nat)):=by omega
  simp only[u6,h,if_false,Int.reduceEq,reduceIte,zU,zT,aa]
  simp
theorem Hk{n:Int}{f:List C->Option Out}:aG (.list ([n].map eI)) (.int .i64 0) [.int .i64] f=f (eI n):=rfl
theorem BH{room:Int}{hs:List Hold}(ho:StOk ⟨room,hs⟩){k t:Int}{m:List Int}(hr:aH ⟨k,t,m⟩=true) :
  rT [.int .i64 room,.list (hs.map Hold.e),.int .i64 k,.int .i64 t,.list (m.map eI)]=some [.bool (may ⟨room,hs⟩ ⟨k,t,m⟩)]:=by
 have ht:=cS hr
 have hl:=ho.len
 simp only at ht hl
 rw[q_go]
 simp (disch:=first|assumption|omega|(simp only[zL];omega)) only[F_go,wrap64,DZ,Hold.e,may,fv,wT ho.room ho.hold (show hs.length<=100 by omega),Int.reduceEq,reduceIte,zU,zT,aa]
 by_cases h1:k=1
 ·obtain⟨n,e,_⟩:=ez hr h1
  simp only at e;subst e
  simp only[h1,if_true,Hk,eI,Int.reduceEq,reduceIte,zU,zT,aa]
  by_cases h0:(hAt hs t).s=0<;>simp[h0,aE]
 ·by_cases h2:k=2
  ·simp[h2,aE]
  ·by_cases h3:k=3
   ·by_cases h0:(hAt hs t).s=1<;>simp[h3,h0,aE]
   ·simp[h1,h2,h3,aE]
theorem K7{room:Int}{hs:List Hold}(ho:StOk ⟨room,hs⟩){k t:Int}{m:List Int}(hr:aH ⟨k,t,m⟩=true) :
  dV [.int .i64 room,.list (hs.map Hold.e),.int .i64 k,.int .i64 t,.list (m.map eI)]=some (act ⟨room,hs⟩ ⟨k,t,m⟩).e:=by
 have ht:=cS hr
 have hl:=ho.len
 simp only at ht hl
 have hx:=ud (l:=hs) ht.1 (by omega)
 have st:∀ a b:Int,setRow 0 (hs.map Hold.e) (t-1).toNat [C.int .i64 a,C.int .i64 b]=(hs.set (t-1).toNat ⟨a,b⟩).map Hold.e:=fun a b=>dJ hx rfl
 rw[v8]
 simp (disch:=first|assumption|omega|(simp only[zL];omega)) only[mL,wrap64,DZ,Hold.e,act,jc,st,Int.reduceEq,reduceIte,zU,zT,aa]
 by_cases h1:k=1
 ·obtain⟨n,e,_⟩:=ez hr h1
  simp only at e;subst e
  simp only[h1,if_true,Hk,eI,Int.reduceEq,reduceIte,zU,zT,aa]
  rfl
 ·by_cases h2:k=2
  ·simp only[h2,if_true];rfl
  ·by_cases h3:k=3
   ·simp only[h3,if_true];rfl
   ·simp only[h1,h2,h3,if_false];rfl
theorem Fq{room:Int}{rs:List Rec}(hL:rs.length<=2000000)(hm:∀ r∈rs,r.m.length<=1099511627776) :
  nB [.int .i64 room,.list (rs.map Rec.e)]=some (((co room rs).getD ⟨0,[]⟩).e++[.bool (co room rs).isSome]):=by
 rw[q_gx]
 simp (disch:=first|assumption|omega|(simp only[zL];omega)) only[F_gx,oP,Stock.e,List.cons_append,Int.reduceEq,reduceIte,zU,zT,aa]
 cases hr:in_ room 0 9 with
 | false=>simp[co,hr,aE]
 | true =>
  simp only[if_true]
  have key:=am (l:=rs) (F:=fun ps=>u7 (rs.map Rec.e) ((aa ps 0).toInt) ((aa ps 1).toInt) ((aa ps 2).toList)) (enc:=fun i (s:Stock)=>[.int .i64 i,.int .i64 s.room,.list (s.hs.map Hold.e)])
   (res:=fun xs _ s=>.ret (((bX xs s).getD ⟨0,[]⟩).e++[.bool (bX xs s).isSome])) (fun _ s=>StOk s) (s:=cq room) (fZ (in_iff.1 hr)) ?_ ?_
  ·have key:aq _ [C.int .i64 0,C.int .i64 (cq room).room,C.list ((cq room).hs.map Hold.e)]=_:=key
   rw[key];simp[co,hr,aE,Stock.e]
  ·intro i x xs s hx hs
   have hi:=(List.getElem?_eq_some_iff.1 hx).1
   have hi':(i:Int)<(rs.length:Nat):=by omega
   have hxm:=hm x (List.mem_of_getElem? hx)
   simp (disch:=first|assumption|omega|(simp only[zL];omega)) only[u7,oL hx,Rec.e,oO,ap,hi',if_true,Int.reduceEq,reduceIte,zU,zT,aa]
   cases hr:aH x with
   | false=>exact .inr ⟨_,rfl,by simp[bX,hr];rfl⟩
   | true =>
    have hs':StOk ⟨s.room,s.hs⟩:=hs
    have hr':aH ⟨x.k,x.t,x.m⟩=true:=hr
    simp (disch:=first|assumption|omega|(simp only[zL];omega)) only[BH,Int.reduceEq,reduceIte,zU,zT,aa]
    cases hmay:may s x with
    | false=>exact .inr ⟨_,rfl,by simp[bX,hr,hmay];rfl⟩
    | true =>
     simp (disch:=first|assumption|omega|(simp only[zL];omega)) only[K7,Stock.e,Int.reduceEq,reduceIte,zU,zT,aa]
     exact .inl ⟨act s x,rfl,qL hs hr hmay,by simp[bX,hr,hmay]⟩
  ·intro s _
   have h:¬ ((rs.length:Int)<(rs.length:Nat)):=by omega
   simp only[u7,h,if_false,Int.reduceEq,reduceIte,zU,zT,aa]
   rfl
theorem kf{id room f:Int}{up b:Bool}{rs:List Rec}(ho:LgOk ⟨rs,f⟩) :
  jY [.int .i64 id,.bool up,.int .i64 room,.list (rs.map Rec.e),.int .i64 f,.bool b]=some (al ⟨id,up,room,⟨rs,f⟩⟩ b).e:=by
 rw[q_eb]
 have hl:=ho.S
 have h2:=ho.lo
 have h3:=ho.hi
 simp only at h2 h3
 have ht:∀ n:Nat,(rs.map Rec.e).take n=(rs.take n).map Rec.e:=fun n=>by simp
 have h1:∀ n:Nat,nB [.int .i64 room,.list ((rs.take n).map Rec.e)]=_:=fun n=>Fq (by simp;have:=hl.1;simp only at this;omega) (fun r hr=>hl.2 r (List.mem_of_mem_take hr))
 cases b with
 | true =>
  simp (disch:=first|assumption|omega|(simp only[zL];omega)) only[F_eb,ht,h1,al,aW,Stock.e,List.cons_append,if_true,Int.reduceEq,reduceIte,zU,zT,aa]
 | false =>
  simp (disch:=first|assumption|omega|(simp only[zL];omega)) only[F_eb,ht,h1,al,aW,Stock.e,List.cons_append,Int.reduceEq,reduceIte,zU,zT,aa]
  simp
theorem Ep{k h t m:Int}:y0 [.int .i64 k,.int .i64 h,.int .i64 t,.int .i64 m]=some (bE ⟨k,h,t,m⟩).e:=by
 rw[q_fp]
 simp (disch:=first|assumption|omega|(simp only[zL];omega)) only[F_fp,bE,Int.reduceEq,reduceIte,zU,zT,aa]
 split
 ·rfl
 ·split<;>rfl
theorem AW(l:Log)(r:Rec):(dW l r).f=l.f:=by unfold dW;split<;>rfl
def oW(o:Option Word):Word:=o.getD ⟨0,0,0,0⟩
theorem wg{id room f:Int}{up:Bool}{rs:List (List C)}{k h t m st:Int} :
  vg [.int .i64 id,.bool up,.int .i64 room,.list rs,.int .i64 f,.int .i64 k,.int .i64 h,.int .i64 t,.int .i64 m,.int .i64 st]=some ((oW (answer id ⟨k,h,t,m⟩ st)).e++[.bool (answer id ⟨k,h,t,m⟩ st).isSome]):=by
 rw[q_cn]
 by_cases h1:k=1
 ·subst h1
  by_cases s1:st=1
  ·subst s1;rfl
  ·by_cases s2:st=2
   ·subst s2;rfl
   ·by_cases s3:st=3
    ·subst s3;rfl
    ·simp[G1,qF,qG,answer,s1,s2,s3,bA,ax,ar,br,gJ,C.toBool_bool,aa,aE,oW,Word.e]
 ·by_cases h2:k=2
  ·subst h2
   by_cases s2:st=2
   ·subst s2;rfl
   ·simp[G1,qF,qG,answer,s2,bA,ax,ar,br,gJ,C.toBool_bool,aa,aE,oW,Word.e]
  ·by_cases h3:k=3
   ·subst h3
    by_cases s3:st=3
    ·subst s3;rfl
    ·simp[G1,qF,qG,answer,s3,bA,ax,ar,br,gJ,C.toBool_bool,aa,aE,oW,Word.e]
   ·simp[G1,qF,qG,answer,h1,h2,h3,bA,ax,ar,br,gJ,C.toBool_bool,aa,aE,oW,Word.e]
theorem CY{id room f:Int}{up:Bool}{rs:List Rec}(ho:HsOk ⟨id,up,room,⟨rs,f⟩⟩){k h t m:Int} :
  y1 [.int .i64 id,.bool up,.int .i64 room,.list (rs.map Rec.e),.int .i64 f,.int .i64 k,.int .i64 h,.int .i64 t,.int .i64 m] =
   some ((cu ⟨id,up,room,⟨rs,f⟩⟩ ⟨k,h,t,m⟩).1.e++((oW (cu ⟨id,up,room,⟨rs,f⟩⟩ ⟨k,h,t,m⟩).2).e++[.bool (cu ⟨id,up,room,⟨rs,f⟩⟩ ⟨k,h,t,m⟩).2.isSome])):=by
 rw[q_fj]
 have hlg:LgOk ⟨rs,f⟩:=ho.lg
 have hlen:rs.length<=40:=ho.lg.len
 have sA:=ho.stOk false
 have sF:=ho.stOk true
 have lA:=sA.len
 have lF:=sF.len
 simp (disch:=first|assumption|omega|(simp only[zL];omega)) only[F_fj,je,cu,Int.reduceEq,reduceIte,zU,zT,aa]
 cases up with
 | false=>rfl
 | true =>
  cases hw:bJ ⟨k,h,t,m⟩with
  | false=>rfl
  | true =>
   have wok:=wordOk_iff.1 hw
   have wt:=wok.t
   simp only at wt
   have hr:=cU wok
   have sA':StOk ⟨(al ⟨id,true,room,⟨rs,f⟩⟩ false).room,(al ⟨id,true,room,⟨rs,f⟩⟩ false).hs⟩:=sA
   have hr':aH ⟨(bE ⟨k,h,t,m⟩).k,(bE ⟨k,h,t,m⟩).t,(bE ⟨k,h,t,m⟩).m⟩=true:=hr
   simp (disch:=first|assumption|omega|(simp only[zL];omega)) only[kf,Ep,Stock.e,Rec.e,BH,BF,wg,DZ,wrap64,Hold.e,Word.e,List.cons_append,Int.reduceEq,reduceIte,zU,zT,aa]
   by_cases e1:h=id
   ·by_cases e2:k>3
    ·simp[e1,e2,aE,House.e,oW,Word.e]
    ·simp only[e1,e2,if_true,if_false,fv]
     cases may (al ⟨id,true,room,⟨rs,f⟩⟩ false) (bE ⟨k,id,t,m⟩)with
     | true=>simp[aE,House.e,oW,Word.e,AW]
     | false =>
      by_cases e3:k=1
      ·by_cases e4:(hAt (al ⟨id,true,room,⟨rs,f⟩⟩ false).hs t).s=0
       ·simp[e3,e4,aE,House.e,oW,Word.e]
       ·simp[e3,e4,aE,House.e,oW,Word.e]
      ·simp[e3,aE,House.e,oW,Word.e]
   ·simp[e1,aE,House.e,oW,Word.e]
end Dx
namespace Dx
open Go
def nN(s:Int)(sure:Bool)(td:List Word)(t:Int)(m:List Int):Int :=
 if s=1/\bl td t 5 1 m then 6
 else if s=1/\aD td t 4 1 m then 5
 else if s=2/\sure/\aD td t 6 1 m then 7
 else if s=3/\sure/\aD td t 7 1 m then 7
 else 0
theorem Er(d:Desk)(t:Int):gG d t=nN (tAt (aj d false) t).s (nD d t) d.td t (tAt (aj d false) t).m:=rfl
section
variable {up:Bool} {rs:List Rec} {f:Int} {td:List Word} {t:Int} {m:List Int} {s:Int} {b:Bool}
theorem jD0(hL:td.length<=1099511627775)(hm:m.length<=1000){d5 d7:Desk}{b5 b7:Bool}
  (w5:ei [.bool up,.list (rs.map Rec.e),.int .i64 f,.list (td.map Word.e),.int .i64 5,.int .i64 t,.list []]=some (d5.e++[.bool b5]))
  (w7:ei [.bool up,.list (rs.map Rec.e),.int .i64 f,.list (td.map Word.e),.int .i64 7,.int .i64 t,.list []]=some (d7.e++[.bool b7])) (c:Bool) :
  ai (AM up (rs.map Rec.e) f (td.map Word.e) t (m.map eI) s b c)=some (if c then d5 else if s=2/\b/\aD td t 6 1 m then d7 else if s=3/\b/\aD td t 7 1 m then d7 else⟨up,⟨rs,f⟩,td⟩).e:=by
 simp only[Desk.e,List.cons_append,List.nil_append]at w5 w7
 unfold AM
 cases c with
 | true=>simp only[ax,w5,jd,aE,aa,C.toInt_int,C.toBool_bool,C.toList_list,if_true];rfl
 | false =>
  simp only[ar,bA,Bool.false_eq_true,if_false]
  by_cases h2:s=2
  ·subst h2
   simp (disch:=first|assumption|omega|(simp only[zL];omega)) only[if_true,pZ,w7,zp,jd,aa,C.toInt_int,C.toBool_bool,C.toList_list]
   cases b<;>cases aD td t 6 1 m<;>simp[Desk.e]
  ·simp only[h2,if_false,false_and]
   by_cases h3:s=3
   ·subst h3
    simp (disch:=first|assumption|omega|(simp only[zL];omega)) only[if_true,pZ,w7,zp,jd,aa,C.toInt_int,C.toBool_bool,C.toList_list]
    cases b<;>cases aD td t 7 1 m<;>simp[Desk.e]
   ·simp only[h3,if_false,false_and];rfl
theorem jD1(hL:td.length<=1099511627775)(hm:m.length<=1000){d5 d6 d7:Desk}{b5 b6 b7:Bool}
  (w5:ei [.bool up,.list (rs.map Rec.e),.int .i64 f,.list (td.map Word.e),.int .i64 5,.int .i64 t,.list []]=some (d5.e++[.bool b5]))
  (w6:ei [.bool up,.list (rs.map Rec.e),.int .i64 f,.list (td.map Word.e),.int .i64 6,.int .i64 t,.list []]=some (d6.e++[.bool b6]))
  (w7:ei [.bool up,.list (rs.map Rec.e),.int .i64 f,.list (td.map Word.e),.int .i64 7,.int .i64 t,.list []]=some (d7.e++[.bool b7])) (c:Bool) :
  ai (AN up (rs.map Rec.e) f (td.map Word.e) t (m.map eI) s b c)=some (if c then d6 else if s=1/\aD td t 4 1 m then d5 else if s=2/\b/\aD td t 6 1 m then d7 else if s=3/\b/\aD td t 7 1 m then d7 else⟨up,⟨rs,f⟩,td⟩).e:=by
 have j0:=fun c=>jD0 (s:=s) (b:=b) hL hm w5 w7 c
 simp only[Desk.e,List.cons_append,List.nil_append]at w6
 unfold AN
 cases c with
 | true=>simp only[ax,w6,jd,aE,aa,C.toInt_int,C.toBool_bool,C.toList_list,if_true];rfl
 | false =>
  simp only[ar,bA,Bool.false_eq_true,if_false]
  by_cases h1:s=1
  ·simp (disch:=first|assumption|omega|(simp only[zL];omega)) only[h1,if_true,pZ,zp,aa,C.toBool_bool,br]
   rw[<-h1,j0]
   simp[h1]
  ·simp only[h1,if_false,br,aa,C.toBool_bool]
   rw[j0];simp
theorem jD2(hL:td.length<=1099511627775)(hm:m.length<=1000){d5 d6 d7:Desk}{b5 b6 b7:Bool}
  (w5:ei [.bool up,.list (rs.map Rec.e),.int .i64 f,.list (td.map Word.e),.int .i64 5,.int .i64 t,.list []]=some (d5.e++[.bool b5]))
  (w6:ei [.bool up,.list (rs.map Rec.e),.int .i64 f,.list (td.map Word.e),.int .i64 6,.int .i64 t,.list []]=some (d6.e++[.bool b6]))
  (w7:ei [.bool up,.list (rs.map Rec.e),.int .i64 f,.list (td.map Word.e),.int .i64 7,.int .i64 t,.list []]=some (d7.e++[.bool b7])) :
  ai (AO up (rs.map Rec.e) f (td.map Word.e) t (m.map eI) s b) =
   some (if s=1/\bl td t 5 1 m then d6 else if s=1/\aD td t 4 1 m then d5 else if s=2/\b/\aD td t 6 1 m then d7 else if s=3/\b/\aD td t 7 1 m then d7 else⟨up,⟨rs,f⟩,td⟩).e:=by
 have j1:=fun c=>jD1 (s:=s) (b:=b) hL hm w5 w6 w7 c
 unfold AO
 simp only[bA]
 by_cases h1:s=1
 ·simp (disch:=first|assumption|omega|(simp only[zL];omega)) only[h1,if_true,Eo,zp,aa,C.toBool_bool,br]
  rw[<-h1,j1]
  simp[h1]
 ·simp only[h1,if_false,br,aa,C.toBool_bool]
  rw[j1];simp[h1]
end
theorem mP{up:Bool}{rs:List Rec}{f:Int}{td:List Word}(hd:DkOk ⟨up,⟨rs,f⟩,td⟩)(hL:td.length<=1099511627775){t:Int}(h1:1<=t)(h2:t<=(aF ⟨rs,f⟩ false).length) :
  vf [.bool up,.list (rs.map Rec.e),.int .i64 f,.list (td.map Word.e),.int .i64 t]=some (dA ⟨up,⟨rs,f⟩,td⟩ t).e:=by
 rw[q_co]
 have hlg:LgOk ⟨rs,f⟩:=hd.lg
 have hS:=hlg.S
 have tA:TrOk (aF ⟨rs,f⟩ false):=hd.trOk false
 have tF:TrOk (aF ⟨rs,f⟩ true):=hd.trOk true
 have lA:=tA.len
 have lF:=tF.len
 have hml:=bP (tripOk_iff.1 (tA.ok _ (gx (t:=t) (by omega)))).1
 have w5:=fQ hd (k:=5) (t:=t) (m:=[]) (by simp[aH,in_iff];omega)
 have w6:=fQ hd (k:=6) (t:=t) (m:=[]) (by simp[aH,in_iff];omega)
 have w7:=fQ hd (k:=7) (t:=t) (m:=[]) (by simp[aH,in_iff];omega)
 have j:=fun s b=>jD2 (s:=s) (b:=b) hL (by omega:(tAt (aF ⟨rs,f⟩ false) t).m.length<=1000) w5 w6 w7
 simp (disch:=first|assumption|omega|(simp only[zL];omega)) only[F_co,ly,wR,Fp,wrap64,Trip.e,Int.reduceEq,reduceIte,zU,zT,aa]
 rw[j,j]
 unfold dA
 rw[Er]
 unfold nD aj
 have fin:∀ b:Bool,(if nN (tAt (aF ⟨rs,f⟩ false) t).s b td t (tAt (aF ⟨rs,f⟩ false) t).m>0 then bh ⟨up,⟨rs,f⟩,td⟩ ⟨nN (tAt (aF ⟨rs,f⟩ false) t).s b td t (tAt (aF ⟨rs,f⟩ false) t).m,t,[]⟩ else⟨up,⟨rs,f⟩,td⟩) =
   (if(tAt (aF ⟨rs,f⟩ false) t).s=1/\bl td t 5 1 (tAt (aF ⟨rs,f⟩ false) t).m then bh ⟨up,⟨rs,f⟩,td⟩ ⟨6,t,[]⟩ else if(tAt (aF ⟨rs,f⟩ false) t).s=1/\aD td t 4 1 (tAt (aF ⟨rs,f⟩ false) t).m then bh ⟨up,⟨rs,f⟩,td⟩ ⟨5,t,[]⟩ else if(tAt (aF ⟨rs,f⟩ false) t).s=2/\b/\aD td t 6 1 (tAt (aF ⟨rs,f⟩ false) t).m then bh ⟨up,⟨rs,f⟩,td⟩ ⟨7,t,[]⟩ else if(tAt (aF ⟨rs,f⟩ false) t).s=3/\b/\aD td t 7 1 (tAt (aF ⟨rs,f⟩ false) t).m then bh ⟨up,⟨rs,f⟩,td⟩ ⟨7,t,[]⟩ else⟨up,⟨rs,f⟩,td⟩):=by
  intro b
  unfold nN
  split
  ·rfl
  ·split
   ·rfl
   ·split
    ·rfl
    ·split<;>rfl
 dsimp only
 rw[fin]
 by_cases h:t<=((aF ⟨rs,f⟩ true).length:Nat)
 ·simp only[h,if_true,decide_true,Bool.true_and]
 ·simp only[h,if_false,decide_false,Bool.false_and]
theorem gL(up:Bool)(l:Log)(td:List Word)(k h t m:Int):c7 ⟨up,l,td⟩ ⟨k,h,t,m⟩=(up && (bJ ⟨k,h,t,m⟩ && (decide (k>=4) && decide (t<=(aF l false).length)))):=rfl
theorem CZ{up:Bool}{rs:List Rec}{f:Int}{td:List Word}(hd:DkOk ⟨up,⟨rs,f⟩,td⟩)(hL:td.length<=1099511627774){k h t m:Int} :
  yZ [.bool up,.list (rs.map Rec.e),.int .i64 f,.list (td.map Word.e),.int .i64 k,.int .i64 h,.int .i64 t,.int .i64 m]=some (dU ⟨up,⟨rs,f⟩,td⟩ ⟨k,h,t,m⟩).e:=by
 rw[q_es]
 have hlg:LgOk ⟨rs,f⟩:=hd.lg
 have hS:=hlg.S
 have hL':td.length<=1099511627775:=by omega
 unfold dU
 simp (disch:=first|assumption|omega|(simp only[zL];omega)) only[F_es,je,ly,gK,Int.reduceEq,reduceIte,zU,zT,aa]
 have nh:c7 ⟨up,⟨rs,f⟩,td⟩ ⟨k,h,t,m⟩=false->(if c7 ⟨up,⟨rs,f⟩,td⟩ ⟨k,h,t,m⟩=true then dA (b9 ⟨up,⟨rs,f⟩,td⟩ ⟨k,h,t,m⟩) t else⟨up,⟨rs,f⟩,td⟩)=⟨up,⟨rs,f⟩,td⟩:=fun e=>by rw[e];rfl
 cases up with
 | false=>rw[nh rfl];rfl
 | true =>
  cases hw:bJ ⟨k,h,t,m⟩with
  | false=>rw[nh (by simp[c7,hw])];rfl
  | true =>
   have wt:=(wordOk_iff.1 hw).t
   simp only at wt
   simp only[ax,mp]
   by_cases h4:k<4
   ·rw[nh (by simp[c7,hw];omega)]
    simp only[h4,if_true];rfl
   ·by_cases ht:t>((aF ⟨rs,f⟩ false).length:Nat)
    ·rw[nh (by rw[gL,hw];simp only[Bool.true_and];rw[Bool.and_eq_false_iff];right;exact decide_eq_false (by omega))]
     simp only[h4,ht,if_true,if_false];rfl
    ·have c1:c7 ⟨true,⟨rs,f⟩,td⟩ ⟨k,h,t,m⟩=true:=by rw[gL,hw];simp only[Bool.true_and];rw[Bool.and_eq_true];exact⟨decide_eq_true (by omega),decide_eq_true (by omega)⟩
     rw[if_pos c1]
     simp only[h4,ht,if_false,b9]
     cases hc:td.contains ⟨k,h,t,m⟩with
     | true =>
      simp (disch:=first|assumption|omega|(simp only[zL];omega)) only[mP,Desk.e,ax,aE,t8,aa,C.toInt_int,C.toBool_bool,C.toList_list,if_true]
     | false =>
      have hd2:DkOk ⟨true,⟨rs,f⟩,td++[⟨k,h,t,m⟩]⟩:=by
       have:=hd.tell (w:=⟨k,h,t,m⟩) c1
       unfold b9 at this
       rw[if_neg (by rw[hc];simp)]at this
       exact this
      have e1:(td.map Word.e)++[[C.int .i64 k,C.int .i64 h,C.int .i64 t,C.int .i64 m]]=(td++[(⟨k,h,t,m⟩:Word)]).map Word.e:=by simp[Word.e]
      have hd3:=mP hd2 (by simp;omega) wt.1 (show t<=((aF ⟨rs,f⟩ false).length:Nat) by omega)
      simp only[ar,e1,hd3]
      simp (disch:=first|assumption|omega|(simp only[zL];omega)) only[Desk.e,Bool.false_eq_true,if_false,Int.reduceEq,reduceIte,zU,zT,aa]
theorem rowI3{m:List Int}{i:Nat}{n:Int}(h:m[i]?=some n){f:List C->Option Out}:aG (.list (m.map eI)) (.int .i64 i) [.int .i64] f=f (eI n):=iP h
theorem Hl{td:List Word}(hL:td.length<=1099511627775){l:List Trip}{ti:Nat}{x:Trip}(hx:l[ti]?=some x)(hti:ti<=1000)(hs:1<=x.s/\x.s<=3)(hml:x.m.length=3){acc:List Word}(ha:acc.length<=3000) :
  aq (fun ps=>qE (td.map Word.e) (l.map Trip.e) (ti:Int) ((aa ps 0).toInt) ((aa ps 1).toList)) [.int .i64 0,.list (acc.map Word.e)] =
   some (.jump [.int .i64 ((ti+1:Nat):Int),.list ((acc++bf td x.s ((ti+1:Nat):Int) 1 x.m).map Word.e)]):=by
 have key:=am (l:=x.m) (F:=fun ps=>qE (td.map Word.e) (l.map Trip.e) (ti:Int) ((aa ps 0).toInt) ((aa ps 1).toList)) (enc:=fun i (s:List Word)=>[.int .i64 i,.list (s.map Word.e)])
  (res:=fun xs i s=>.jump [.int .i64 ((ti+1:Nat):Int),.list ((s++bf td x.s ((ti+1:Nat):Int) ((i+1:Nat):Int) xs).map Word.e)]) (fun i s=>s.length<=3000+i) (s:=acc) (by omega) ?_ ?_
 ·exact key
 ·intro i n xs s hn hs'
  have hi:=(List.getElem?_eq_some_iff.1 hn).1
  have hi':(i:Int)<3:=by omega
  have e1:((i+1:Nat):Int)+1=((i+1+1:Nat):Int):=by omega
  have ra:∀ g:List C->Option Out,aG (.list [[C.int .i64 0],[C.int .i64 4],[C.int .i64 6],[C.int .i64 7]]) (.int .i64 x.s) [.int .i64] g=g [.int .i64 (nE x.s)]:=by
   intro g
   have:x.s=1\/x.s=2\/x.s=3:=by omega
   rcases this with e|e|e<;>rw[e]<;>rfl
  have h4:x.s<((([[C.int .i64 0],[C.int .i64 4],[C.int .i64 6],[C.int .i64 7]]:List (List C)).length:Nat):Int):=by simp;omega
  have h5:(0:Int)<=x.s:=by omega
  have hb:=db (p:=(0:Int)<=x.s) (q:=x.s<((([[C.int .i64 0],[C.int .i64 4],[C.int .i64 6],[C.int .i64 7]]:List (List C)).length:Nat):Int)) h5 h4
  unfold qE
  simp only[aa,C.toInt_int,C.toList_list,aT,hi',if_true,sb hx,Trip.e,hb,ra,rowI3 hn,eI,bA]
  simp (disch:=first|assumption|omega|(simp only[zL];omega)) only[ap,gK,zp,aa,C.toBool_bool]
  simp only[bf,gq]
  by_cases hn0:n=0
  ·simp only[hn0,if_true,true_or]
   exact .inl ⟨s,rfl,by omega,by rw[e1];simp⟩
  ·simp only[hn0,if_false,false_or]
   cases hc:td.contains ⟨nE x.s,((i+1:Nat):Int),((ti+1:Nat):Int),0⟩with
   | true=>exact .inl ⟨s,rfl,by omega,by rw[e1];simp⟩
   | false =>
    have hlen:∀ w:List C,decide ((s.map Word.e).length+[w].length<=aK)=true:=fun w=>by simp[cD];omega
    refine .inl ⟨s++[⟨x.s,((i+1:Nat):Int),((ti+1:Nat):Int),if x.s=1 then n else 0⟩],?_,by simp;omega,by rw[e1];simp⟩
    simp only[ar,cd (hlen _)]
    split<;>simp[Word.e]
 ·intro s _
  unfold qE
  have h:¬ ((x.m.length:Int)<3):=by omega
  simp only[aa,C.toInt_int,C.toList_list,aT,h,if_false]
  simp (disch:=first|assumption|omega|(simp only[zL];omega)) only[ap,oM]
  simp[bf]
theorem wh{up:Bool}{rs:List Rec}{f:Int}{td:List Word}(hd:DkOk ⟨up,⟨rs,f⟩,[]⟩)(hL:td.length<=1099511627775) :
  jX [.bool up,.list (rs.map Rec.e),.int .i64 f,.list (td.map Word.e)]=some [.list ((aM ⟨up,⟨rs,f⟩,td⟩).map Word.e)]:=by
 rw[q_dq]
 have hlg:LgOk ⟨rs,f⟩:=hd.lg
 have hS:=hlg.S
 have tF:TrOk (aF ⟨rs,f⟩ true):=hd.trOk true
 have lF:=tF.len
 simp (disch:=first|assumption|omega|(simp only[zL];omega)) only[F_dq,wR,aM,aj,Int.reduceEq,reduceIte,zU,zT,aa]
 cases up with
 | false=>rfl
 | true =>
  simp only[ax,if_true]
  have key:=am (l:=aF ⟨rs,f⟩ true) (F:=fun ps=>vc (td.map Word.e) ((aF ⟨rs,f⟩ true).map Trip.e) ((aa ps 0).toInt) ((aa ps 1).toList)) (enc:=fun i (s:List Word)=>[.int .i64 i,.list (s.map Word.e)])
   (res:=fun xs i s=>.ret [.list ((s++c8 td ((i+1:Nat):Int) xs).map Word.e)]) (fun i s=>s.length<=3*i) (s:=[]) (by simp) ?_ ?_
  ·have key:aq _ [C.int .i64 0,C.list []]=_:=key
   rw[key];simp
  ·intro i x xs s hx hs
   have hi:=(List.getElem?_eq_some_iff.1 hx).1
   have hi':(i:Int)<((aF ⟨rs,f⟩ true).length:Nat):=by omega
   have hxo:=tripOk_iff.1 (tF.ok x (List.mem_of_getElem? hx))
   have hml:=bP hxo.1
   have e1:((i+1:Nat):Int)+1=((i+1+1:Nat):Int):=by omega
   unfold vc
   simp only[aa,C.toInt_int,C.toList_list,List.length_map,aT,hi',if_true,sb hx,Trip.e,c8]
   by_cases h3:x.s>3
   ·simp only[h3,if_true]
    simp (disch:=first|assumption|omega|(simp only[zL];omega)) only[ap]
    exact .inl ⟨s,rfl,by omega,by rw[e1];simp⟩
   ·simp only[h3,if_false]
    rw[Hl hL hx (by omega) (by omega) hml (by omega)]
    refine .inl ⟨s++bf td x.s ((i+1:Nat):Int) 1 x.m,rfl,?_,by rw[e1];simp⟩
    have:=fA td x.s ((i+1:Nat):Int) x.m 1
    simp only[List.length_append];omega
  ·intro s _
   unfold vc
   have h:¬ (((aF ⟨rs,f⟩ true).length:Int)<((aF ⟨rs,f⟩ true).length:Nat)):=by omega
   simp only[aa,C.toInt_int,C.toList_list,List.length_map,aT,h,if_false,oM]
   simp[c8]
theorem DkOk.bare{d:Desk}(h:DkOk d):DkOk ⟨d.up,d.lg,[]⟩:=⟨h.lg,h.tr,by simp,by simp,.inr rfl⟩
theorem kg{up:Bool}{rs:List Rec}{f:Int}{td:List Word}(hd:DkOk ⟨up,⟨rs,f⟩,td⟩)(hL:td.length<=1099511627775) :
  jX [.bool up,.list (rs.map Rec.e),.int .i64 f,.list (td.map Word.e)]=some [.list ((aM ⟨up,⟨rs,f⟩,td⟩).map Word.e)]:=wh hd.bare hL
end Dx
namespace Dx
open Go
def eg(hs:List House)(i:Int):House:=(hs[(i-1).toNat]?).getD ⟨0,false,0,⟨[],0⟩⟩
theorem bG(w:Wd)(i:Int):houseAt w i=eg w.hs i:=rfl
theorem wU{l:List House}{t:Int}(h1:1<=t)(h2:t<=l.length):l[(t-1).toNat]?=some (eg l t):=by
 have:(t-1).toNat<l.length:=by omega
 unfold eg;rw[List.getElem?_eq_getElem this];rfl
theorem oQ{l:List House}{t:Int}(h1:1<=t)(h2:t<=l.length){kk:IntKind}{f:List C->Option Out}:aG (.list (l.map House.e)) (.int kk (t-1)) [.int .i64,.bool,.int .i64,.list,.int .i64] f=f (eg l t).e :=
 eP (by omega) (wU h1 h2) rfl
theorem lf{l:List House}{t:Int}{x:House}(h1:1<=t)(h2:t<=l.length){kk:IntKind}{f:List C->Option Out}:aG (.list ((l.set (t-1).toNat x).map House.e)) (.int kk (t-1)) [.int .i64,.bool,.int .i64,.list,.int .i64] f=f x.e:=by
 refine eP (by omega) ?_ rfl
 rw[List.getElem?_set];simp;omega
theorem nF(l:List House)(n:Nat)(id:Int)(up:Bool)(room:Int)(rs:List Rec)(f:Int):(l.map House.e).set n [.int .i64 id,.bool up,.int .i64 room,.list (rs.map Rec.e),.int .i64 f]=(l.set n ⟨id,up,room,⟨rs,f⟩⟩).map House.e:=by
 simp[List.map_set,House.e]
theorem eqD(a:Int)(k:Option Out):ae (a==a) k=k:=by simp
theorem Es{l:List House}{t:Int}(h1:1<=t)(h2:t<=l.length):l.set (t-1).toNat (eg l t)=l:=by
 have hi:(t-1).toNat<l.length:=by omega
 have:eg l t=l[(t-1).toNat]:=by unfold eg;rw[List.getElem?_eq_getElem hi];rfl
 rw[this];exact List.set_getElem_self hi
section
variable {up:Bool} {rs:List Rec} {f:Int} {td:List Word} {hs:List House} {ns:List Word}
theorem p8(hL:ns.length<=1000){k h t m:Int} :
  oy [.bool up,.list (rs.map Rec.e),.int .i64 f,.list (td.map Word.e),.list (hs.map House.e),.list (ns.map Word.e),.int .i64 k,.int .i64 h,.int .i64 t,.int .i64 m]=some (oA ⟨⟨up,⟨rs,f⟩,td⟩,hs,ns⟩ ⟨k,h,t,m⟩).e:=by
 rw[q_ge]
 simp (disch:=first|assumption|omega|(simp only[zL];omega)) only[F_ge,oA,Int.reduceEq,reduceIte,zU,zT,aa]
 by_cases hn:ns.length<14
 ·have h':((ns.length:Nat):Int)<14:=by omega
  have hc:ns.length+1<=1099511627776:=by omega
  simp[hn,h',Wd.e,Word.e,cD,hc]
 ·have h':¬ (((ns.length:Nat):Int)<14):=by omega
  simp[hn,h',Wd.e]
theorem sD(hL:ns.length<=1000){i:Int}(h0:0<=i)(h1:i<ns.length) :
  vn [.bool up,.list (rs.map Rec.e),.int .i64 f,.list (td.map Word.e),.list (hs.map House.e),.list (ns.map Word.e),.int .i64 i]=some (iO ⟨⟨up,⟨rs,f⟩,td⟩,hs,ns⟩ i).e:=by
 rw[q_fd]
 obtain⟨n,rfl⟩:=Int.eq_ofNat_of_zero_le h0
 have e1:(ns.map Word.e).take n=(ns.take n).map Word.e:=by simp
 have e2:(ns.map Word.e).drop (n+1)=(ns.drop (n+1)).map Word.e:=by simp
 have c1:(0:Int)<=((n+1:Nat):Int):=by omega
 have c2:((n+1:Nat):Int)<=(ns.length:Nat):=by omega
 have c3:(n:Int)<=(ns.length:Nat):=by omega
 have c4:(ns.take n).length<=1000:=by simp;omega
 have c5:(ns.drop (n+1)).length<=1000:=by simp;omega
 simp (disch:=first|assumption|omega|(simp only[zL];omega)) only[F_fd,ap,Int.toNat_natCast,e1,e2,cp,Int.reduceEq,reduceIte,zU,zT,aa]
 simp[Wd.e,iO,List.eraseIdx_eq_take_drop_succ]
theorem mq(ho:WOk ⟨⟨up,⟨rs,f⟩,td⟩,hs,ns⟩)(hL:td.length<=1099511627774){k h t m:Int}(hx:WdOk ⟨k,h,t,m⟩) :
  ox [.bool up,.list (rs.map Rec.e),.int .i64 f,.list (td.map Word.e),.list (hs.map House.e),.list (ns.map Word.e),.int .i64 k,.int .i64 h,.int .i64 t,.int .i64 m] =
   some ((bp ⟨⟨up,⟨rs,f⟩,td⟩,hs,ns⟩ ⟨k,h,t,m⟩).1.e++((oW (bp ⟨⟨up,⟨rs,f⟩,td⟩,hs,ns⟩ ⟨k,h,t,m⟩).2).e++[.bool (bp ⟨⟨up,⟨rs,f⟩,td⟩,hs,ns⟩ ⟨k,h,t,m⟩).2.isSome])):=by
 rw[q_en]
 have hd:DkOk ⟨up,⟨rs,f⟩,td⟩:=ho.dk
 have hl:hs.length=3:=ho.len
 have hh:=hx.h
 simp only at hh
 by_cases h4:k>=4
 ·simp (disch:=first|assumption|omega|(simp only[zL];omega)) only[F_en,CZ,bp,h4,if_true,decide_true,Desk.e,Int.reduceEq,reduceIte,zU,zT,aa]
  simp[Wd.e,oW,Word.e]
 ·have hho:=(ho.houseAt (i:=h) hh).2.1
  rw[bG]at hho
  simp only at hho
  have hho':HsOk ⟨(eg hs h).id,(eg hs h).up,(eg hs h).room,⟨(eg hs h).lg.rs,(eg hs h).lg.f⟩⟩:=hho
  simp (disch:=first|assumption|omega|(simp only[zL];omega)) only[F_en,bp,h4,if_false,wrap64,oQ,House.e,CY,eqD,List.cons_append,Word.e,nF,bG,Int.reduceEq,reduceIte,zU,zT,aa]
  simp[Wd.e,setHouse,House.e]
theorem wV(ho:LgOk ⟨rs,f⟩){keep:Int} :
  rZ [.list (rs.map Rec.e),.int .i64 f,.int .i64 keep]=some (gF ⟨rs,f⟩ keep).e:=by
 rw[q_fx]
 have h1:=ho.lo
 have h2:=ho.hi
 have h3:=ho.len
 have hk:=ho.keep keep
 simp only at h1 h2 h3 hk
 unfold fM at hk
 have e1:∀ n:Nat,(rs.map Rec.e).take n=(rs.take n).map Rec.e:=fun n=>by simp
 simp only[F_fx,gF,fM,aT,List.length_map]
 by_cases h:keep>0
 ·simp only[h,if_true]at hk ⊢
  have em:(if((rs.length:Nat):Int)-f<keep then((rs.length:Nat):Int)-f else keep)=min keep (rs.length-f):=by rw[Int.min_def];split<;>split<;>omega
  rw[wrap64 (x:=((rs.length:Nat):Int)-f) (by omega) (by omega),em,wrap64 (by omega) (by omega)]
  rw[db (by omega) (by omega),e1]
  simp[Log.e]
 ·simp only[h,if_false]at hk ⊢
  rw[db (by omega) (by omega),e1]
  simp[Log.e]
theorem C0(ho:LgOk ⟨rs,f⟩){keep:Int} :
  y8 [.bool up,.list (rs.map Rec.e),.int .i64 f,.list (td.map Word.e),.int .i64 keep]=some (dfall ⟨up,⟨rs,f⟩,td⟩ keep).e:=by
 rw[q_ey]
 simp (disch:=first|assumption|omega|(simp only[zL];omega)) only[F_ey,wV,Log.e,Int.reduceEq,reduceIte,zU,zT,aa]
 simp[dfall,Desk.e]
theorem oR(hl:hs.length=3)(hh:∀ h∈hs,h.lg.rs.length<=2000000){i:Int}(hi:0<=i/\i<=3) :
  rW [.bool up,.list (rs.map Rec.e),.int .i64 f,.list (td.map Word.e),.list (hs.map House.e),.list (ns.map Word.e),.int .i64 i]=some (cO ⟨⟨up,⟨rs,f⟩,td⟩,hs,ns⟩ i).e:=by
 rw[q_dy]
 by_cases h0:i=0
 ·subst h0
  have e0:in_ 0 1 3=false:=rfl
  cases up<;>simp (disch:=first|assumption|omega|(simp only[zL];omega)) only[F_dy,AP,bN,cO,bq,e0,if_true,Int.reduceEq,reduceIte,zU,zT,aa]<;>simp[Wd.e,gp]
 ·have e1:in_ i 1 3=true:=in_iff.2 (by omega)
  simp (disch:=first|assumption|omega|(simp only[zL];omega)) only[F_dy,AP,bN,cO,h0,if_false,e1,if_true,wrap64,oQ,House.e,eqD,nF,lf,bG,Int.reduceEq,reduceIte,zU,zT,aa]
  unfold bU
  cases hu:(eg hs i).up with
  | true =>
   simp (disch:=first|assumption|omega|(simp only[zL];omega)) only[nF,lf,House.e,eqD,Int.reduceEq,reduceIte,zU,zT,aa]
   simp[Wd.e,setHouse,hu,gp]
  | false =>
   have:setHouse ⟨⟨up,⟨rs,f⟩,td⟩,hs,ns⟩ i (eg hs i)=⟨⟨up,⟨rs,f⟩,td⟩,hs,ns⟩:=by
    unfold setHouse;simp only;rw[Es (by omega) (by omega)]
   simp only[Bool.false_eq_true,if_false,this,ar,aE]
   rfl
theorem C1(ho:WOk ⟨⟨up,⟨rs,f⟩,td⟩,hs,ns⟩){k a b:Int}{m:List (List C)} :
  sa [.bool up,.list (rs.map Rec.e),.int .i64 f,.list (td.map Word.e),.list (hs.map House.e),.list (ns.map Word.e),.int .i64 k,.int .i64 a,.int .i64 b,.list m]=some (cF ⟨⟨up,⟨rs,f⟩,td⟩,hs,ns⟩ ⟨k,a,b,[]⟩).e:=by
 rw[q_fh]
 have hd:DkOk ⟨up,⟨rs,f⟩,td⟩:=ho.dk
 have hlg:LgOk ⟨rs,f⟩:=hd.lg
 have hl:hs.length=3:=ho.len
 have hh:∀ h∈hs,h.lg.rs.length<=2000000:=fun h hm=>by
  obtain⟨i,hi⟩:=List.mem_iff_getElem?.1 hm
  have:=(ho.hs i h hi).1.lg.len;omega
 unfold cF
 simp only
 cases ha:in_ a 0 3 with
 | false=>simp (disch:=first|assumption|omega|(simp only[zL];omega)) only[BB,bN,ha,Bool.not_false,Int.reduceEq,reduceIte,zU,zT,aa];rfl
 | true =>
  have ha':=in_iff.1 ha
  simp only[if_true]
  by_cases h7:k=7
  ·subst h7
   simp (disch:=first|assumption|omega|(simp only[zL];omega)) only[BB,bN,ha,Bool.not_true,if_true,oR,Wd.e,Int.reduceEq,reduceIte,zU,zT,aa]
  ·by_cases h8:k=8
   ·subst h8
    by_cases a0:a=0
    ·subst a0
     simp (disch:=first|assumption|omega|(simp only[zL];omega)) only[BB,bN,ha,Bool.not_true,if_true,if_false,C0,Desk.e,Int.reduceEq,reduceIte,zU,zT,aa]
     simp[Wd.e]
    ·have hho:=(ho.houseAt (i:=a) (by omega)).2.1
     rw[bG]at hho
     have hlo:LgOk ⟨(eg hs a).lg.rs,(eg hs a).lg.f⟩:=hho.lg
     simp (disch:=first|assumption|omega|(simp only[zL];omega)) only[BB,bN,ha,Bool.not_true,if_true,if_false,a0,wrap64,oQ,House.e,eqD,nF,lf,wV,Log.e,bG,List.length_set,Int.reduceEq,reduceIte,zU,zT,aa]
     simp[Wd.e,setHouse,hfall,House.e]
   ·by_cases h9:k=9
    ·subst h9
     by_cases a0:a=0
     ·subst a0
      simp (disch:=first|assumption|omega|(simp only[zL];omega)) only[BB,bN,ha,Bool.not_true,if_true,if_false,Int.reduceEq,reduceIte,zU,zT,aa]
      simp[Wd.e,ev]
     ·simp (disch:=first|assumption|omega|(simp only[zL];omega)) only[BB,bN,ha,Bool.not_true,if_true,if_false,a0,wrap64,oQ,House.e,eqD,nF,bG,Int.reduceEq,reduceIte,zU,zT,aa]
      simp[Wd.e,setHouse,fy]
    ·simp (disch:=first|assumption|omega|(simp only[zL];omega)) only[BB,bN,ha,Bool.not_true,if_false,h7,h8,h9,Int.reduceEq,reduceIte,zU,zT,aa]
     rfl
theorem Et(ho:WOk ⟨⟨up,⟨rs,f⟩,td⟩,hs,ns⟩)(hL:td.length<=1099511627774){k a b:Int}{m:List (List C)} :
  rY [.bool up,.list (rs.map Rec.e),.int .i64 f,.list (td.map Word.e),.list (hs.map House.e),.list (ns.map Word.e),.int .i64 k,.int .i64 a,.int .i64 b,.list m]=some (nY ⟨⟨up,⟨rs,f⟩,td⟩,hs,ns⟩ ⟨k,a,b,[]⟩).e:=by
 rw[q_ga]
 have hnl:ns.length<=14:=ho.nlen
 unfold nY
 simp only
 by_cases h0:0<=a
 ·by_cases h1:a<ns.length
  ·have e1:in_ a 0 ((ns.length:Nat)-1)=true:=in_iff.2 (by omega)
   obtain⟨n,rfl⟩:=Int.eq_ofNat_of_zero_le h0
   have hn:n<ns.length:=by omega
   have hx:ns[n]?=some ns[n]:=by simp[hn]
   have hxw:=ho.ns ns[n] (List.mem_of_getElem? hx)
   have hxw':WdOk ⟨ns[n].k,ns[n].h,ns[n].t,ns[n].m⟩:=hxw
   simp only[Int.toNat_natCast,h0,if_true,hx]
   by_cases h5:k=5
   ·subst h5
    simp (disch:=first|assumption|omega|(simp only[zL];omega)) only[Fl,bN,wrap64,e1,Bool.not_true,jv hx,Word.e,if_true,sD,Wd.e,Int.reduceEq,reduceIte,zU,zT,aa]
   ·by_cases h6:k=6
    ·subst h6
     simp (disch:=first|assumption|omega|(simp only[zL];omega)) only[Fl,bN,wrap64,e1,Bool.not_true,jv hx,Word.e,if_true,if_false,h5,p8,Wd.e,Int.reduceEq,reduceIte,zU,zT,aa]
    ·have ho2:=ho.take (n:Int)
     generalize hw2:iO ⟨⟨up,⟨rs,f⟩,td⟩,hs,ns⟩ (n:Int)=w2 at ho2
     have htk:=sD (up:=up) (rs:=rs) (f:=f) (td:=td) (hs:=hs) (ns:=ns) (by omega) h0 h1
     rw[hw2]at htk
     have ho2':WOk ⟨⟨w2.dk.up,⟨w2.dk.lg.rs,w2.dk.lg.f⟩,w2.dk.td⟩,w2.hs,w2.ns⟩:=ho2
     have hL2:w2.dk.td.length<=1099511627774:=by rw[<-hw2];exact hL
     have hhe:=ho2.hear hxw
     have hm:=mq ho2' hL2 hxw'
     simp only[lw,lx,jI,vx]at hm
     generalize (bp w2 ns[n])=p at hhe hm
     obtain⟨w3,o⟩:=p
     have hn3:w3.ns.length<=1000:=by have:=hhe.1.nlen;simp only at this;omega
     simp only[Wd.e,Word.e,List.cons_append,List.nil_append]at hm htk
     simp (disch:=first|assumption|omega|(simp only[zL];omega)) only[Fl,bN,wrap64,e1,Bool.not_true,jv hx,Word.e,h5,h6,if_false,htk,hm,Int.reduceEq,reduceIte,zU,zT,aa]
     cases o with
     | none=>simp[GG,Wd.e]
     | some y =>
      simp (disch:=first|assumption|omega|(simp only[zL];omega)) only[Option.isSome_some,oW,Option.getD_some,p8,Wd.e,GG,Int.reduceEq,reduceIte,zU,zT,aa]
  ·have e1:in_ a 0 ((ns.length:Nat)-1)=false:=in_false.2 (by omega)
   have hx:ns[a.toNat]?=none:=List.getElem?_eq_none (by omega)
   simp (disch:=first|assumption|omega|(simp only[zL];omega)) only[Fl,bN,wrap64,e1,Bool.not_false,h0,if_true,hx,Int.reduceEq,reduceIte,zU,zT,aa]
   rfl
 ·have e1:in_ a 0 ((ns.length:Nat)-1)=false:=in_false.2 (by omega)
  simp (disch:=first|assumption|omega|(simp only[zL];omega)) only[Fl,bN,wrap64,e1,Bool.not_false,h0,if_false,Int.reduceEq,reduceIte,zU,zT,aa]
  rfl
theorem C2(ho:WOk ⟨⟨up,⟨rs,f⟩,td⟩,hs,ns⟩)(hL:td.length<=1099511627774){k a b:Int}{m:List Int}(hm:m.length<=2000000) :
  y7 [.bool up,.list (rs.map Rec.e),.int .i64 f,.list (td.map Word.e),.list (hs.map House.e),.list (ns.map Word.e),.int .i64 k,.int .i64 a,.int .i64 b,.list (m.map eI)]=some (jZ ⟨⟨up,⟨rs,f⟩,td⟩,hs,ns⟩ ⟨k,a,b,m⟩).e:=by
 rw[q_fa]
 have hd:DkOk ⟨up,⟨rs,f⟩,td⟩:=ho.dk
 have hlg:LgOk ⟨rs,f⟩:=hd.lg
 have hS:=hlg.S
 have tA:TrOk (aF ⟨rs,f⟩ false):=hd.trOk false
 have lA:=tA.len
 have hnl:ns.length<=14:=ho.nlen
 unfold jZ
 simp only
 by_cases h1:k=1
 ·subst h1
  simp (disch:=first|assumption|omega|(simp only[zL];omega)) only[DY,ly,oO,wrap64,cp,if_true,gT,fN,aj,Int.reduceEq,reduceIte,zU,zT,aa]
  rcases Bool.eq_false_or_eq_true (aH ⟨4,((aF ⟨rs,f⟩ false).length:Int)+1,m⟩)with hr|hr
  ·simp (disch:=first|assumption|omega|(simp only[zL];omega)) only[hr,fQ,Desk.e,List.cons_append,if_true,Int.reduceEq,reduceIte,zU,zT,aa]
   simp[Wd.e]
  ·simp[hr,Wd.e]
 ·by_cases h2:k=2
  ·subst h2
   simp (disch:=first|assumption|omega|(simp only[zL];omega)) only[DY,bN,if_true,if_false,ln,Int.reduceEq,reduceIte,zU,zT,aa]
   cases hi:in_ a 1 6 with
   | false=>simp[Wd.e]
   | true =>
    have hw:=fQ hd (k:=6) (t:=a) (m:=[]) (by simp[aH,in_iff,in_iff.1 hi])
    simp only[List.map_nil,Desk.e,List.cons_append,List.nil_append]at hw
    simp (disch:=first|assumption|omega|(simp only[zL];omega)) only[hw,Int.reduceEq,reduceIte,zU,zT,aa]
    simp[Wd.e]
  ·by_cases h3:k=3
   ·subst h3
    have hwl:(aM ⟨up,⟨rs,f⟩,td⟩).length<=1000:=by have:=dI hd;omega
    generalize hwd:aM ⟨up,⟨rs,f⟩,td⟩=l at hwl
    have hmw:=kg hd (by omega)
    rw[hwd]at hmw
    by_cases h0:0<=a
    ·by_cases hlt:a<l.length
     ·have e1:in_ a 0 ((l.length:Nat)-1)=true:=in_iff.2 (by omega)
      obtain⟨n,rfl⟩:=Int.eq_ofNat_of_zero_le h0
      have hn:n<l.length:=by omega
      have hx:l[n]?=some l[n]:=by simp[hn]
      simp (disch:=first|assumption|omega|(simp only[zL];omega)) only[DY,hmw,bN,wrap64,e1,Int.toNat_natCast,h0,if_true,if_false,hx,jv hx,Word.e,p8,Wd.e,Int.reduceEq,reduceIte,zU,zT,aa]
     ·have e1:in_ a 0 ((l.length:Nat)-1)=false:=in_false.2 (by omega)
      have hx:l[a.toNat]?=none:=List.getElem?_eq_none (by omega)
      simp (disch:=first|assumption|omega|(simp only[zL];omega)) only[DY,hmw,bN,wrap64,e1,h0,if_true,if_false,hx,Int.reduceEq,reduceIte,zU,zT,aa]
      rfl
    ·have e1:in_ a 0 ((l.length:Nat)-1)=false:=in_false.2 (by omega)
     simp (disch:=first|assumption|omega|(simp only[zL];omega)) only[DY,hmw,bN,wrap64,e1,h0,if_true,if_false,Int.reduceEq,reduceIte,zU,zT,aa]
     rfl
   ·simp (disch:=first|assumption|omega|(simp only[zL];omega)) only[DY,h1,h2,h3,if_false,Int.reduceEq,reduceIte,zU,zT,aa]
    rfl
theorem Hm(ho:WOk ⟨⟨up,⟨rs,f⟩,td⟩,hs,ns⟩)(hL:td.length<=1099511627774){k a b:Int}{m:List Int}(hm:m.length<=2000000) :
  io [.bool up,.list (rs.map Rec.e),.int .i64 f,.list (td.map Word.e),.list (hs.map House.e),.list (ns.map Word.e),.int .i64 k,.int .i64 a,.int .i64 b,.list (m.map eI)]=some (wdo ⟨⟨up,⟨rs,f⟩,td⟩,hs,ns⟩ ⟨k,a,b,m⟩).e:=by
 rw[q_gn]
 have hA:=fun k=>C2 ho hL (k:=k) (a:=a) (b:=b) hm
 have hB:=fun k=>Et ho hL (k:=k) (a:=a) (b:=b) (m:=m.map eI)
 have hC:=fun k=>C1 ho (k:=k) (a:=a) (b:=b) (m:=m.map eI)
 have eB:∀ k,nY ⟨⟨up,⟨rs,f⟩,td⟩,hs,ns⟩ ⟨k,a,b,[]⟩=nY ⟨⟨up,⟨rs,f⟩,td⟩,hs,ns⟩ ⟨k,a,b,m⟩:=fun _=>rfl
 have eC:∀ k,cF ⟨⟨up,⟨rs,f⟩,td⟩,hs,ns⟩ ⟨k,a,b,[]⟩=cF ⟨⟨up,⟨rs,f⟩,td⟩,hs,ns⟩ ⟨k,a,b,m⟩:=fun _=>rfl
 simp only[eB,eC,Wd.e]at hA hB hC
 unfold wdo
 simp only[F_gn,bA]
 by_cases c1:k=1\/k=2\/k=3
 ·simp only[c1,if_true]
  rcases c1 with e|e|e<;>subst e<;>simp (disch:=first|assumption|omega|(simp only[zL];omega)) only[AT,hA,Wd.e,if_true,if_false,BEq.rfl,Int.reduceEq,reduceIte,zU,zT,aa]
 ·simp only[c1,if_false]
  have n1:¬ k=1:=by omega
  have n2:¬ k=2:=by omega
  have n3:(k==3)=false:=by simpa using(by omega:¬ k=3)
  simp only[n1,n2,n3,if_false,br,aa,C.toBool_bool,AT,ar,bA]
  by_cases c2:k=4\/k=5\/k=6
  ·simp only[c2,if_true]
   rcases c2 with e|e|e<;>subst e<;>simp (disch:=first|assumption|omega|(simp only[zL];omega)) only[hB,Wd.e,if_true,if_false,Int.reduceEq,reduceIte,zU,zT,aa]
  ·simp only[c2,if_false]
   have n4:¬ k=4:=by omega
   have n5:¬ k=5:=by omega
   have n6:¬ k=6:=by omega
   simp only[n4,n5,n6,if_false]
   by_cases c3:k=7\/k=8\/k=9
   ·simp only[c3,if_true]
    rcases c3 with e|e|e<;>subst e<;>simp (disch:=first|assumption|omega|(simp only[zL];omega)) only[hC,Wd.e,if_true,if_false,Int.reduceEq,reduceIte,zU,zT,aa]
   ·simp only[c3,if_false]
    have n7:¬ k=7:=by omega
    have n8:¬ k=8:=by omega
    have n9:¬ k=9:=by omega
    simp only[n7,n8,n9,if_false]
    rfl
end
end Dx
namespace Dx
open Go
theorem BI{F:List C->Option Out}{I:Nat->List C->Prop}{Q:Out->Prop}
  (h:∀ n ps,I n ps->(∃ ps' n',n'<n/\F ps=some (.jump ps')/\I n' ps')\/(∃ o,F ps=some (.up o)/\Q o)):∀(n:Nat) (ps:List C),I n ps->∃ o,aq F ps=some o/\Q o:=by
 intro n
 induction n using Nat.strongRecOn with
 | _ n ih =>
  intro ps hI
  rcases h n ps hI with ⟨ps',n',hlt,h1,h2⟩|⟨o,h1,h2⟩
  ·obtain⟨o,h3,h4⟩:=ih n' hlt ps' h2
   exact⟨o,by rw[fk,h1];exact h3,h4⟩
  ·exact⟨o,by rw[fk,h1];rfl,h2⟩
@[simp] theorem wW (o:Out) (k:List C->Option Out):bC (some (.up o)) k=some o:=rfl
def Rd(bs:List Int):Prop:=bs.length<=2000/\∀ b∈bs,0<=b/\b<=255
theorem Kt{l:List Int}{i:Int}{x:Int}(h0:0<=i)(h:l[i.toNat]?=some x){kk:IntKind}{f:List C->Option Out}:aG (.list (l.map eB)) (.int kk i) [.int .u8] f=f (eB x):=eP h0 h rfl
theorem K8{a b:Int}(ha:0<=a/\a<1099511627776)(hb:0<=b/\b<1099511627776):(BitVec.ofInt 64 a ^^^ BitVec.ofInt 64 b).toNat<1099511627776:=by
 obtain⟨n,rfl⟩:=Int.eq_ofNat_of_zero_le ha.1
 obtain⟨m,rfl⟩:=Int.eq_ofNat_of_zero_le hb.1
 rw[BitVec.toNat_xor,BitVec.toNat_ofInt,BitVec.toNat_ofInt]
 have e1:((n:Int) % (2 ^ 64:Nat)).toNat=n:=by omega
 have e2:((m:Int) % (2 ^ 64:Nat)).toNat=m:=by omega
 rw[e1,e2]
 exact Nat.xor_lt_two_pow (n:=40) (by omega) (by omega)
theorem p9{x n:Int}(hx:0<=x)(hn:1<=n):0<=Int.tmod x n/\Int.tmod x n<n:=⟨Int.tmod_nonneg _ hx,Int.tmod_lt_of_pos _ (by omega)⟩
theorem Fs{bs:List Int}(hb:Rd bs){p n:Int}(h0:0<=p)(h1:p<=1000000000)(hn:n<=1000000000) :
  ∃ x,dv [.list (bs.map eB),.int .i64 p,.int .i64 n]=some [.int .i64 x,.list (bs.map eB),.int .i64 (p+1)]/\0<=x/\(1<=n->x<n)/\x<=1000000000:=by
 rw[q_cm]
 have w1:IntKind.wrap .i64 (p+1)=p+1:=wrap64 (by omega) (by omega)
 have w2:IntKind.wrap .i64 (p+1-1)=p:=by rw[wrap64 (by omega) (by omega)];omega
 simp only[F_cm,w1,w2,aT,bA,List.length_map]
 by_cases c1:n<1
 ·exact⟨0,by simp[c1],by omega,by omega,by omega⟩
 simp only[c1,if_false]
 by_cases c2:((bs.length:Nat):Int)=0
 ·exact⟨0,by simp[c2],by omega,by omega,by omega⟩
 simp only[c2,if_false]
 have hl:=hb.1
 have hn0:(n != 0)=true:=by simp;omega
 have hl0:(((bs.length:Nat):Int) != 0)=true:=by rw[bne_iff_ne];omega
 by_cases c3:p<((bs.length:Nat):Int)
 ·have hx:bs[p.toNat]?=some (bs[p.toNat]'(by omega)):=List.getElem?_eq_getElem (by omega)
  have hx2:=hb.2 _ (List.mem_of_getElem? hx)
  have w3:IntKind.wrap .i64 (bs[p.toNat]'(by omega))=bs[p.toNat]'(by omega):=wrap64 (by omega) (by omega)
  have:=p9 hx2.1 (show 1<=n by omega)
  refine⟨_,?_,this.1,fun _=>this.2,by omega⟩
  simp only[c3,if_true,Kt h0 hx,eB,aa,C.toInt_int,w3,hn0,dq,aE]
 simp only[c3,if_false]
 have hmod:∀ a:Int,0<=a->0<=Int.tmod a (bs.length:Nat)/\(Int.tmod a (bs.length:Nat)).toNat<bs.length:=fun a ha=>by
  have:=p9 ha (show (1:Int)<=(bs.length:Nat) by omega)
  exact⟨this.1,by omega⟩
 have hrow:∀(a:Int) (f:List C->Option Out),0<=a->∃ x,0<=x/\x<=255/\aG (.list (bs.map eB)) (.int .i64 (Int.tmod a (bs.length:Nat))) [.int .u8] f=f (eB x):=fun a f ha=>by
  obtain⟨m1,m2⟩:=hmod a ha
  have hx:bs[(Int.tmod a (bs.length:Nat)).toNat]?=some bs[(Int.tmod a (bs.length:Nat)).toNat]:=by simp[m2]
  have hx2:=hb.2 _ (List.mem_of_getElem? hx)
  exact⟨_,hx2.1,hx2.2,Kt m1 hx⟩
 simp only[hl0,dq]
 have w7:IntKind.wrap .i64 (IntKind.wrap .i64 (p*7)+3)=p*7+3:=by rw[wrap64 (x:=p*7) (by omega) (by omega),wrap64 (by omega) (by omega)]
 rw[w7]
 obtain⟨x,hx1,hx2,e⟩:=hrow p _ h0
 rw[e]
 simp only[eB,aa,C.toInt_int]
 obtain⟨y,hy1,hy2,e⟩:=hrow (p*7+3) _ (by omega)
 rw[e]
 simp only[eB,aa,C.toInt_int]
 have hd:0<=Int.tdiv p (bs.length:Nat)/\Int.tdiv p (bs.length:Nat)<=p:=by
  obtain⟨k,rfl⟩:=Int.eq_ofNat_of_zero_le h0
  rw[<-Int.ofNat_tdiv]
  have:=Nat.div_le_self k bs.length
  generalize k / bs.length=d at this ⊢
  omega
 have s1:IntKind.wrap .i64 x=x:=wrap64 (by omega) (by omega)
 have s2:IntKind.wrap .i64 y=y:=wrap64 (by omega) (by omega)
 have s3:IntKind.wrap .i64 (x*131)=x*131:=wrap64 (by omega) (by omega)
 have s4:IntKind.wrap .i64 (y*1117)=y*1117:=wrap64 (by omega) (by omega)
 have s5:IntKind.wrap .i64 (p*29)=p*29:=wrap64 (by omega) (by omega)
 have s6:IntKind.wrap .i64 (x*131+y*1117)=x*131+y*1117:=wrap64 (by omega) (by omega)
 have s7:IntKind.wrap .i64 (x*131+y*1117+p*29)=x*131+y*1117+p*29:=wrap64 (by omega) (by omega)
 have s8:IntKind.wrap .i64 (Int.tdiv p (bs.length:Nat))=Int.tdiv p (bs.length:Nat):=wrap64 (by omega) (by omega)
 have s9:IntKind.wrap .i64 (Int.tdiv p (bs.length:Nat)*53)=Int.tdiv p (bs.length:Nat)*53:=wrap64 (by omega) (by omega)
 have s10:IntKind.wrap .i64 (x*131+y*1117+p*29+Int.tdiv p (bs.length:Nat)*53)=x*131+y*1117+p*29+Int.tdiv p (bs.length:Nat)*53:=wrap64 (by omega) (by omega)
 simp only[s1,s2,s3,s4,s5,s6,s7,s8,s9,s10]
 generalize hz:x*131+y*1117+p*29+Int.tdiv p (bs.length:Nat)*53=z
 have hz':0<=z/\z<1099511627776:=by omega
 have hq:0<=Int.tdiv z 64/\Int.tdiv z 64<1099511627776:=by
  obtain⟨k,rfl⟩:=Int.eq_ofNat_of_zero_le hz'.1
  have:Int.tdiv (k:Int) 64=((k / 64:Nat):Int):=rfl
  rw[this];omega
 have s11:IntKind.wrap .i64 (Int.tdiv z 64)=Int.tdiv z 64:=wrap64 (by omega) (by omega)
 rw[s11]
 have hx:=K8 hz' hq
 have s12:IntKind.wrap .i64 ((BitVec.ofInt 64 z ^^^ BitVec.ofInt 64 (Int.tdiv z 64)).toNat:Int)=((BitVec.ofInt 64 z ^^^ BitVec.ofInt 64 (Int.tdiv z 64)).toNat:Int):=wrap64 (by omega) (by omega)
 rw[s12]
 have:=p9 (x:=((BitVec.ofInt 64 z ^^^ BitVec.ofInt 64 (Int.tdiv z 64)).toNat:Int)) (by omega) (show 1<=n by omega)
 exact⟨_,by simp only[hn0,dq,aE],this.1,fun _=>this.2,by omega⟩
theorem oS{bs:List Int}(hb:Rd bs):∃ pk:Int->Int->Int,∀ p n,0<=p->p<=1000000000->n<=1000000000 ->
  dv [.list (bs.map eB),.int .i64 p,.int .i64 n]=some [.int .i64 (pk p n),.list (bs.map eB),.int .i64 (p+1)]/\0<=pk p n/\(1<=n->pk p n<n)/\pk p n<=1000000000:=by
 classical
 refine⟨fun p n=>if h:0<=p/\p<=1000000000/\n<=1000000000 then Classical.choose (Fs hb h.1 h.2.1 h.2.2) else 0,fun p n h0 h1 h2=>?_⟩
 dsimp only
 rw[dif_pos ⟨h0,h1,h2⟩]
 exact Classical.choose_spec (Fs hb h0 h1 h2)
theorem Eu{code:List Int}(hl:code.length<=1099511627776)(hc:∀ b∈code,0<=b/\b<=255):∃ bs,Rd bs/\xL [.list (code.map eB)]=some [.list (bs.map eB),.int .i64 0]:=by
 rw[q_fr]
 simp only[F_fr,aT,List.length_map]
 by_cases h:((code.length:Nat):Int)>2000
 ·refine⟨code.take 2000,⟨by simp;omega,fun b hb=>hc b (List.mem_of_mem_take hb)⟩,?_⟩
  simp only[h,if_true]
  rw[db (by omega) (by omega)]
  simp
 ·exact⟨code,⟨by omega,hc⟩,by simp[h]⟩
theorem C3:yN []=some deskNew.e:=by rw[q_ew];rfl
theorem zt{id room:Int}:yO [.int .i64 id,.int .i64 room] =
  some (if in_ id 1 3 && in_ room 0 9 then(⟨id,true,room,⟨[],0⟩⟩:House).e++[.bool true] else(⟨0,false,0,⟨[],0⟩⟩:House).e++[.bool false]):=by
 rw[q_do]
 simp (disch:=first|assumption|omega|(simp only[zL];omega)) only[F_do,oP,bN,Stock.e,List.cons_append,Int.reduceEq,reduceIte,zU,zT,aa]
 cases in_ id 1 3<;>cases in_ room 0 9<;>rfl
def nh:Nat->List Int->List House
 | _,[]=>[]
 | i,r::rs=>⟨((i+1:Nat):Int),true,r,⟨[],0⟩⟩::nh (i+1) rs
theorem GH:∀(rs:List Int) (i:Nat),nh i rs=(rs.zipIdx (i+1)).map fun p=>⟨p.2,true,p.1,⟨[],0⟩⟩
 | [],i=>rfl
 | r::rs,i=>by simp[nh,GH rs (i+1)]
def wd0:Wd:=⟨⟨false,⟨[],0⟩,[]⟩,[],[]⟩
theorem zu{rooms:List Int}(hL:rooms.length<=1099511627775):yP [.list (rooms.map eI)]=some (((bb rooms).getD wd0).e++[.bool (bb rooms).isSome]):=by
 rw[q_ea]
 simp (disch:=first|assumption|omega|(simp only[zL];omega)) only[F_ea,C3,Desk.e,deskNew,Int.reduceEq,reduceIte,zU,zT,aa]
 have key:=am (l:=rooms) (F:=fun ps=>uX (rooms.map eI) true [] 0 [] ((aa ps 0).toInt) ((aa ps 1).toList)) (enc:=fun i (s:List House)=>[.int .i64 i,.list (s.map House.e)])
  (res:=fun xs i s=>.ret (((if rooms.length=3/\xs.all (fun n=>in_ n 0 9)=true then some (⟨deskNew,s++nh i xs,[]⟩:Wd) else none).getD wd0).e++[.bool (if rooms.length=3/\xs.all (fun n=>in_ n 0 9)=true then some (⟨deskNew,s++nh i xs,[]⟩:Wd) else none).isSome])) (fun i s=>s.length=i) (s:=[]) (by simp) ?_ ?_
 ·have key:aq _ [C.int .i64 0,C.list []]=_:=key
  simp only[List.map_nil]at key ⊢
  rw[key]
  have:(if rooms.length=3/\rooms.all (fun n=>in_ n 0 9)=true then some (⟨deskNew,[]++nh 0 rooms,[]⟩:Wd) else none)=bb rooms:=by
   unfold bb cT
   rw[GH];simp
  rw[this];rfl
 ·intro i x xs s hx hs
  have hi:=(List.getElem?_eq_some_iff.1 hx).1
  have hi':(i:Int)<(rooms.length:Nat):=by omega
  simp only[uX,aa,C.toInt_int,C.toList_list,List.length_map,aT,hi',if_true,iP hx,eI]
  simp (disch:=first|assumption|omega|(simp only[zL];omega)) only[ap,zt]
  by_cases hok:(in_ ((i+1:Nat):Int) 1 3 && in_ x 0 9)=true
  ·have hr:=in_iff.1 (Bool.and_eq_true_iff.1 hok).1
   rw[if_pos hok]
   simp only[House.e,List.cons_append,List.nil_append,mo,aa,C.toInt_int,C.toList_list,C.toBool_bool,List.map_nil,Bool.not_true,ar]
   rw[cd (by simp[cD];omega)]
   refine .inl ⟨s++[⟨((i+1:Nat):Int),true,x,⟨[],0⟩⟩],by simp[House.e],by simp[hs],?_⟩
   have:=(Bool.and_eq_true_iff.1 hok).2
   simp[nh,this]
  ·rw[if_neg hok]
   refine .inr ⟨_,rfl,?_⟩
   have:¬ (rooms.length=3/\(x::xs).all (fun n=>in_ n 0 9)=true):=by
    intro ⟨h3,ha⟩
    simp only[List.all_cons,Bool.and_eq_true]at ha
    exact hok (Bool.and_eq_true_iff.2 ⟨in_iff.2 (by omega),ha.1⟩)
   simp only[this,if_false];rfl
 ·intro s hs
  have h:¬ ((rooms.length:Int)<(rooms.length:Nat)):=by omega
  simp only[uX,aa,C.toInt_int,C.toList_list,List.length_map,aT,h,if_false,BE]
  by_cases h3:rooms.length=3
  ·have h3':((rooms.length:Nat):Int)=3:=by omega
   simp[h3,upD,nh,Wd.e,deskNew]
  ·have h3':¬ ((rooms.length:Nat):Int)=3:=by omega
   simp[h3,h3',upD,Wd.e,wd0]
end Dx
namespace Dx
open Go
def EvS(e:Ev):Prop:=e.m.length<=2000000
section
variable {bs:List Int}
def EvOut(bs:List Int)(p:Int)(r:Option (List C)):Prop:=∃(e:Ev) (p':Int),r=some (e.e++[.list (bs.map eB),.int .i64 p'])/\p<=p'/\p'<=p+10/\EvS e
theorem EvOut.ite{p:Int}{c:Prop}[Decidable c]{a b:Option (List C)}(ha:EvOut bs p a)(hb:EvOut bs p b):EvOut bs p (if c then a else b):=by split<;>assumption
def EvOut'(bs:List Int)(p:Int)(r:Option (List C)):Prop:=∃(e:Ev) (p':Int),r=some (e.e++[.list (bs.map eB),.int .i64 p'])/\p<=p'/\p'<=p+20/\EvS e
theorem EvOut.up{p q:Int}{r:Option (List C)}(h:EvOut bs p r)(h1:q<=p)(h2:p<=q+10):EvOut' bs q r:=by
 obtain⟨e,p',e1,e2,e3,e4⟩:=h
 exact⟨e,p',e1,by omega,by omega,e4⟩
theorem EvOut'.ite{p:Int}{c:Prop}[Decidable c]{a b:Option (List C)}(ha:EvOut' bs p a)(hb:EvOut' bs p b):EvOut' bs p (if c then a else b):=by split<;>assumption
theorem zv(hb:Rd bs){p:Int}(h0:0<=p)(h1:p<=700000000) :
  ∃ a b c,uE [.list (bs.map eB),.int .i64 p]=some [.list ([a,b,c].map eI),.list (bs.map eB),.int .i64 (p+1+1+1)]/\0<=a/\a<=5/\0<=b/\b<=5/\1<=c/\c<=5:=by
 rw[q_dx]
 obtain⟨pk,hpk⟩:=oS hb
 have q:=fun p n h0 h1 h2=>(hpk p n h0 h1 h2).1
 have r1:=hpk p 6 h0 (by omega) (by omega)
 have r2:=hpk (p+1) 6 (by omega) (by omega) (by omega)
 have r3:=hpk (p+1+1) 5 (by omega) (by omega) (by omega)
 have b1:=r1.2.2.1 (by omega)
 have b2:=r2.2.2.1 (by omega)
 have b3:=r3.2.2.1 (by omega)
 refine⟨pk p 6,pk (p+1) 6,1+pk (p+1+1) 5,?_,r1.2.1,by omega,r2.2.1,by omega,by omega,by omega⟩
 simp (disch:=first|assumption|omega|(simp only[zL];omega)) only[F_dx,q,wrap64,Int.reduceEq,reduceIte,zU,zT,aa]
 rfl
end
theorem qQ(w:Wd)(a b:List Ev):qK w (a++b)=qK (qK w a) b:=by
 induction a generalizing w with
 | nil=>rfl
 | cons e es ih=>exact ih _
structure Drawn (w0:Wd) (es:List Ev) (w:Wd) (n:Nat):Prop where
 play:w=qK w0 es
 len:es.length<=n
 sz:∀ e∈es,EvS e
theorem Drawn.snoc{w0 w:Wd}{es:List Ev}{n:Nat}(h:Drawn w0 es w n){e:Ev}(he:EvS e):Drawn w0 (es++[e]) (wdo w e) (n+1) :=
 ⟨by rw[h.play,qQ];rfl,by have:=h.len;simp;omega,fun x hx=>by
  rcases List.mem_append.1 hx with hx|hx
  ·exact h.sz x hx
  ·simp at hx;exact hx ▸ he⟩
theorem wX{w:Wd}(ho:WOk w){e:Ev}(he:EvS e) :
  io [.bool w.dk.up,.list (w.dk.lg.rs.map Rec.e),.int .i64 w.dk.lg.f,.list (w.dk.td.map Word.e),.list (w.hs.map House.e),.list (w.ns.map Word.e),.int .i64 e.k,.int .i64 e.a,.int .i64 e.b,.list (e.m.map eI)]=some (wdo w e).e :=
 Hm (up:=w.dk.up) (rs:=w.dk.lg.rs) (f:=w.dk.lg.f) (td:=w.dk.td) (hs:=w.hs) (ns:=w.ns) ho (by have:=ho.dk.tdlen;omega) he
end Dx
namespace Dx
open Go
def nZ{α:Type}(p:α->Bool):Nat->List α->Int
 | _,[]=>-1
 | i,x::xs=>if p x then(i:Int) else nZ p (i+1) xs
theorem fa{α:Type}(p:α->Bool):∀(xs:List α) (i:Nat),(nZ p i xs>=0)↔xs.any p=true
 | [],i=>by simp[nZ]
 | x::xs,i=>by
  simp only[nZ,List.any_cons,Bool.or_eq_true]
  by_cases h:p x=true
  ·rw[if_pos h];simp[h]
  ·rw[if_neg h,fa p xs (i+1)];simp[h]
theorem iA{α:Type}{F:List C->Option Out}{l:List α}(p:α->Bool)
  (hs:∀(i:Nat) (x:α),l[i]?=some x->F [.int .i64 i]=if p x then some (.up (.ret [.int .i64 i])) else some (.jump [.int .i64 ((i+1:Nat):Int)]))
  (hf:F [.int .i64 (l.length:Nat)]=some (.up (.ret [.int .i64 (-1)]))):aq F [.int .i64 0]=some (.ret [.int .i64 (nZ p 0 l)]):=by
 have:=am (l:=l) (F:=F) (enc:=fun i (_:Unit)=>[.int .i64 i]) (res:=fun xs i _=>.ret [.int .i64 (nZ p i xs)]) (fun _ _=>True) (s:=()) trivial
  (fun i x xs s hx _=>by
   rw[hs i x hx]
   cases h:p x with
   | true=>exact .inr ⟨_,rfl,by simp[nZ,h]⟩
   | false=>exact .inl ⟨(),rfl,trivial,by simp[nZ,h]⟩)
  (fun s _=>hf)
 exact this
theorem kh(n lo hi:Int):bK [.int .i64 n,.int .i64 lo,.int .i64 hi]=some [.bool (in_ n lo hi)]:=by
 rw[q_gy]
 simp only[F_gy,ge_iff_le,in_]
 cases decide (lo<=n)<;>rfl
theorem lz(n:Int):gB [.int .i64 n]=some [.bool (in_ n 1 6)]:=by
 rw[q_fv];simp (disch:=first|assumption|omega|(simp only[zL];omega)) only[F_fv,kh,Int.reduceEq,reduceIte,zU,zT,aa]
theorem dw(n:Int):fY [.int .i64 n]=some [.bool (in_ n 1 3)]:=by
 rw[q_eo];simp (disch:=first|assumption|omega|(simp only[zL];omega)) only[F_eo,kh,Int.reduceEq,reduceIte,zU,zT,aa]
theorem i_w1(n:Int):xR [.int .i64 n]=some [.bool (!in_ n 0 3)]:=by
 rw[q_bw];simp (disch:=first|assumption|omega|(simp only[zL];omega)) only[F_bw,kh,Int.reduceEq,reduceIte,zU,zT,aa]
theorem i_w2(n:Int):xU [.int .i64 n]=some [.bool (n != 0)]:=by
 rw[q_cg];simp (disch:=first|assumption|omega|(simp only[zL];omega)) only[F_cg,Int.reduceEq,reduceIte,zU,zT,aa]
theorem i_ix1{m:List Int}(hL:m.length<=1099511627776):xS [.list (m.map eI)]=some [.int .i64 (nZ (fun n=>!in_ n 0 3) 0 m)]:=by
 rw[q_ao];unfold F_ao
 simp only[List.length_map]
 rw[iA (l:=m) (fun n=>!in_ n 0 3)]
 ·rfl
 ·intro i x hx
  have hi:=(List.getElem?_eq_some_iff.1 hx).1
  have hi':(i:Int)<(m.length:Nat):=by omega
  simp (disch:=first|assumption|omega|(simp only[zL];omega)) only[As,iP hx,eI,ap,hi',if_true,i_w1,Int.reduceEq,reduceIte,zU,zT,aa]
  cases in_ x 0 3<;>rfl
 ·have h:¬ ((m.length:Int)<(m.length:Nat)):=by omega
  simp (disch:=first|assumption|omega|(simp only[zL];omega)) only[As,h,if_false,Int.reduceEq,reduceIte,zU,zT,aa]
theorem i_ix2{m:List Int}(hL:m.length<=1099511627776):xV [.list (m.map eI)]=some [.int .i64 (nZ (fun n=>n != 0) 0 m)]:=by
 rw[q_an];unfold F_an
 simp only[List.length_map]
 rw[iA (l:=m) (fun n=>n != 0)]
 ·rfl
 ·intro i x hx
  have hi:=(List.getElem?_eq_some_iff.1 hx).1
  have hi':(i:Int)<(m.length:Nat):=by omega
  simp (disch:=first|assumption|omega|(simp only[zL];omega)) only[Au,iP hx,eI,ap,hi',if_true,i_w2,Int.reduceEq,reduceIte,zU,zT,aa]
  by_cases h:x=0<;>simp[h]
 ·have h:¬ ((m.length:Int)<(m.length:Nat)):=by omega
  simp (disch:=first|assumption|omega|(simp only[zL];omega)) only[Au,h,if_false,Int.reduceEq,reduceIte,zU,zT,aa]
theorem i_cf1{m:List Int}(hL:m.length<=1099511627776):xT [.list (m.map eI)]=some [.bool (m.any fun n=>!in_ n 0 3)]:=by
 rw[q_al];simp (disch:=first|assumption|omega|(simp only[zL];omega)) only[F_al,i_ix1,fa,Bool.decide_eq_true,Int.reduceEq,reduceIte,zU,zT,aa]
theorem i_cf2{m:List Int}(hL:m.length<=1099511627776):xW [.list (m.map eI)]=some [.bool (m.any fun n=>n != 0)]:=by
 rw[q_ak];simp (disch:=first|assumption|omega|(simp only[zL];omega)) only[F_ak,i_ix2,fa,Bool.decide_eq_true,Int.reduceEq,reduceIte,zU,zT,aa]
theorem oT{m:List Int}(hL:m.length<=1099511627776):rx [.list (m.map eI)]=some [.bool (di m)]:=by
 rw[q_dr]
 simp (disch:=first|assumption|omega|(simp only[zL];omega)) only[F_dr,i_cf1,i_cf2,Int.reduceEq,reduceIte,zU,zT,aa]
 by_cases h:m.length=3
 ·have h':((m.length:Nat):Int)=3:=by omega
  simp only[h',if_true]
  match m,h with
  | [a,b,c],_ =>
   have e1:∀ x:Int,in_ x 0 3=true->0<=x:=fun x hx=>(in_iff.1 hx).1
   cases ha:in_ a 0 3<;>cases hb:in_ b 0 3<;>cases hc:in_ c 0 3<;>simp[di,ha,hb,hc]
   have:=e1 a ha;have:=e1 b hb;have:=e1 c hc
   rw[Bool.eq_iff_iff];simp;omega
 ·have h':¬ ((m.length:Nat):Int)=3:=by omega
  simp[h,h',di]
theorem lQ{k t:Int}{m:List Int}(hL:m.length<=1099511627776):iG [.int .i64 k,.int .i64 t,.list (m.map eI)]=some [.bool (aH ⟨k,t,m⟩)]:=by
 rw[q_gm]
 simp (disch:=first|assumption|omega|(simp only[zL];omega)) only[F_gm,kh,lz,oT,aH,Int.reduceEq,reduceIte,zU,zT,aa]
 by_cases h1:k=1
 ·subst h1
  have e1:in_ 1 1 7=true:=rfl
  simp only[if_true,e1]
  match m with
  | []=>cases in_ t 1 6<;>rfl
  | [n]=>simp (disch:=first|assumption|omega|(simp only[zL];omega)) only[List.length_cons,List.length_nil,Hk,eI,kh,Int.reduceEq,reduceIte,zU,zT,aa]
         cases in_ t 1 6<;>simp
  | a::b::l =>
   have:¬ ((((a::b::l).length:Nat):Int)=1):=by simp;omega
   simp only[this,if_false]
   cases in_ t 1 6<;>simp
 ·by_cases h4:k=4
  ·subst h4
   have e1:in_ 4 1 7=true:=rfl
   simp only[e1]
   cases in_ t 1 6<;>simp
  ·simp only[h1,h4,if_false]
   have e1:in_ k 1 7=in_ k 2 7:=by rw[Bool.eq_iff_iff,in_iff,in_iff];omega
   rw[e1]
   have e2:(((m.length:Nat):Int)==0)=m.isEmpty:=by cases m<;>simp;omega
   rw[e2]
   cases in_ t 1 6<;>cases in_ k 2 7<;>simp
theorem Ew{k t:Int}{m:List Int}(hL:m.length<=1099511627776):xX [.int .i64 k,.int .i64 t,.list (m.map eI)]=some [.bool (!aH ⟨k,t,m⟩)]:=by
 rw[q_fk];simp (disch:=first|assumption|omega|(simp only[zL];omega)) only[F_fk,lQ,Int.reduceEq,reduceIte,zU,zT,aa]
theorem i_ixR{rs:List Rec}(hL:rs.length<=1099511627776)(hm:∀ r∈rs,r.m.length<=1099511627776):xY [.list (rs.map Rec.e)]=some [.int .i64 (nZ (fun r=>!aH r) 0 rs)]:=by
 rw[q_am];unfold F_am
 simp only[List.length_map]
 rw[iA (l:=rs) (fun r=>!aH r)]
 ·rfl
 ·intro i x hx
  have hi:=(List.getElem?_eq_some_iff.1 hx).1
  have hi':(i:Int)<(rs.length:Nat):=by omega
  have hxm:=hm x (List.mem_of_getElem? hx)
  simp (disch:=first|assumption|omega|(simp only[zL];omega)) only[Av,oL hx,Rec.e,ap,hi',if_true,Ew,Int.reduceEq,reduceIte,zU,zT,aa]
  cases aH x<;>rfl
 ·have h:¬ ((rs.length:Int)<(rs.length:Nat)):=by omega
  simp (disch:=first|assumption|omega|(simp only[zL];omega)) only[Av,h,if_false,Int.reduceEq,reduceIte,zU,zT,aa]
theorem i_cfR{rs:List Rec}(hL:rs.length<=1099511627776)(hm:∀ r∈rs,r.m.length<=1099511627776):xZ [.list (rs.map Rec.e)]=some [.bool (rs.any fun r=>!aH r)]:=by
 rw[q_ai];simp (disch:=first|assumption|omega|(simp only[zL];omega)) only[F_ai,i_ixR,fa,Bool.decide_eq_true,Int.reduceEq,reduceIte,zU,zT,aa]
theorem lR{rs:List Rec}{f:Int}(hl:LgS ⟨rs,f⟩):iH [.list (rs.map Rec.e),.int .i64 f]=some [.bool (gD ⟨rs,f⟩)]:=by
 rw[q_gk]
 have h1:rs.length<=1099511627776:=by have:=hl.1;simp only at this;omega
 have h2:∀ r∈rs,r.m.length<=1099511627776:=hl.2
 simp (disch:=first|assumption|omega|(simp only[zL];omega)) only[F_gk,kh,i_cfR h1 h2,gD,Int.reduceEq,reduceIte,zU,zT,aa]
 have e:rs.any (fun r=>!aH r)=!rs.all aH:=by simp[List.any_eq_not_all_not]
 rw[e,Bool.not_not]
 by_cases h40:rs.length<=40
 ·have h40':((rs.length:Nat):Int)<=40:=by omega
  simp only[h40,h40',if_true,decide_true,Bool.true_and]
  cases in_ f 0 (rs.length:Nat)<;>simp
 ·have h40':¬ ((rs.length:Nat):Int)<=40:=by omega
  simp only[h40,h40',if_false,decide_false,Bool.false_and,Bool.and_false]
def TrS(l:List Trip):Prop:=l.length<=2000000/\∀ t∈l,t.m.length<=1099511627776
theorem TrOk.S{l:List Trip}(h:TrOk l):TrS l:=⟨by have:=h.len;omega,fun t ht=>by have:=bP (tripOk_iff.1 (h.ok t ht)).1;omega⟩
theorem zw{m:List Int}{s:Int}(hL:m.length<=1099511627776):ya [.list (m.map eI),.int .i64 s]=some [.bool (!fE ⟨m,s⟩)]:=by
 rw[q_cw];simp (disch:=first|assumption|omega|(simp only[zL];omega)) only[F_cw,oT,kh,fE,Int.reduceEq,reduceIte,zU,zT,aa]
 cases di m<;>simp
theorem i_ixT{l:List Trip}(hl:TrS l):yb [.list (l.map Trip.e)]=some [.int .i64 (nZ (fun t=>!fE t) 0 l)]:=by
 rw[q_aj];unfold F_aj
 have h1:=hl.1
 simp only[List.length_map]
 rw[iA (l:=l) (fun t=>!fE t)]
 ·rfl
 ·intro i x hx
  have hi:=(List.getElem?_eq_some_iff.1 hx).1
  have hi':(i:Int)<(l.length:Nat):=by omega
  have hxm:=hl.2 x (List.mem_of_getElem? hx)
  simp (disch:=first|assumption|omega|(simp only[zL];omega)) only[Aw,sb hx,Trip.e,ap,hi',if_true,zw,Int.reduceEq,reduceIte,zU,zT,aa]
  cases fE x<;>rfl
 ·have h:¬ ((l.length:Int)<(l.length:Nat)):=by omega
  simp (disch:=first|assumption|omega|(simp only[zL];omega)) only[Aw,h,if_false,Int.reduceEq,reduceIte,zU,zT,aa]
theorem C4{l:List Trip}(hl:TrS l):yd [.list (l.map Trip.e)]=some [.bool (eZ l)]:=by
 rw[q_em]
 have hc:yc [.list (l.map Trip.e)]=some [.bool (l.any fun t=>!fE t)]:=by
  rw[q_ae];simp (disch:=first|assumption|omega|(simp only[zL];omega)) only[F_ae,i_ixT,fa,Bool.decide_eq_true,Int.reduceEq,reduceIte,zU,zT,aa]
 simp (disch:=first|assumption|omega|(simp only[zL];omega)) only[F_em,hc,eZ,Int.reduceEq,reduceIte,zU,zT,aa]
 have e:l.any (fun t=>!fE t)=!l.all fE:=by simp[List.any_eq_not_all_not]
 rw[e,Bool.not_not]
 by_cases h:l.length<=6
 ·have h':((l.length:Nat):Int)<=6:=by omega
  simp[h,h']
 ·have h':¬ ((l.length:Nat):Int)<=6:=by omega
  simp[h,h']
theorem sE{l:List Trip}(hl:l.length<=1099511627776){t:Int}:ry [.list (l.map Trip.e),.int .i64 t]=some [.int .i64 (if in_ t 1 l.length then(tAt l t).s else 0)]:=by
 rw[q_eg]
 simp (disch:=first|assumption|omega|(simp only[zL];omega)) only[F_eg,kh,Int.reduceEq,reduceIte,zU,zT,aa]
 rcases Bool.eq_false_or_eq_true (in_ t 1 (l.length:Nat))with h|h
 ·have h':=in_iff.1 h
  simp (disch:=first|assumption|omega|(simp only[zL];omega)) only[h,Bool.not_true,if_true,wrap64,Fp,Trip.e,Int.reduceEq,reduceIte,zU,zT,aa]
 ·simp[h]
theorem oU{l:List Trip}(hl:TrS l){k t:Int}{m:List Int}(hL:m.length<=1099511627776) :
  rz [.list (l.map Trip.e),.int .i64 k,.int .i64 t,.list (m.map eI)]=some [.bool (eZ l && (aH ⟨k,t,m⟩ && cG l ⟨k,t,m⟩))]:=by
 rw[q_ec]
 have h1:=hl.1
 simp (disch:=first|assumption|omega|(simp only[zL];omega)) only[F_ec,C4,lQ,sE,wrap64,Int.reduceEq,reduceIte,zU,zT,aa]
 cases eZ l with
 | false=>rfl
 | true =>
  cases hr:aH ⟨k,t,m⟩with
  | false=>rfl
  | true =>
   have ht:=cS hr
   simp only at ht
   simp only[ax,Bool.not_true,ar,Bool.true_and,cG]
   by_cases h4:k=4
   ·simp[h4]
   ·simp only[h4,if_false]
    by_cases hlt:t>(l.length:Nat)
    ·have hf:in_ t 1 (l.length:Nat)=false:=in_false.2 (by omega)
     simp only[hlt,if_true,hf,Bool.false_eq_true,if_false]
     by_cases h5:k=5
     ·simp[h5]
     ·by_cases h6:k=6
      ·simp[h6]
      ·by_cases h7:k=7<;>simp[h5,h6,h7]
    ·have hf:in_ t 1 (l.length:Nat)=true:=in_iff.2 (by omega)
     simp only[hlt,hf,if_true,if_false]
     by_cases h5:k=5
     ·simp[h5]
     ·by_cases h6:k=6
      ·simp[h6]
      ·by_cases h7:k=7
       ·by_cases hs:(tAt l t).s=2<;>simp[h7,hs]
       ·simp[h5,h6,h7]
theorem qa{m:List Int}(hL:m.length<=1099511627776):oq [.list (m.map eI)]=some [.list (m.map eI)]:=by
 rw[q_bj]
 cases m with
 | nil=>simp[F_bj,cp,cd,cD]
 | cons a l =>
  have:((a::l).map eI).isEmpty=false:=rfl
  simp only[F_bj,this,ar,List.nil_append,ub,dq]
  rw[cd (by simp[cD]at *;omega)]
  rfl
theorem C5{l:List Trip}(hl:TrS l){k t:Int}{m:List Int}(hL:m.length<=1099511627776) :
  yf [.list (l.map Trip.e),.int .i64 k,.int .i64 t,.list (m.map eI)] =
   some (if eZ l && (aH ⟨k,t,m⟩ && cG l ⟨k,t,m⟩) then [.list ((cM l ⟨k,t,m⟩).map Trip.e),.bool true] else [.list [],.bool false]):=by
 rw[q_fb]
 simp (disch:=first|assumption|omega|(simp only[zL];omega)) only[F_fb,oU,Int.reduceEq,reduceIte,zU,zT,aa]
 rcases Bool.eq_false_or_eq_true (eZ l && (aH ⟨k,t,m⟩ && cG l ⟨k,t,m⟩))with h|h
 case inr=>simp[h]
 simp only[h,Bool.not_true,ax,ar,if_true]
 simp only[Bool.and_eq_true]at h
 obtain⟨ho,hr,hm⟩:=h
 have ht:=cS hr
 have hml:=fO hr
 have hT:=tripsOk_iff.1 ho
 have hl6:=hT.len
 simp only at ht hml
 have key:=am (l:=l) (F:=fun ps=>uG (l.map Trip.e) k t (m.map eI) ((l.length:Nat):Int) ((aa ps 0).toInt) ((aa ps 1).toList)) (enc:=fun i (s:List Trip)=>[.int .i64 i,.list (s.map Trip.e)])
  (res:=fun xs _ s=>.ret [.list ((cM (s++xs) ⟨k,t,m⟩).map Trip.e),.bool true]) (fun i s=>s=l.take i) (s:=[]) (by simp) ?_ ?_
 ·have key:aq _ [C.int .i64 0,C.list []]=_:=key
  rw[key];rfl
 ·intro i x xs s hx hs
  have hi:=(List.getElem?_eq_some_iff.1 hx).1
  have hi':(i:Int)<(l.length:Nat):=by omega
  have hxm:=hl.2 x (List.mem_of_getElem? hx)
  have hsl:s.length=i:=by rw[hs];simp;omega
  simp (disch:=first|assumption|omega|(simp only[zL];omega)) only[uG,sb hx,Trip.e,ap,hi',if_true,qa,Int.reduceEq,reduceIte,zU,zT,aa]
  refine .inl ⟨s++[x],?_,?_,by simp⟩
  ·simp[Trip.e]
  ·rw[hs,List.take_succ,hx];rfl
 ·intro s hs
  have hs:s=l:=by rw[hs,List.take_length]
  subst hs
  have h:¬ ((s.length:Int)<(s.length:Nat)):=by omega
  simp only[uG,aa,C.toInt_int,C.toList_list,aT,h,if_false,List.append_nil]
  rcases lp hr hm with ⟨h4,h⟩|⟨h1,h2,h⟩
  ·simp only at h4;subst h4
   have hml':m.length<=1099511627776:=by omega
   simp only[bA,if_true,qa hml',sB,aa,C.toList_list]
   rw[cd (by simp[cD];omega)]
   simp[oM,cM,Trip.e]
  ·simp only at h1 h2 h
   have hx:=uc h1 h2
   have hw:IntKind.wrap .i64 (t-1)=t-1:=wrap64 (by omega) (by omega)
   have hb:(decide ((0:Int)<=t-1) && decide (t-1<((s.map Trip.e).length:Nat)))=true:=lt_B (by omega) (by simp;omega)
   have st:∀ z:Int,setRow 1 (s.map Trip.e) (t-1).toNat [C.int .i64 z]=(s.set (t-1).toNat ⟨(tAt s t).m,z⟩).map Trip.e:=fun z=>dJ hx rfl
   simp only[hw,cM,bA,cd hb,Fp h1 h2,Trip.e,aa,C.toInt_int,st]
   rcases h with ⟨h|h,_⟩|⟨h,hs⟩
   ·subst h;rfl
   ·subst h;rfl
   ·subst h
    rcases hs with hs|hs<;>simp[hs,upD]
theorem sG{rs:List Rec}(hL:rs.length<=2000000)(hm:∀ r∈rs,r.m.length<=1099511627776) :
  rA [.list (rs.map Rec.e)]=some [.list (((bc rs).getD []).map Trip.e),.bool (bc rs).isSome]:=by
 rw[q_ej];unfold F_ej
 have key:=am (l:=rs) (F:=fun ps=>qw (rs.map Rec.e) ((aa ps 0).toList) ((aa ps 1).toBool) ((aa ps 2).toInt)) (enc:=fun i (s:Option (List Trip))=>[.list ((s.getD []).map Trip.e),.bool s.isSome,.int .i64 i])
  (res:=fun xs _ s=>match s with
   | some l=>.ret [.list (((ch xs l).getD []).map Trip.e),.bool (ch xs l).isSome]
   | none=>.ret [.list [],.bool false]) (fun _ s=>∀ l,s=some l->TrOk l) (s:=some []) (fun l e=>by simp only[Option.some.injEq]at e;rw[<-e];exact TrOk.nil) ?_ ?_
 ·have key:aq _ [C.list [],C.bool true,C.int .i64 0]=_:=key
  rw[key];rfl
 ·intro i x xs s hx hs
  have hi:=(List.getElem?_eq_some_iff.1 hx).1
  have hi':(i:Int)<(rs.length:Nat):=by omega
  have hxm:=hm x (List.mem_of_getElem? hx)
  cases s with
  | none=>exact .inr ⟨_,rfl,rfl⟩
  | some l =>
   have hT:=hs l rfl
   have hS:=hT.S
   simp (disch:=first|assumption|omega|(simp only[zL];omega)) only[qw,Option.isSome_some,Option.getD_some,oL hx,Rec.e,hi',if_true,C5,Int.reduceEq,reduceIte,zU,zT,aa]
   have e1:eZ l=true:=tripsOk_iff.2 hT
   simp only[e1,Bool.true_and]
   rcases Bool.eq_false_or_eq_true (aH x && cG l x)with h|h
   ·simp only[h,if_true]
    refine .inl ⟨some (cM l x),?_,fun l' e=>?_,by simp[ch,h]⟩
    ·simp (disch:=first|assumption|omega|(simp only[zL];omega)) only[ap,Option.isSome_some,Option.getD_some,Int.reduceEq,reduceIte,zU,zT,aa]
    ·simp only[Option.some.injEq]at e;rw[<-e]
     simp only[Bool.and_eq_true]at h
     exact oC hT h.1 h.2
   ·simp only[h,Bool.false_eq_true,if_false]
    refine .inl ⟨none,?_,?_,?_⟩
    ·simp (disch:=first|assumption|omega|(simp only[zL];omega)) only[ap,Option.isSome_none,Option.getD_none,Int.reduceEq,reduceIte,zU,zT,aa]
     try simp
    ·intro l' e;cases e
    ·simp[ch,h]
 ·intro s hs
  have h:¬ ((rs.length:Int)<(rs.length:Nat)):=by omega
  cases s with
  | none=>simp[qw,aa]
  | some l=>simp[qw,aa,aT,ch]
end Dx
namespace Dx
open Go
theorem gV{k h t m:Int}:iI [.int .i64 k,.int .i64 h,.int .i64 t,.int .i64 m]=some [.bool (bJ ⟨k,h,t,m⟩)]:=by
 rw[q_fz]
 simp (disch:=first|assumption|omega|(simp only[zL];omega)) only[F_fz,kh,dw,lz,bJ,Int.reduceEq,reduceIte,zU,zT,aa]
 by_cases h1:k=1
 ·simp only[h1,if_true]
  cases in_ h 1 3<;>cases in_ t 1 6<;>cases in_ 1 1 7<;>simp
 ·simp only[h1,if_false]
  cases in_ h 1 3<;>cases in_ t 1 6<;>cases in_ k 1 7<;>simp
theorem jf{k h t m:Int}:iJ [.int .i64 k,.int .i64 h,.int .i64 t,.int .i64 m]=some [.bool (decide (k>=4))]:=by
 rw[q_bn];simp (disch:=first|assumption|omega|(simp only[zL];omega)) only[F_bn,Int.reduceEq,reduceIte,zU,zT,aa]
theorem kj{td:List Word}(hL:td.length<=1099511627776){k h t m:Int}:np [.list (td.map Word.e),.int .i64 k,.int .i64 h,.int .i64 t,.int .i64 m]=some [.bool (td.contains ⟨k,h,t,m⟩)]:=by
 rw[q_ap]
 have hi:yg [.list (td.map Word.e),.int .i64 k,.int .i64 h,.int .i64 t,.int .i64 m]=some [.int .i64 (nZ (fun x=>decide ((⟨k,h,t,m⟩:Word)=x)) 0 td)]:=by
  rw[q_at];unfold F_at
  simp only[List.length_map]
  rw[iA (l:=td) (fun x=>decide ((⟨k,h,t,m⟩:Word)=x))]
  ·rfl
  ·intro i x hx
   have hi:=(List.getElem?_eq_some_iff.1 hx).1
   have hi':(i:Int)<(td.length:Nat):=by omega
   have hw:=wP ⟨k,h,t,m⟩ x
   simp only at hw
   simp (disch:=first|assumption|omega|(simp only[zL];omega)) only[Ax,jv hx,Word.e,ap,hi',if_true,hw,decide_eq_true_eq,Int.reduceEq,reduceIte,zU,zT,aa]
  ·have h:¬ ((td.length:Int)<(td.length:Nat)):=by omega
   simp (disch:=first|assumption|omega|(simp only[zL];omega)) only[Ax,h,if_false,Int.reduceEq,reduceIte,zU,zT,aa]
 simp (disch:=first|assumption|omega|(simp only[zL];omega)) only[F_ap,hi,fa,Bool.decide_eq_true,Int.reduceEq,reduceIte,zU,zT,aa]
 rw[List.contains_eq_any_beq]
 congr
theorem mQ{k t:Int}{m:List Int}(hL:m.length<=1099511627776):rB [.int .i64 k,.int .i64 t,.list (m.map eI)]=some [.int .i64 k,.int .i64 t,.list (m.map eI)]:=by
 rw[q_ch];simp (disch:=first|assumption|omega|(simp only[zL];omega)) only[F_ch,qa,Int.reduceEq,reduceIte,zU,zT,aa]
theorem ue{rs:List Rec}{f many forced:Int}(hl:LgS ⟨rs,f⟩)(h1:0<=many)(h2:many<=rs.length) :
  nq [.list (rs.map Rec.e),.int .i64 f,.int .i64 many,.int .i64 forced]=some [.list ((rs.take many.toNat).map Rec.e),.int .i64 forced]:=by
 rw[q_cx]
 have e1:∀ n:Nat,(rs.map Rec.e).take n=(rs.take n).map Rec.e:=fun n=>by simp
 unfold F_cx
 simp only[e1,List.length_map]
 rw[db h1 h2]
 have hm:∀ r∈rs.take many.toNat,r.m.length<=1099511627776:=fun r hr=>hl.2 r (List.mem_of_mem_take hr)
 have hlen:(rs.take many.toNat).length<=2000000:=by simp;have:=hl.1;simp only at this;omega
 generalize rs.take many.toNat=l at hm hlen
 have key:=am (l:=l) (F:=fun ps=>uI forced (l.map Rec.e) ((l.length:Nat):Int) ((aa ps 0).toInt) ((aa ps 1).toList)) (enc:=fun i (s:List Rec)=>[.int .i64 i,.list (s.map Rec.e)])
  (res:=fun xs _ s=>.ret [.list ((s++xs).map Rec.e),.int .i64 forced]) (fun i s=>s.length=i) (s:=[]) rfl ?_ ?_
 ·have key:aq _ [C.int .i64 0,C.list []]=_:=key
  rw[key];rfl
 ·intro i x xs s hx hs
  have hi:=(List.getElem?_eq_some_iff.1 hx).1
  have hi':(i:Int)<(l.length:Nat):=by omega
  have hxm:=hm x (List.mem_of_getElem? hx)
  simp (disch:=first|assumption|omega|(simp only[zL];omega)) only[uI,oL hx,Rec.e,ap,hi',if_true,mQ,Int.reduceEq,reduceIte,zU,zT,aa]
  refine .inl ⟨s++[x],?_,by simp[hs],by simp⟩
  simp[Rec.e]
 ·intro s hs
  have h:¬ ((l.length:Int)<(l.length:Nat)):=by omega
  simp (disch:=first|assumption|omega|(simp only[zL];omega)) only[uI,h,if_false,Int.reduceEq,reduceIte,zU,zT,aa]
  simp
theorem i7{rs:List Rec}{f:Int}(hl:LgS ⟨rs,f⟩):nr [.list (rs.map Rec.e),.int .i64 f]=some [.list (rs.map Rec.e),.int .i64 f]:=by
 rw[q_ce]
 have h:=ue hl (many:=((rs.length:Nat):Int)) (forced:=f) (by omega) (by omega)
 simp only[Int.toNat_natCast,List.take_length]at h
 simp (disch:=first|assumption|omega|(simp only[zL];omega)) only[F_ce,h,Int.reduceEq,reduceIte,zU,zT,aa]
theorem wY{m:List Word}(hL:m.length<=1099511627776):rC [.list (m.map Word.e)]=some [.list (m.map Word.e)]:=by
 rw[q_au]
 cases m with
 | nil=>simp[F_au,cp,cd,cD]
 | cons a l =>
  have:((a::l).map Word.e).isEmpty=false:=rfl
  simp only[F_au,this,ar,List.nil_append,oN,dq]
  rw[cd (by simp[cD]at *;omega)]
  rfl
structure DkS (d:Desk):Prop where
 lg:LgS d.lg
 td:d.td.length<=2000000
theorem DkOk.S{d:Desk}(h:DkOk d):DkS d:=⟨h.lg.S,by have:=h.tdlen;omega⟩
theorem LgS.m{rs:List Rec}{f:Int}(h:LgS ⟨rs,f⟩):∀ r∈rs,r.m.length<=1099511627776:=h.2
theorem LgS.l{rs:List Rec}{f:Int}(h:LgS ⟨rs,f⟩):rs.length<=2000000:=h.1
section
variable {up b:Bool} {rs:List Rec} {f:Int} {td:List Word} {k h t m keep:Int} {ms:List Int}
theorem dY(hs:DkS ⟨up,⟨rs,f⟩,td⟩):iK [.bool up,.list (rs.map Rec.e),.int .i64 f,.list (td.map Word.e)]=some (Desk.e ⟨up,⟨rs,f⟩,td⟩):=by
 rw[q_bk]
 have h1:LgS ⟨rs,f⟩:=hs.lg
 have h2:td.length<=1099511627776:=by have:=hs.td;simp only at this;omega
 simp (disch:=first|assumption|omega|(simp only[zL];omega)) only[F_bk,i7,wY,Int.reduceEq,reduceIte,zU,zT,aa]
 rfl
theorem BJ(hl:b=true->0<=f/\f<=rs.length):rD [.list (rs.map Rec.e),.int .i64 f,.bool b]=some [.list ((aW ⟨rs,f⟩ b).map Rec.e)]:=by
 rw[q_cy]
 cases b with
 | false=>simp[F_cy,aW]
 | true =>
  obtain⟨h1,h2⟩:=hl rfl
  simp only[F_cy,ax,List.length_map]
  rw[db h1 h2]
  simp[aW]
theorem uf(hs:LgS ⟨rs,f⟩)(hl:b=true->0<=f/\f<=rs.length){tl:List (List C)}:fw [.bool up,.list (rs.map Rec.e),.int .i64 f,.list tl,.bool b]=some [.list ((aF ⟨rs,f⟩ b).map Trip.e)]:=by
 rw[q_cf]
 have h1:(aW ⟨rs,f⟩ b).length<=2000000:=by have:=hs.l;unfold aW;split<;>simp<;>omega
 have h2:∀ r∈aW ⟨rs,f⟩ b,r.m.length<=1099511627776:=fun r hr=>hs.2 r (by unfold aW at hr;split at hr;exact List.mem_of_mem_take hr;exact hr)
 simp (disch:=first|assumption|omega|(simp only[zL];omega)) only[F_cf,BJ hl,sG h1 h2,aF,Int.reduceEq,reduceIte,zU,zT,aa]
theorem jg(hs:LgS ⟨rs,f⟩){tl:List (List C)}:fw [.bool up,.list (rs.map Rec.e),.int .i64 f,.list tl,.bool false]=some [.list ((aF ⟨rs,f⟩ false).map Trip.e)]:=uf hs (fun h=>by cases h)
theorem Ex(hs:LgOk ⟨rs,f⟩){tl:List (List C)}:fw [.bool up,.list (rs.map Rec.e),.int .i64 f,.list tl,.bool true]=some [.list ((aF ⟨rs,f⟩ true).map Trip.e)]:=uf hs.S (fun _=>⟨hs.lo,hs.hi⟩)
theorem fb(hs:DkS ⟨up,⟨rs,f⟩,td⟩):gC [.bool up,.list (rs.map Rec.e),.int .i64 f,.list (td.map Word.e)]=some [.bool (fq ⟨up,⟨rs,f⟩,td⟩)]:=by
 rw[q_gc]
 have h1:LgS ⟨rs,f⟩:=hs.lg
 have h2:td.length<=2000000:=hs.td
 have hj:ai (Ay (rs.map Rec.e) (td.map Word.e))=some [.bool (d9 ((bc rs).getD []).length [] td && (bc rs).isSome)]:=by
  unfold Ay
  have ht:=sG h1.l h1.m
  simp only[ht,Kr,aa,C.toBool_bool,C.toList_list,List.length_map]
  have key:=am (l:=td) (F:=fun ps=>uH (td.map Word.e) (((bc rs).getD []).map Trip.e) (bc rs).isSome ((td.length:Nat):Int) ((aa ps 0).toInt)) (enc:=fun i (_:Unit)=>[.int .i64 i])
   (res:=fun xs i _=>.ret [.bool (d9 ((bc rs).getD []).length (td.take i) xs && (bc rs).isSome)]) (fun _ _=>True) (s:=()) trivial ?_ ?_
  ·have key:aq _ [C.int .i64 0]=_:=key
   rw[key];rfl
  ·intro i x xs s hx _
   have hi:=(List.getElem?_eq_some_iff.1 hx).1
   have hi':(i:Int)<(td.length:Nat):=by omega
   have e1:(td.map Word.e).take i=(td.take i).map Word.e:=by simp
   have c1:(0:Int)<=(i:Int):=by omega
   have c2:(i:Int)<=(td.length:Nat):=by omega
   have c3:(td.take i).length<=1099511627776:=by simp;omega
   have e2:td.take (i+1)=td.take i++[x]:=by rw[List.take_succ,hx];rfl
   have e3:∀ n:Nat,decide (x.t>(n:Int))=!decide (x.t<=(n:Int)):=fun n=>by rw[Bool.eq_iff_iff];simp
   simp (disch:=first|assumption|omega|(simp only[zL];omega)) only[uH,jv hx,Word.e,ap,hi',if_true,gV,jf,e1,Int.toNat_natCast,kj,db c1 c2,Int.reduceEq,reduceIte,zU,zT,aa]
   simp only[d9,e2]
   cases bJ x with
   | false=>exact .inr ⟨_,rfl,by simp⟩
   | true =>
    by_cases h4:x.k>=4
    ·by_cases h5:x.t>((((bc rs).getD []).length:Nat):Int)
     ·have h5':¬ x.t<=((((bc rs).getD []).length:Nat):Int):=by omega
      exact .inr ⟨_,by simp only[h4,h5,if_true,ax,Bool.not_true,ar];rfl,by simp[h5']⟩
     ·have h5':x.t<=((((bc rs).getD []).length:Nat):Int):=by omega
      cases hc:(td.take i).contains x with
      | true =>
       refine .inr ⟨.ret [.bool false],?_,by simp⟩
       simp only[h4,h5,if_true,if_false,ax,Bool.not_true,ar]
       try rw[cd (by simp;omega)]
      | false =>
       refine .inl ⟨(),?_,trivial,by simp[h4,h5']⟩
       simp only[h4,h5,if_true,if_false,ax,Bool.not_true,ar]
       try rw[cd (by simp;omega)]
    ·exact .inr ⟨_,by simp only[h4,if_false,ax,Bool.not_true,ar];rfl,by simp[h4]⟩
  ·intro s _
   have h:¬ ((td.length:Int)<(td.length:Nat)):=by omega
   simp (disch:=first|assumption|omega|(simp only[zL];omega)) only[uH,h,if_false,Int.reduceEq,reduceIte,zU,zT,aa]
   rfl
 simp (disch:=first|assumption|omega|(simp only[zL];omega)) only[F_gc,lR,wW,hj,Int.reduceEq,reduceIte,zU,zT,aa]
 unfold fq
 cases gD ⟨rs,f⟩with
 | false=>simp
 | true =>
  simp only[Bool.not_true,ar,Bool.true_and]
  cases up with
  | true =>
   simp only[ax,br]
   rw[hj]
   cases bc rs<;>simp
  | false =>
   simp only[ar]
   by_cases hz:((td.length:Nat):Int)>0
   ·have:td.isEmpty=false:=by
     cases td with
     | nil=>simp at hz
     | cons a l=>rfl
    simp only[hz,if_true,wW,ax,ar,aE]
    cases bc rs<;>simp[this]
   ·have:td=[]:=by
     cases td with
     | nil=>rfl
     | cons a l=>simp at hz
    simp only[hz,if_false,ax,ar,br]
    rw[hj,this]
    cases bc rs<;>simp
end
end Dx
namespace Dx
open Go
def dz:Desk:=⟨false,⟨[],0⟩,[]⟩
section
variable {up b:Bool} {rs:List Rec} {f:Int} {td:List Word} {k h t m keep:Int} {ms:List Int}
theorem wZ(hl:LgS ⟨rs,f⟩)(hm:ms.length<=1099511627776) :
  rE [.list (rs.map Rec.e),.int .i64 f,.int .i64 k,.int .i64 t,.list (ms.map eI)] =
   some (if gD ⟨rs,f⟩ && aH ⟨k,t,ms⟩ then [.list ((dW ⟨rs,f⟩ ⟨k,t,ms⟩).rs.map Rec.e),.int .i64 f,.bool (oz ⟨rs,f⟩)] else [.list [],.int .i64 0,.bool false]):=by
 rw[q_fo]
 simp (disch:=first|assumption|omega|(simp only[zL];omega)) only[F_fo,lR,lQ,i7,mQ,Int.reduceEq,reduceIte,zU,zT,aa]
 cases hlo:gD ⟨rs,f⟩with
 | false=>simp
 | true =>
  cases aH ⟨k,t,ms⟩with
  | false=>simp
  | true =>
   have hl40:rs.length<=40:=(logOk_iff.1 hlo).len
   simp only[ax,Bool.and_self,if_true]
   by_cases h40:((rs.length:Nat):Int)=40
   ·have h':rs.length>=40:=by omega
    simp[h40,dW,oz,h']
   ·have h':¬ rs.length>=40:=by omega
    have hc:rs.length+1<=1099511627776:=by omega
    simp[h40,dW,oz,h',hc,Rec.e]
theorem lS(hd:DkOk ⟨up,⟨rs,f⟩,td⟩)(hr:aH ⟨k,t,ms⟩=true) :
  im [.bool up,.list (rs.map Rec.e),.int .i64 f,.list (td.map Word.e),.int .i64 k,.int .i64 t,.list (ms.map eI)] =
   some (.bool (e9 ⟨up,⟨rs,f⟩,td⟩ ⟨k,t,ms⟩)::(bh ⟨up,⟨rs,f⟩,td⟩ ⟨k,t,ms⟩).e):=by
 rw[q_bv]
 have hlg:LgOk ⟨rs,f⟩:=hd.lg
 have hS:=hlg.S
 have hT:TrOk (aF ⟨rs,f⟩ false):=hd.trOk false
 have hTS:=hT.S
 have hml:=fO hr
 have hml':ms.length<=1099511627776:=by simp only at hml;omega
 have hto:eZ (aF ⟨rs,f⟩ false)=true:=tripsOk_iff.2 hT
 have hlo:gD ⟨rs,f⟩=true:=logOk_iff.2 hlg
 simp (disch:=first|assumption|omega|(simp only[zL];omega)) only[F_bv,jg,oU,wZ,hto,hr,hlo,Bool.true_and,Bool.and_self,if_true,bh,e9,aj,Int.reduceEq,reduceIte,zU,zT,aa]
 cases up with
 | false=>simp[Desk.e]
 | true =>
  simp only[ax,Bool.true_and]
  cases cG (aF ⟨rs,f⟩ false) ⟨k,t,ms⟩with
  | false=>simp[Desk.e]
  | true=>simp[Desk.e,AW]
theorem Ft(hL:td.length<=1099511627776){r:List (List C)}:rF [.bool up,.list r,.int .i64 f,.list (td.map Word.e),.int .i64 k,.int .i64 h,.int .i64 t]=some [.bool (td.contains ⟨k,h,t,0⟩)]:=by
 rw[q_cu];simp (disch:=first|assumption|omega|(simp only[zL];omega)) only[F_cu,kj,Int.reduceEq,reduceIte,zU,zT,aa]
theorem Hn(hL:td.length<=1099511627776)(hm:ms.length<=1000)(hn:∀ n∈ms,0<=n){r:List (List C)} :
  ot [.bool up,.list r,.int .i64 f,.list (td.map Word.e),.int .i64 k,.int .i64 t,.list (ms.map eI)]=some [.bool (bl td t k 1 ms),.bool (aD td t k 1 ms)]:=by
 rw[q_bx];unfold F_bx
 simp only[List.length_map]
 have key:=am (l:=ms) (F:=fun ps=>uK up r f (td.map Word.e) k t (ms.map eI) ((ms.length:Nat):Int) ((aa ps 0).toBool) ((aa ps 1).toBool) ((aa ps 2).toInt)) (enc:=fun i (s:Bool×Bool)=>[.bool s.1,.bool s.2,.int .i64 i])
  (res:=fun xs i s=>.ret [.bool (s.1 || bl td t k ((i+1:Nat):Int) xs),.bool (s.2 && aD td t k ((i+1:Nat):Int) xs)]) (fun _ _=>True) (s:=(false,true)) trivial ?_ ?_
 ·have key:aq _ [C.bool false,C.bool true,C.int .i64 0]=_:=key
  rw[key];simp
 ·rintro i x xs ⟨a,b⟩ hx _
  have hi:=(List.getElem?_eq_some_iff.1 hx).1
  have hi':(i:Int)<(ms.length:Nat):=by omega
  have hx0:=hn x (List.mem_of_getElem? hx)
  have e1:((i+1:Nat):Int)+1=((i+1+1:Nat):Int):=by omega
  simp (disch:=first|assumption|omega|(simp only[zL];omega)) only[uK,iP hx,eI,ap,hi',if_true,Ft,Int.reduceEq,reduceIte,zU,zT,aa]
  by_cases h0:x=0
  ·have h0':¬ x>0:=by omega
   simp only[h0,if_true]
   refine .inl ⟨(a,b),?_,trivial,?_⟩
   ·rfl
   ·simp only[bl,aD,e1];simp
  ·have h0':x>0:=by omega
   simp only[h0,if_false]
   generalize hc:td.contains ⟨k,((i+1:Nat):Int),t,0⟩=c
   refine .inl ⟨(a || c,b && c),?_,trivial,?_⟩
   ·cases a<;>cases b<;>simp
   ·simp only[bl,aD,e1,hc,h0',decide_true,Bool.true_and,Bool.not_true,Bool.false_or]
    cases a<;>cases b<;>cases c<;>simp
 ·rintro⟨a,b⟩ _
  have h:¬ ((ms.length:Int)<(ms.length:Nat)):=by omega
  simp (disch:=first|assumption|omega|(simp only[zL];omega)) only[uK,h,if_false,Int.reduceEq,reduceIte,zU,zT,aa]
  simp[bl,aD]
def Fu(d:Desk)(t K:Int):Desk:=if K>0 then bh d ⟨K,t,[]⟩ else d
theorem zx(d:Desk)(t:Int):dA d t=Fu d t (nN (tAt (aj d false) t).s (nD d t) d.td t (tAt (aj d false) t).m):=rfl
theorem aQ(Φ:Phi)(f:Nat)(args:List Cell)(ks:List CK)(t:Tree)(env:List C):den Φ (.call f args ks t) env=ac (Φ f (aN env args)) ks fun r=>den Φ t (env++r):=by rw[den]
theorem w4(hd:DkOk ⟨up,⟨rs,f⟩,td⟩)(h1:1<=t)(h2:t<=(aF ⟨rs,f⟩ false).length) :
  uL [.bool up,.list (rs.map Rec.e),.int .i64 f,.list (td.map Word.e),.int .i64 t]=some (dA ⟨up,⟨rs,f⟩,td⟩ t).e:=by
 have hlg:LgOk ⟨rs,f⟩:=hd.lg
 have hS:=hlg.S
 have tA:TrOk (aF ⟨rs,f⟩ false):=hd.trOk false
 have tF:TrOk (aF ⟨rs,f⟩ true):=hd.trOk true
 have lA:=tA.len
 have lF:=tF.len
 have hx:=tripOk_iff.1 (tA.ok _ (gx (t:=t) (by omega)))
 have hml:=bP hx.1
 have hml':(tAt (aF ⟨rs,f⟩ false) t).m.length<=1000:=by omega
 have hn:∀ n∈(tAt (aF ⟨rs,f⟩ false) t).m,0<=n:=fun n hn=>(ip hx.1 hn).1
 have htd:td.length<=1099511627776:=by have:=hd.tdlen;simp only at this;omega
 have w5:=lS hd (k:=5) (t:=t) (ms:=[]) (by simp[aH,in_iff];omega)
 have w6:=lS hd (k:=6) (t:=t) (ms:=[]) (by simp[aH,in_iff];omega)
 have w7:=lS hd (k:=7) (t:=t) (ms:=[]) (by simp[aH,in_iff];omega)
 simp only[List.map_nil,Desk.e]at w5 w6 w7
 unfold uL t_bl
 simp (disch:=first|assumption|omega|(simp only[zL];omega)) only[den,GF,aN,Cell.den,At.den,jg,Ex,Hn,sE,Fp,wrap64,Trip.e,Prim.den,List.cons_append,Int.reduceEq,reduceIte,zT,aa]
 rw[zx]
 have hsure:((if in_ t 1 ((aF ⟨rs,f⟩ true).length:Nat)=true then(tAt (aF ⟨rs,f⟩ true) t).s else 0)==(tAt (aF ⟨rs,f⟩ false) t).s)=nD ⟨up,⟨rs,f⟩,td⟩ t:=by
  have hs1:=hx.2.1
  unfold nD aj
  by_cases h:t<=((aF ⟨rs,f⟩ true).length:Nat)
  ·have hi:in_ t 1 ((aF ⟨rs,f⟩ true).length:Nat)=true:=in_iff.2 ⟨h1,h⟩
   simp[hi,h]
  ·have hi:in_ t 1 ((aF ⟨rs,f⟩ true).length:Nat)=false:=in_false.2 (by omega)
   simp[hi,h];omega
 simp only[hsure]
 dsimp only[aj]
 have hs:=hx.2
 generalize nD ⟨up,⟨rs,f⟩,td⟩ t=b
 generalize (tAt (aF ⟨rs,f⟩ false) t).s=s at hs ⊢
 generalize (tAt (aF ⟨rs,f⟩ false) t).m=m
 unfold nN
 generalize bl td t 5 1 m=a5
 generalize aD td t 4 1 m=a4
 generalize aD td t 6 1 m=a6
 generalize aD td t 7 1 m=a7
 rcases (by omega:s=1\/s=2\/s=3\/s=4\/s=5)with e|e|e|e|e<;>subst e
 ·cases a5<;>cases a4<;>simp[c9,CK.of,aa,w5,w6,w7,bA,lv,Fu,Desk.e]
 ·cases b<;>cases a6<;>simp[c9,CK.of,aa,w5,w6,w7,bA,lv,Fu,Desk.e]
 ·cases b<;>cases a7<;>simp[c9,CK.of,aa,w5,w6,w7,bA,lv,Fu,Desk.e]
 ·simp[c9,CK.of,aa,bA,Fu,Desk.e]
 ·simp[c9,CK.of,aa,bA,Fu,Desk.e]
end
end Dx
namespace Dx
open Go
section
variable {up b:Bool} {rs:List Rec} {f:Int} {td:List Word} {k h t m keep:Int} {ms:List Int} {id room:Int}
theorem Fv(hd:DkOk ⟨up,⟨rs,f⟩,td⟩) :
  nt [.bool up,.list (rs.map Rec.e),.int .i64 f,.list (td.map Word.e),.int .i64 k,.int .i64 h,.int .i64 t,.int .i64 m]=some (dU ⟨up,⟨rs,f⟩,td⟩ ⟨k,h,t,m⟩).e:=by
 rw[q_db]
 have hlg:LgOk ⟨rs,f⟩:=hd.lg
 have hS:=hlg.S
 have htd:td.length<=72:=hd.tdlen
 unfold dU
 simp (disch:=first|assumption|omega|(simp only[zL];omega)) only[F_db,gV,jf,jg,kj,Int.reduceEq,reduceIte,zU,zT,aa]
 have nh:c7 ⟨up,⟨rs,f⟩,td⟩ ⟨k,h,t,m⟩=false->(if c7 ⟨up,⟨rs,f⟩,td⟩ ⟨k,h,t,m⟩=true then dA (b9 ⟨up,⟨rs,f⟩,td⟩ ⟨k,h,t,m⟩) t else⟨up,⟨rs,f⟩,td⟩)=⟨up,⟨rs,f⟩,td⟩:=fun e=>by rw[e];rfl
 cases up with
 | false=>rw[nh rfl];rfl
 | true =>
  cases hw:bJ ⟨k,h,t,m⟩with
  | false=>rw[nh (by simp[c7,hw])];rfl
  | true =>
   have wt:=(wordOk_iff.1 hw).t
   simp only at wt
   simp only[ax,mp]
   by_cases h4:k>=4
   ·by_cases ht:t>((aF ⟨rs,f⟩ false).length:Nat)
    ·rw[nh (by rw[gL,hw];simp only[Bool.true_and];rw[Bool.and_eq_false_iff];right;exact decide_eq_false (by omega))]
     simp only[h4,ht,if_true,if_false];rfl
    ·have c1:c7 ⟨true,⟨rs,f⟩,td⟩ ⟨k,h,t,m⟩=true:=by rw[gL,hw];simp only[Bool.true_and];rw[Bool.and_eq_true];exact⟨decide_eq_true (by omega),decide_eq_true (by omega)⟩
     rw[if_pos c1]
     simp only[h4,ht,if_false,if_true,b9]
     cases hc:td.contains ⟨k,h,t,m⟩with
     | true =>
      simp (disch:=first|assumption|omega|(simp only[zL];omega)) only[w4,Desk.e,ax,ar,aE,t8,aa,C.toInt_int,C.toBool_bool,C.toList_list,if_true]
     | false =>
      have hd2:DkOk ⟨true,⟨rs,f⟩,td++[⟨k,h,t,m⟩]⟩:=by
       have:=hd.tell (w:=⟨k,h,t,m⟩) c1
       unfold b9 at this
       rw[if_neg (by rw[hc];simp)]at this
       exact this
      have e1:(td.map Word.e)++[[C.int .i64 k,C.int .i64 h,C.int .i64 t,C.int .i64 m]]=(td++[(⟨k,h,t,m⟩:Word)]).map Word.e:=by simp[Word.e]
      have hd3:=w4 hd2 wt.1 (show t<=((aF ⟨rs,f⟩ false).length:Nat) by omega)
      simp only[ar,ax,e1,hd3]
      simp (disch:=first|assumption|omega|(simp only[zL];omega)) only[Desk.e,Bool.false_eq_true,if_false,Int.reduceEq,reduceIte,zU,zT,aa]
   ·rw[nh (by rw[gL,hw];simp[h4])]
    simp only[h4,if_false];rfl
theorem sH(hl:LgOk ⟨rs,f⟩):rL [.list (rs.map Rec.e),.int .i64 f,.int .i64 keep]=some (gF ⟨rs,f⟩ keep).e:=by
 rw[q_fm]
 have hS:=hl.S
 have h1:=hl.lo
 have h2:=hl.hi
 have h3:=hl.len
 have hk:=hl.keep keep
 simp only at h1 h2 h3 hk
 have hlo:=logOk_iff.2 hl
 have e1:f+(if(0:Int)>(if((rs.length:Nat):Int)-f<keep then((rs.length:Nat):Int)-f else keep) then 0 else(if((rs.length:Nat):Int)-f<keep then((rs.length:Nat):Int)-f else keep))=fM ⟨rs,f⟩ keep:=by
  unfold fM
  simp only[Int.min_def]
  split<;>split<;>split<;>(try split)<;>omega
 have w1:IntKind.wrap .i64 (((rs.length:Nat):Int)-f)=((rs.length:Nat):Int)-f:=wrap64 (by omega) (by omega)
 simp (disch:=first|assumption|omega|(simp only[zL];omega)) only[F_fm,lR,hlo,Int.reduceEq,reduceIte,zU,zT,aa]
 rw[w1,wrap64 (by rw[e1];omega) (by rw[e1];omega),e1,ue hS (by omega) (by omega)]
 simp only[Ks,aa,C.toInt_int,C.toList_list,aE]
 rfl
theorem zy(hd:DkOk ⟨up,⟨rs,f⟩,td⟩) :
  yw [.bool up,.list (rs.map Rec.e),.int .i64 f,.list (td.map Word.e),.int .i64 keep]=some (dfall ⟨up,⟨rs,f⟩,td⟩ keep).e:=by
 rw[q_ed]
 have hS:=hd.S
 have ho:=deskOk_iff.2 hd
 have hlg:LgOk ⟨rs,f⟩:=hd.lg
 simp (disch:=first|assumption|omega|(simp only[zL];omega)) only[F_ed,fb,ho,sH hlg,Log.e,Int.reduceEq,reduceIte,zU,zT,aa]
 rfl
theorem oV(hl:LgOk ⟨rs,f⟩):rJ [.list (rs.map Rec.e),.int .i64 f]=some (gp ⟨rs,f⟩).e:=by
 rw[q_di]
 have hS:=hl.S
 have hlo:=logOk_iff.2 hl
 have hf:=ue hS (many:=((rs.length:Nat):Int)) (forced:=((rs.length:Nat):Int)) (by omega) (by omega)
 simp only[Int.toNat_natCast,List.take_length]at hf
 simp (disch:=first|assumption|omega|(simp only[zL];omega)) only[F_di,lR,hlo,hf,Int.reduceEq,reduceIte,zU,zT,aa]
 rfl
theorem wi(hd:DkOk ⟨up,⟨rs,f⟩,td⟩):yu [.bool up,.list (rs.map Rec.e),.int .i64 f,.list (td.map Word.e)]=some (bq ⟨up,⟨rs,f⟩,td⟩).e:=by
 rw[q_cq]
 have hS:=hd.S
 have ho:=deskOk_iff.2 hd
 have hlg:LgOk ⟨rs,f⟩:=hd.lg
 simp (disch:=first|assumption|omega|(simp only[zL];omega)) only[F_cq,fb,ho,dY,oV hlg,Log.e,Desk.e,Int.reduceEq,reduceIte,zU,zT,aa]
 cases up<;>rfl
theorem zz(hd:DkOk ⟨up,⟨rs,f⟩,td⟩):yB [.bool up,.list (rs.map Rec.e),.int .i64 f,.list (td.map Word.e)]=some (ev ⟨up,⟨rs,f⟩,td⟩).e:=by
 rw[q_dj]
 have hS:=hd.S
 have ho:=deskOk_iff.2 hd
 simp (disch:=first|assumption|omega|(simp only[zL];omega)) only[F_dj,fb,ho,dY,Desk.e,Int.reduceEq,reduceIte,zU,zT,aa]
 rfl
theorem wj(hs:DkS ⟨up,⟨rs,f⟩,td⟩)(hm:ms.length<=1099511627776) :
  yh [.bool up,.list (rs.map Rec.e),.int .i64 f,.list (td.map Word.e),.list (ms.map eI)] =
   some (if fq ⟨up,⟨rs,f⟩,td⟩ && aH (fN ⟨up,⟨rs,f⟩,td⟩ ms) then(bh ⟨up,⟨rs,f⟩,td⟩ (fN ⟨up,⟨rs,f⟩,td⟩ ms)).e++[.bool (e9 ⟨up,⟨rs,f⟩,td⟩ (fN ⟨up,⟨rs,f⟩,td⟩ ms))] else dz.e++[.bool false]):=by
 rw[q_ct]
 cases ho:fq ⟨up,⟨rs,f⟩,td⟩with
 | false=>simp (disch:=first|assumption|omega|(simp only[zL];omega)) only[F_ct,fb,ho,Int.reduceEq,reduceIte,zU,zT,aa];simp[Desk.e,dz]
 | true =>
  have hd:=deskOk_iff.1 ho
  have hlg:LgOk ⟨rs,f⟩:=hd.lg
  have hS:=hlg.S
  have hT:TrOk (aF ⟨rs,f⟩ false):=hd.trOk false
  have hl:=hT.len
  have eR:fN ⟨up,⟨rs,f⟩,td⟩ ms=⟨4,((aF ⟨rs,f⟩ false).length:Nat)+1,ms⟩:=rfl
  rw[eR]
  simp (disch:=first|assumption|omega|(simp only[zL];omega)) only[F_ct,fb,ho,dY,Desk.e,jg,wrap64,lQ,Bool.true_and,Int.reduceEq,reduceIte,zU,zT,aa]
  rcases Bool.eq_false_or_eq_true (aH ⟨4,((aF ⟨rs,f⟩ false).length:Nat)+1,ms⟩)with hr|hr
  ·simp (disch:=first|assumption|omega|(simp only[zL];omega)) only[hr,lS,Desk.e,if_true,Int.reduceEq,reduceIte,zU,zT,aa]
   simp
  ·simp[hr,dz]
theorem zA(hs:DkS ⟨up,⟨rs,f⟩,td⟩) :
  yi [.bool up,.list (rs.map Rec.e),.int .i64 f,.list (td.map Word.e),.int .i64 t] =
   some (if fq ⟨up,⟨rs,f⟩,td⟩ && in_ t 1 6 then(bh ⟨up,⟨rs,f⟩,td⟩ ⟨6,t,[]⟩).e++[.bool (e9 ⟨up,⟨rs,f⟩,td⟩ ⟨6,t,[]⟩)] else dz.e++[.bool false]):=by
 rw[q_dz]
 cases ho:fq ⟨up,⟨rs,f⟩,td⟩with
 | false=>simp (disch:=first|assumption|omega|(simp only[zL];omega)) only[F_dz,fb,ho,Int.reduceEq,reduceIte,zU,zT,aa];simp[Desk.e,dz]
 | true =>
  have hd:=deskOk_iff.1 ho
  simp (disch:=first|assumption|omega|(simp only[zL];omega)) only[F_dz,fb,ho,lz,dY,Desk.e,Bool.true_and,Int.reduceEq,reduceIte,zU,zT,aa]
  cases ht:in_ t 1 6 with
  | false=>simp[dz]
  | true =>
   have hw:=lS hd (k:=6) (t:=t) (ms:=[]) (by simp[aH,in_iff,in_iff.1 ht])
   simp only[List.map_nil,Desk.e]at hw
   simp (disch:=first|assumption|omega|(simp only[zL];omega)) only[hw,Int.reduceEq,reduceIte,zU,zT,aa]
   simp
theorem K9(s:Int):yk [.int .i64 m,.int .i64 s]=some [.bool (bi ⟨m,s⟩)]:=by
 rw[q_fc]
 simp (disch:=first|assumption|omega|(simp only[zL];omega)) only[F_fc,kh,bi,Int.reduceEq,reduceIte,zU,zT,aa]
 by_cases h0:s=0
 ·simp[h0]
 ·by_cases h1:s=1
  ·simp[h1]
  ·by_cases h2:s=2
   ·simp[h2]
   ·by_cases h3:s=3
    ·simp[h3]
    ·simp[h0,h1,h2,h3]
theorem AX{hs:List Hold}(hr:0<=room/\room<=9)(ho:∀ h∈hs,bi h=true)(hl:hs.length<=100) :
  nu [.int .i64 room,.list (hs.map Hold.e)]=some [.int .i64 (free ⟨room,hs⟩)]:=by
 rw[q_cj];unfold F_cj
 simp only[List.length_map]
 have key:=am (l:=hs) (F:=fun ps=>uM (hs.map Hold.e) ((hs.length:Nat):Int) ((aa ps 0).toInt) ((aa ps 1).toInt)) (enc:=fun i (s:Int)=>[.int .i64 s,.int .i64 i])
  (res:=fun xs _ s=>.ret [.int .i64 (s-(xs.map had).sum)]) (fun i s=>room-3*i<=s/\s<=room) (s:=room) (by simp) ?_ ?_
 ·have key:aq _ [C.int .i64 room,C.int .i64 0]=_:=key
  rw[key];rfl
 ·intro i x xs s hx ⟨h1,h2⟩
  have hi:=(List.getElem?_eq_some_iff.1 hx).1
  have hi':(i:Int)<(hs.length:Nat):=by omega
  have hm:=wS (ho x (List.mem_of_getElem? hx))
  simp (disch:=first|assumption|omega|(simp only[zL];omega)) only[uM,zr hx,Hold.e,ap,hi',if_true,wrap64,Int.reduceEq,reduceIte,zU,zT,aa]
  refine .inl ⟨s-had x,?_,by omega,by simp[Int.sub_sub]⟩
  unfold had
  by_cases e1:x.s=1
  ·simp[e1]
  ·by_cases e2:x.s=2<;>simp[e1,e2]
 ·intro s _
  have h:¬ ((hs.length:Int)<(hs.length:Nat)):=by omega
  simp (disch:=first|assumption|omega|(simp only[zL];omega)) only[uM,h,if_false,Int.reduceEq,reduceIte,zU,zT,aa]
  simp
theorem C6{hs:List Hold}(ho:StOk ⟨room,hs⟩):yo [.int .i64 room,.list (hs.map Hold.e)]=some [.bool true]:=by
 rw[q_ef]
 have hl:hs.length=6:=ho.len
 have hc:yn [.list (hs.map Hold.e)]=some [.bool (hs.any fun x=>!bi x)]:=by
  have hi:ym [.list (hs.map Hold.e)]=some [.int .i64 (nZ (fun x=>!bi x) 0 hs)]:=by
   rw[q_ah];unfold F_ah
   simp only[List.length_map]
   rw[iA (l:=hs) (fun x=>!bi x)]
   ·rfl
   ·intro i x hx
    have hi:=(List.getElem?_eq_some_iff.1 hx).1
    have hi':(i:Int)<(hs.length:Nat):=by omega
    have h1:yl [.int .i64 x.m,.int .i64 x.s]=some [.bool (!bi x)]:=by rw[q_dc];simp (disch:=first|assumption|omega|(simp only[zL];omega)) only[F_dc,K9,Int.reduceEq,reduceIte,zU,zT,aa]
    simp (disch:=first|assumption|omega|(simp only[zL];omega)) only[Az,zr hx,Hold.e,ap,hi',if_true,h1,Int.reduceEq,reduceIte,zU,zT,aa]
    cases bi x<;>rfl
   ·have h:¬ ((hs.length:Int)<(hs.length:Nat)):=by omega
    simp (disch:=first|assumption|omega|(simp only[zL];omega)) only[Az,h,if_false,Int.reduceEq,reduceIte,zU,zT,aa]
  rw[q_af];simp (disch:=first|assumption|omega|(simp only[zL];omega)) only[F_af,hi,fa,Bool.decide_eq_true,Int.reduceEq,reduceIte,zU,zT,aa]
 have e1:hs.any (fun x=>!bi x)=false:=by rw[List.any_eq_false];intro x hx;simp[ho.hold x hx]
 have e2:in_ room 0 9=true:=in_iff.2 ho.room
 have e3:((hs.length:Nat):Int)=6:=by omega
 have e4:free ⟨room,hs⟩>=0:=ho.free
 simp (disch:=first|assumption|omega|(simp only[zL];omega)) only[F_ef,kh,e2,e3,hc,e1,AX ho.room ho.hold (show hs.length<=100 by omega),e4,decide_true,if_true,Int.reduceEq,reduceIte,zU,zT,aa]
theorem zB:yj [.int .i64 room]=some ((if in_ room 0 9 then cq room else⟨0,[]⟩).e++[.bool (in_ room 0 9)]):=by
 rw[q_dm]
 simp (disch:=first|assumption|omega|(simp only[zL];omega)) only[F_dm,kh,Int.reduceEq,reduceIte,zU,zT,aa]
 cases in_ room 0 9<;>rfl
theorem oX{hs:List Hold}(ho:StOk ⟨room,hs⟩)(hL:ms.length<=1099511627776) :
  rG [.int .i64 room,.list (hs.map Hold.e),.int .i64 k,.int .i64 t,.list (ms.map eI)]=some [.bool (aH ⟨k,t,ms⟩ && may ⟨room,hs⟩ ⟨k,t,ms⟩)]:=by
 rw[q_dg]
 have hl:hs.length=6:=ho.len
 simp (disch:=first|assumption|omega|(simp only[zL];omega)) only[F_dg,C6 ho,lQ,Int.reduceEq,reduceIte,zU,zT,aa]
 cases hr:aH ⟨k,t,ms⟩with
 | false=>rfl
 | true =>
  have ht:=cS hr
  simp only at ht
  simp (disch:=first|assumption|omega|(simp only[zL];omega)) only[wrap64,DZ,Hold.e,may,fv,AX ho.room ho.hold (show hs.length<=100 by omega),Bool.true_and,Int.reduceEq,reduceIte,zU,zT,aa]
  by_cases h1:k=1
  ·obtain⟨n,e,_⟩:=ez hr h1
   simp only at e;subst e
   simp only[h1,if_true,Hk,eI,Int.reduceEq,reduceIte,zU,zT,aa]
   by_cases h0:(hAt hs t).s=0<;>simp[h0,aE]
  ·by_cases h2:k=2
   ·simp[h2,aE]
   ·by_cases h3:k=3
    ·by_cases h0:(hAt hs t).s=1<;>simp[h3,h0,aE]
    ·simp[h1,h2,h3,aE]
theorem Ho(m:List Hold):(m.map Hold.e).all (ah [.int .i64,.int .i64])=true:=by simp[List.all_map,Hold.e,ah,ej,ef,Function.comp_def]
theorem Ey{hs:List Hold}(hL:hs.length<=1099511627776):yp [.list (hs.map Hold.e)]=some [.list (hs.map Hold.e)]:=by
 rw[q_as]
 cases hs with
 | nil=>simp[F_as,cp,cd,cD]
 | cons a l =>
  have:((a::l).map Hold.e).isEmpty=false:=rfl
  simp only[F_as,this,ar,List.nil_append,Ho,dq]
  rw[cd (by simp[cD]at *;omega)]
  rfl
theorem C7{hs:List Hold}(ho:StOk ⟨room,hs⟩)(hL:ms.length<=1099511627776) :
  yq [.int .i64 room,.list (hs.map Hold.e),.int .i64 k,.int .i64 t,.list (ms.map eI)] =
   some (if aH ⟨k,t,ms⟩ && may ⟨room,hs⟩ ⟨k,t,ms⟩ then(act ⟨room,hs⟩ ⟨k,t,ms⟩).e++[.bool true] else [.int .i64 0,.list [],.bool false]):=by
 rw[q_eq]
 have hl:hs.length=6:=ho.len
 have hl':hs.length<=1099511627776:=by omega
 simp (disch:=first|assumption|omega|(simp only[zL];omega)) only[F_eq,oX ho hL,Ey hl',Int.reduceEq,reduceIte,zU,zT,aa]
 cases hr:aH ⟨k,t,ms⟩with
 | false=>simp
 | true =>
  cases hm:may ⟨room,hs⟩ ⟨k,t,ms⟩with
  | false=>simp
  | true =>
   have ht:=cS hr
   simp only at ht
   have hx:=ud (l:=hs) ht.1 (by omega)
   have st:∀ a b:Int,setRow 0 (hs.map Hold.e) (t-1).toNat [C.int .i64 a,C.int .i64 b]=(hs.set (t-1).toNat ⟨a,b⟩).map Hold.e:=fun a b=>dJ hx rfl
   have st1:∀ a:Int,setRow 1 (hs.map Hold.e) (t-1).toNat [C.int .i64 a]=(hs.set (t-1).toNat ⟨(hAt hs t).m,a⟩).map Hold.e:=fun a=>dJ hx rfl
   simp (disch:=first|assumption|omega|(simp only[zL];omega)) only[Fi,wrap64,act,jc,st,st1,Bool.and_self,if_true,Int.reduceEq,reduceIte,zU,zT,aa]
   by_cases h1:k=1
   ·obtain⟨n,e,_⟩:=ez hr h1
    simp only at e;subst e
    simp only[h1,if_true,Hk,eI,Int.reduceEq,reduceIte,zU,zT,aa]
    simp[Stock.e,st]
   ·by_cases h2:k=2
    ·simp[h2,Stock.e]
    ·by_cases h3:k=3
     ·simp[h3,Stock.e]
     ·exfalso;simp[may,h1,h2,h3]at hm
theorem sJ(hL:rs.length<=2000000)(hm:∀ r∈rs,r.m.length<=1099511627776) :
  rH [.int .i64 room,.list (rs.map Rec.e)]=some (((co room rs).getD ⟨0,[]⟩).e++[.bool (co room rs).isSome]):=by
 rw[q_eh]
 simp (disch:=first|assumption|omega|(simp only[zL];omega)) only[F_eh,zB,Stock.e,List.cons_append,Int.reduceEq,reduceIte,zU,zT,aa]
 have key:=am (l:=rs) (F:=fun ps=>qy (rs.map Rec.e) ((aa ps 0).toBool) ((aa ps 1).toInt) ((aa ps 2).toInt) ((aa ps 3).toList)) (enc:=fun i (s:Option Stock)=>[.bool s.isSome,.int .i64 i,.int .i64 (s.getD ⟨0,[]⟩).room,.list ((s.getD ⟨0,[]⟩).hs.map Hold.e)])
  (res:=fun xs _ s=>match s with
   | some l=>.ret (((bX xs l).getD ⟨0,[]⟩).e++[.bool (bX xs l).isSome])
   | none=>.ret ((⟨0,[]⟩:Stock).e++[.bool false])) (fun _ s=>∀ l,s=some l->StOk l) (s:=if in_ room 0 9 then some (cq room) else none)
   (fun l e=>by
    cases hr:in_ room 0 9 with
    | false=>simp[hr]at e
    | true=>simp only[hr,if_true,Option.some.injEq]at e;rw[<-e];exact fZ (in_iff.1 hr)) ?_ ?_
 ·cases hr:in_ room 0 9 with
  | false =>
   simp only[hr,Bool.false_eq_true,if_false]at key
   have key:aq _ [C.bool false,C.int .i64 0,C.int .i64 0,C.list []]=_:=key
   simp only[Bool.false_eq_true,if_false,List.map_nil]
   rw[key];simp[co,hr,Stock.e]
  | true =>
   simp only[hr,if_true]at key
   have key:aq _ [C.bool true,C.int .i64 0,C.int .i64 (cq room).room,C.list ((cq room).hs.map Hold.e)]=_:=key
   simp only[if_true]
   rw[key];simp[co,hr,Stock.e]
 ·intro i x xs s hx hs
  have hi:=(List.getElem?_eq_some_iff.1 hx).1
  have hi':(i:Int)<(rs.length:Nat):=by omega
  have hxm:=hm x (List.mem_of_getElem? hx)
  cases s with
  | none=>exact .inr ⟨_,rfl,rfl⟩
  | some l =>
   have hT:=hs l rfl
   have hT':StOk ⟨l.room,l.hs⟩:=hT
   simp (disch:=first|assumption|omega|(simp only[zL];omega)) only[qy,Option.isSome_some,Option.getD_some,oL hx,Rec.e,hi',if_true,C7 hT' hxm,Int.reduceEq,reduceIte,zU,zT,aa]
   rcases Bool.eq_false_or_eq_true (aH x && may l x)with h|h
   ·simp only[h,if_true]
    refine .inl ⟨some (act l x),?_,fun l' e=>?_,by simp[bX,h]⟩
    ·simp (disch:=first|assumption|omega|(simp only[zL];omega)) only[ap,Option.isSome_some,Option.getD_some,Stock.e,List.cons_append,Int.reduceEq,reduceIte,zU,zT,aa]
    ·simp only[Option.some.injEq]at e;rw[<-e]
     simp only[Bool.and_eq_true]at h
     exact qL hT h.1 h.2
   ·simp only[h,Bool.false_eq_true,if_false]
    refine .inl ⟨none,?_,?_,?_⟩
    ·simp (disch:=first|assumption|omega|(simp only[zL];omega)) only[ap,Option.isSome_none,Option.getD_none,Int.reduceEq,reduceIte,zU,zT,aa]
     try simp
    ·intro l' e;cases e
    ·simp[bX,h]
 ·intro s hs
  have h:¬ ((rs.length:Int)<(rs.length:Nat)):=by omega
  cases s with
  | none=>simp[qy,aa,Stock.e]
  | some l=>simp[qy,aa,aT,bX,Stock.e]
end
end Dx
namespace Dx
open Go
def hz:House:=⟨0,false,0,⟨[],0⟩⟩
section
variable {up b:Bool} {rs:List Rec} {f:Int} {td:List Word} {k h t m keep:Int} {ms:List Int} {id room:Int} {hs:List House} {ns:List Word}
theorem gM(hl:LgS ⟨rs,f⟩):iL [.int .i64 id,.bool up,.int .i64 room,.list (rs.map Rec.e),.int .i64 f]=some [.bool (dQ ⟨id,up,room,⟨rs,f⟩⟩)]:=by
 rw[q_ev]
 simp (disch:=first|assumption|omega|(simp only[zL];omega)) only[F_ev,dw,lR,sJ hl.l hl.m,Stock.e,List.cons_append,dQ,Int.reduceEq,reduceIte,zU,zT,aa]
 cases in_ id 1 3<;>cases gD ⟨rs,f⟩<;>simp
theorem eD(hl:LgS ⟨rs,f⟩):jV [.int .i64 id,.bool up,.int .i64 room,.list (rs.map Rec.e),.int .i64 f]=some (House.e ⟨id,up,room,⟨rs,f⟩⟩):=by
 rw[q_bf]
 simp (disch:=first|assumption|omega|(simp only[zL];omega)) only[F_bf,i7,Int.reduceEq,reduceIte,zU,zT,aa]
 rfl
theorem oY(hl:LgOk ⟨rs,f⟩):jo [.int .i64 id,.bool up,.int .i64 room,.list (rs.map Rec.e),.int .i64 f,.bool b]=some (al ⟨id,up,room,⟨rs,f⟩⟩ b).e:=by
 rw[q_bp]
 have hs:=hl.S
 have h1:(aW ⟨rs,f⟩ b).length<=2000000:=by have:=hs.l;unfold aW;split<;>simp<;>omega
 have h2:∀ r∈aW ⟨rs,f⟩ b,r.m.length<=1099511627776:=fun r hr=>hs.2 r (by unfold aW at hr;split at hr;exact List.mem_of_mem_take hr;exact hr)
 simp (disch:=first|assumption|omega|(simp only[zL];omega)) only[F_bp,BJ (fun _=>⟨hl.lo,hl.hi⟩),sJ h1 h2,Stock.e,List.cons_append,al,Int.reduceEq,reduceIte,zU,zT,aa]
def Ku(w:Word)(all forced:Int):Int:=if w.k=1/\all=0 then 5 else(oW (answer 0 w forced)).k
theorem zC(ho:HsOk ⟨id,up,room,⟨rs,f⟩⟩)(ht:1<=t/\t<=6) :
  yr [.int .i64 id,.bool up,.int .i64 room,.list (rs.map Rec.e),.int .i64 f,.int .i64 k,.int .i64 h,.int .i64 t,.int .i64 m] =
   some [.int .i64 (Ku ⟨k,h,t,m⟩ (fv (al ⟨id,up,room,⟨rs,f⟩⟩ false) t) (fv (al ⟨id,up,room,⟨rs,f⟩⟩ true) t))]:=by
 rw[q_ax]
 have hlg:LgOk ⟨rs,f⟩:=ho.lg
 have lA:=(ho.stOk false).len
 have lF:=(ho.stOk true).len
 have j0:∀(st:Int) (c:Bool),ai (AA k st c)=some [.int .i64 (if c then 4 else if k=1/\st=3 then 5 else if k=2/\st=2 then 6 else if k=3/\st=3 then 7 else 0)]:=by
  intro st c
  unfold AA
  cases c with
  | true=>rfl
  | false =>
   simp only[ar,bA,Bool.false_eq_true,if_false]
   by_cases h1:k=1
   ·by_cases h3:st=3<;>simp[h1,h3]
   ·by_cases h2:k=2
    ·by_cases h3:st=2<;>simp[h2,h3]
    ·by_cases h3:k=3
     ·by_cases h4:st=3<;>simp[h3,h4]
     ·simp[h1,h2,h3]
 have j1:∀(st:Int) (c:Bool),ai (AB k st c)=some [.int .i64 (if c then 5 else if k=1/\(st=1\/st=2) then 4 else if k=1/\st=3 then 5 else if k=2/\st=2 then 6 else if k=3/\st=3 then 7 else 0)]:=by
  intro st c
  unfold AB
  cases c with
  | true=>rfl
  | false =>
   simp only[ar,bA,Bool.false_eq_true,if_false]
   by_cases h1:k=1
   ·by_cases h3:st=1
    ·simp[h1,h3,aa];rw[<-h1,j0];simp
    ·simp[h1,h3,aa];rw[<-h1,j0];simp[h1]
   ·simp only[h1,if_false,br,aa,C.toBool_bool];rw[j0];simp[h1]
 simp (disch:=first|assumption|omega|(simp only[zL];omega)) only[F_ax,oY hlg,Stock.e,DZ,wrap64,Hold.e,fv,Int.reduceEq,reduceIte,zT,aa]
 simp only[bA]
 by_cases h1:k=1
 ·simp only[h1,if_true,br,aa,C.toBool_bool]
  rw[<-h1,j1]
  unfold Ku answer oW
  by_cases h0:(hAt (al ⟨id,up,room,⟨rs,f⟩⟩ false).hs t).s=0
  ·simp[h1,h0]
  ·generalize (hAt (al ⟨id,up,room,⟨rs,f⟩⟩ true).hs t).s=st
   by_cases s1:st=1
   ·simp[h1,h0,s1]
   ·by_cases s2:st=2
    ·simp[h1,h0,s2]
    ·by_cases s3:st=3<;>simp[h1,h0,s1,s2,s3]
 ·simp only[h1,if_false,br,aa,C.toBool_bool]
  rw[j1]
  unfold Ku answer oW
  generalize (hAt (al ⟨id,up,room,⟨rs,f⟩⟩ true).hs t).s=st
  by_cases h2:k=2
  ·by_cases s2:st=2<;>simp[h2,s2]
  ·by_cases h3:k=3
   ·by_cases s3:st=3<;>simp[h3,s3]
   ·simp[h1,h2,h3]
theorem Fw{id:Int}{w:Word}{st:Int}:(oW (answer 0 w st)).k=0↔answer id w st=none:=by
 unfold answer oW
 split
 ·simp
 ·split
  ·simp
  ·split
   ·simp
   ·split<;>simp
theorem La{id:Int}{w x:Word}{st:Int}(h:answer id w st=some x):x=⟨(oW (answer 0 w st)).k,id,w.t,0⟩:=by
 unfold answer oW at *
 split at h
 ·rename_i c;simp only[Option.some.injEq]at h;subst h;simp[c]
 ·rename_i c1
  split at h
  ·rename_i c;simp only[Option.some.injEq]at h;subst h;simp[c]
  ·rename_i c2
   split at h
   ·rename_i c;simp only[Option.some.injEq]at h;subst h;simp[c]
   ·rename_i c3
    split at h
    ·rename_i c;simp only[Option.some.injEq]at h;subst h;simp[c]
    ·cases h
theorem wl(ho:HsOk ⟨id,up,room,⟨rs,f⟩⟩) :
  rI [.int .i64 id,.bool up,.int .i64 room,.list (rs.map Rec.e),.int .i64 f,.int .i64 k,.int .i64 h,.int .i64 t,.int .i64 m] =
   some ((cu ⟨id,up,room,⟨rs,f⟩⟩ ⟨k,h,t,m⟩).1.e++((oW (cu ⟨id,up,room,⟨rs,f⟩⟩ ⟨k,h,t,m⟩).2).e++[.bool (cu ⟨id,up,room,⟨rs,f⟩⟩ ⟨k,h,t,m⟩).2.isSome])):=by
 rw[q_cl]
 have hlg:LgOk ⟨rs,f⟩:=ho.lg
 have hS:=hlg.S
 have hok:dQ ⟨id,up,room,⟨rs,f⟩⟩=true:=houseOk_iff.2 ho
 have hlo:gD ⟨rs,f⟩=true:=logOk_iff.2 hlg
 simp (disch:=first|assumption|omega|(simp only[zL];omega)) only[F_cl,gM,hok,eD,House.e,gV,jf,cu,Int.reduceEq,reduceIte,zU,zT,aa]
 cases up with
 | false=>rfl
 | true =>
  cases hw:bJ ⟨k,h,t,m⟩with
  | false=>rfl
  | true =>
   have wok:=wordOk_iff.1 hw
   have wt:=wok.t
   have wk:=wok.k
   simp only at wt wk
   simp only[ax,Bool.not_true,Bool.false_or]
   by_cases h4:k>=4
   ·have h3:k>3:=by omega
    simp[h4,h3,House.e,oW,Word.e]
   ·have h3:¬ k>3:=by omega
    by_cases e1:h=id
    ·subst e1
     have hms:(if k=1 then nL k h t m h true room (rs.map Rec.e) f [[C.int .i64 m]] else nL k h t m h true room (rs.map Rec.e) f [])=nL k h t m h true room (rs.map Rec.e) f ((bE ⟨k,h,t,m⟩).m.map eI):=by
      by_cases h1:k=1
      ·simp[h1,bE,eI]
      ·by_cases h2:k=2<;>simp[h1,h2,bE]
     have hr:=cU wok
     have er:bE ⟨k,h,t,m⟩=⟨k,t,(bE ⟨k,h,t,m⟩).m⟩:=by
      by_cases h1:k=1
      ·simp[h1,bE]
      ·by_cases h2:k=2
       ·simp[h2,bE]
       ·have:k=3:=by omega
        simp[this,bE]
     have sA:=ho.stOk false
     have sA':StOk ⟨(al ⟨h,true,room,⟨rs,f⟩⟩ false).room,(al ⟨h,true,room,⟨rs,f⟩⟩ false).hs⟩:=sA
     have hml:=fO hr
     have hml':(bE ⟨k,h,t,m⟩).m.length<=1099511627776:=by omega
     have hmay:=oX (k:=k) (t:=t) sA' hml'
     have hadd:=wZ (k:=k) (t:=t) hS hml'
     rw[<-er]at hmay hadd
     simp only[Fo,hr,hlo,Bool.true_and,Bool.and_self,if_true]at hmay hadd
     have hans:=zC (k:=k) (h:=h) (m:=m) ho wt
     have hj:ai (nL k h t m h true room (rs.map Rec.e) f ((bE ⟨k,h,t,m⟩).m.map eI))=some ((if may (al ⟨h,true,room,⟨rs,f⟩⟩ false) (bE ⟨k,h,t,m⟩)=true then((⟨h,true,room,dW ⟨rs,f⟩ (bE ⟨k,h,t,m⟩)⟩:House),(none:Option Word))
       else if k=1/\fv (al ⟨h,true,room,⟨rs,f⟩⟩ false) t=0 then(⟨h,true,room,⟨rs,f⟩⟩,some ⟨5,h,t,0⟩)
       else(⟨h,true,room,⟨rs,f⟩⟩,answer h ⟨k,h,t,m⟩ (fv (al ⟨h,true,room,⟨rs,f⟩⟩ true) t))).1.e++((oW (if may (al ⟨h,true,room,⟨rs,f⟩⟩ false) (bE ⟨k,h,t,m⟩)=true then((⟨h,true,room,dW ⟨rs,f⟩ (bE ⟨k,h,t,m⟩)⟩:House),(none:Option Word))
       else if k=1/\fv (al ⟨h,true,room,⟨rs,f⟩⟩ false) t=0 then(⟨h,true,room,⟨rs,f⟩⟩,some ⟨5,h,t,0⟩)
       else(⟨h,true,room,⟨rs,f⟩⟩,answer h ⟨k,h,t,m⟩ (fv (al ⟨h,true,room,⟨rs,f⟩⟩ true) t))).2).e++[.bool (if may (al ⟨h,true,room,⟨rs,f⟩⟩ false) (bE ⟨k,h,t,m⟩)=true then((⟨h,true,room,dW ⟨rs,f⟩ (bE ⟨k,h,t,m⟩)⟩:House),(none:Option Word))
       else if k=1/\fv (al ⟨h,true,room,⟨rs,f⟩⟩ false) t=0 then(⟨h,true,room,⟨rs,f⟩⟩,some ⟨5,h,t,0⟩)
       else(⟨h,true,room,⟨rs,f⟩⟩,answer h ⟨k,h,t,m⟩ (fv (al ⟨h,true,room,⟨rs,f⟩⟩ true) t))).2.isSome])):=by
      unfold nL
      simp (disch:=first|assumption|omega|(simp only[zL];omega)) only[oY hlg,Stock.e,hmay,hadd,hans,Int.reduceEq,reduceIte,zT,aa]
      cases may (al ⟨h,true,room,⟨rs,f⟩⟩ false) (bE ⟨k,h,t,m⟩)with
      | true=>simp[House.e,AW,oW,Word.e]
      | false =>
       simp only[ar,bA,Bool.false_eq_true,if_false,Ku]
       by_cases c:k=1/\fv (al ⟨h,true,room,⟨rs,f⟩⟩ false) t=0
       ·simp[c,House.e,oW,Word.e]
       ·simp only[c,if_false]
        cases ha:answer h ⟨k,h,t,m⟩ (fv (al ⟨h,true,room,⟨rs,f⟩⟩ true) t)with
        | none =>
         have:=(Fw (id:=h)).2 ha
         simp only[this,if_true]
         simp[House.e,oW,Word.e]
        | some x =>
         have h0:¬ (oW (answer 0 ⟨k,h,t,m⟩ (fv (al ⟨h,true,room,⟨rs,f⟩⟩ true) t))).k=0:=fun e=>by
          rw[(Fw (id:=h)).1 e]at ha;cases ha
         have hx:=La ha
         simp only[h0,if_false]
         subst hx
         simp[House.e,oW,Word.e]
     simp only[h4,if_false,if_true,hms,hj,h3,decide_false,bne_self_eq_false,Bool.or_self,Bool.false_eq_true]
     rfl
    ·simp[h4,h3,e1,House.e,oW,Word.e]
end
end Dx
namespace Dx
open Go
theorem lB{l:List House}{i:Int}(h1:1<=i)(h2:i<=l.length)(id:Int)(up:Bool)(room:Int)(rs:List Rec)(f:Int) :
  setRow 0 (l.map House.e) (i-1).toNat [.int .i64 id,.bool up,.int .i64 room,.list (rs.map Rec.e),.int .i64 f]=(l.set (i-1).toNat ⟨id,up,room,⟨rs,f⟩⟩).map House.e :=
 dJ (wU h1 h2) rfl
section
variable {up b:Bool} {rs:List Rec} {f:Int} {td:List Word} {k h t m keep:Int} {ms:List Int} {id room:Int} {hs:List House} {ns:List Word}
theorem tJ(ho:HsOk ⟨id,up,room,⟨rs,f⟩⟩):yv [.int .i64 id,.bool up,.int .i64 room,.list (rs.map Rec.e),.int .i64 f]=some (bU ⟨id,up,room,⟨rs,f⟩⟩).e:=by
 rw[q_cd]
 have hlg:LgOk ⟨rs,f⟩:=ho.lg
 have hS:=hlg.S
 have hok:=houseOk_iff.2 ho
 simp (disch:=first|assumption|omega|(simp only[zL];omega)) only[F_cd,gM,hok,eD,House.e,oV hlg,Log.e,Int.reduceEq,reduceIte,zU,zT,aa]
 cases up<;>rfl
theorem wn(ho:HsOk ⟨id,up,room,⟨rs,f⟩⟩):yC [.int .i64 id,.bool up,.int .i64 room,.list (rs.map Rec.e),.int .i64 f]=some (fy ⟨id,up,room,⟨rs,f⟩⟩).e:=by
 rw[q_cz]
 have hlg:LgOk ⟨rs,f⟩:=ho.lg
 have hS:=hlg.S
 have hok:=houseOk_iff.2 ho
 simp (disch:=first|assumption|omega|(simp only[zL];omega)) only[F_cz,gM,hok,eD,House.e,Int.reduceEq,reduceIte,zU,zT,aa]
 rfl
theorem wo(ho:HsOk ⟨id,up,room,⟨rs,f⟩⟩) :
  yy [.int .i64 id,.bool up,.int .i64 room,.list (rs.map Rec.e),.int .i64 f,.int .i64 keep]=some (hfall ⟨id,up,room,⟨rs,f⟩⟩ keep).e:=by
 rw[q_cs]
 have hlg:LgOk ⟨rs,f⟩:=ho.lg
 have hS:=hlg.S
 have hok:=houseOk_iff.2 ho
 simp (disch:=first|assumption|omega|(simp only[zL];omega)) only[F_cs,gM,hok,sH hlg,Log.e,Int.reduceEq,reduceIte,zU,zT,aa]
 rfl
theorem AY(hL:ns.length<=1000) :
  jU [.bool up,.list (rs.map Rec.e),.int .i64 f,.list (td.map Word.e),.list (hs.map House.e),.list (ns.map Word.e),.int .i64 k,.int .i64 h,.int .i64 t,.int .i64 m]=some (oA ⟨⟨up,⟨rs,f⟩,td⟩,hs,ns⟩ ⟨k,h,t,m⟩).e:=by
 rw[q_bs]
 simp (disch:=first|assumption|omega|(simp only[zL];omega)) only[F_bs,oA,Int.reduceEq,reduceIte,zU,zT,aa]
 by_cases hn:ns.length<14
 ·have h':((ns.length:Nat):Int)<14:=by omega
  have hc:ns.length+1<=1099511627776:=by omega
  simp[hn,h',Wd.e,Word.e,cD,hc]
 ·have h':¬ (((ns.length:Nat):Int)<14):=by omega
  simp[hn,h',Wd.e]
theorem BK(ho:WOk ⟨⟨up,⟨rs,f⟩,td⟩,hs,ns⟩)(hx:WdOk ⟨k,h,t,m⟩) :
  uN [.bool up,.list (rs.map Rec.e),.int .i64 f,.list (td.map Word.e),.list (hs.map House.e),.list (ns.map Word.e),.int .i64 k,.int .i64 h,.int .i64 t,.int .i64 m] =
   some ((oW (bp ⟨⟨up,⟨rs,f⟩,td⟩,hs,ns⟩ ⟨k,h,t,m⟩).2).e++(.bool (bp ⟨⟨up,⟨rs,f⟩,td⟩,hs,ns⟩ ⟨k,h,t,m⟩).2.isSome::(bp ⟨⟨up,⟨rs,f⟩,td⟩,hs,ns⟩ ⟨k,h,t,m⟩).1.e)):=by
 rw[q_bo]
 have hd:DkOk ⟨up,⟨rs,f⟩,td⟩:=ho.dk
 have hl:hs.length=3:=ho.len
 have hh:=hx.h
 simp only at hh
 by_cases h4:k>=4
 ·simp (disch:=first|assumption|omega|(simp only[zL];omega)) only[F_bo,jf,Fv,bp,h4,if_true,decide_true,Desk.e,Int.reduceEq,reduceIte,zU,zT,aa]
  simp[Wd.e,oW,Word.e]
 ·have hho:=(ho.houseAt (i:=h) hh).2.1
  rw[bG]at hho
  simp only at hho
  have hho':HsOk ⟨(eg hs h).id,(eg hs h).up,(eg hs h).room,⟨(eg hs h).lg.rs,(eg hs h).lg.f⟩⟩:=hho
  have h2:h<=hs.length:=by omega
  have hset:=fun id up room rs f=>lB (l:=hs) hh.1 h2 id up room rs f
  simp (disch:=first|assumption|omega|(simp only[zL];omega)) only[F_bo,jf,bp,h4,if_false,decide_false,wrap64,oQ,House.e,wl,List.cons_append,Word.e,hset,nF,lf,eqD,List.set_set,bG,Int.reduceEq,reduceIte,zU,zT,aa]
  simp[Wd.e,setHouse]
theorem mR(ho:WOk ⟨⟨up,⟨rs,f⟩,td⟩,hs,ns⟩){i:Int} :
  rK [.bool up,.list (rs.map Rec.e),.int .i64 f,.list (td.map Word.e),.list (hs.map House.e),.list (ns.map Word.e),.int .i64 i]=some (cO ⟨⟨up,⟨rs,f⟩,td⟩,hs,ns⟩ i).e:=by
 rw[q_ab]
 have hd:DkOk ⟨up,⟨rs,f⟩,td⟩:=ho.dk
 have hl:hs.length=3:=ho.len
 by_cases h0:i=0
 ·subst h0
  simp (disch:=first|assumption|omega|(simp only[zL];omega)) only[Jh,cO,wi,Desk.e,Int.reduceEq,reduceIte,zU,zT,aa]
  simp[Wd.e]
 ·cases hi:in_ i 1 3 with
  | false=>simp (disch:=first|assumption|omega|(simp only[zL];omega)) only[Jh,dw,cO,h0,hi,if_false,Int.reduceEq,reduceIte,zU,zT,aa];simp[Wd.e]
  | true =>
   have hi':=in_iff.1 hi
   have hho:=(ho.houseAt (i:=i) hi').2.1
   rw[bG]at hho
   simp only at hho
   have hho':HsOk ⟨(eg hs i).id,(eg hs i).up,(eg hs i).room,⟨(eg hs i).lg.rs,(eg hs i).lg.f⟩⟩:=hho
   have h2:i<=hs.length:=by omega
   have hset:=fun id up room rs f=>lB (l:=hs) hi'.1 h2 id up room rs f
   simp (disch:=first|assumption|omega|(simp only[zL];omega)) only[Jh,dw,cO,h0,hi,if_false,if_true,wrap64,oQ,House.e,tJ,hset,nF,lf,eqD,List.set_set,bG,Int.reduceEq,reduceIte,zU,zT,aa]
   simp[Wd.e,setHouse]
theorem oZ(ho:WOk ⟨⟨up,⟨rs,f⟩,td⟩,hs,ns⟩){i:Int} :
  rM [.bool up,.list (rs.map Rec.e),.int .i64 f,.list (td.map Word.e),.list (hs.map House.e),.list (ns.map Word.e),.int .i64 i]=some (cF ⟨⟨up,⟨rs,f⟩,td⟩,hs,ns⟩ ⟨9,i,0,[]⟩).e:=by
 rw[q_ad]
 have hd:DkOk ⟨up,⟨rs,f⟩,td⟩:=ho.dk
 have hl:hs.length=3:=ho.len
 by_cases h0:i=0
 ·subst h0
  have e0:in_ 0 0 3=true:=rfl
  simp (disch:=first|assumption|omega|(simp only[zL];omega)) only[Js,cF,e0,zz,Desk.e,Int.reduceEq,reduceIte,zU,zT,aa]
  simp[Wd.e]
 ·cases hi:in_ i 1 3 with
  | false =>
   have e0:in_ i 0 3=false:=by rw[in_false]at hi ⊢;omega
   simp (disch:=first|assumption|omega|(simp only[zL];omega)) only[Js,dw,cF,e0,h0,hi,if_false,Int.reduceEq,reduceIte,zU,zT,aa];simp[Wd.e]
  | true =>
   have hi':=in_iff.1 hi
   have e0:in_ i 0 3=true:=in_iff.2 (by omega)
   have hho:=(ho.houseAt (i:=i) hi').2.1
   rw[bG]at hho
   simp only at hho
   have hho':HsOk ⟨(eg hs i).id,(eg hs i).up,(eg hs i).room,⟨(eg hs i).lg.rs,(eg hs i).lg.f⟩⟩:=hho
   have h2:i<=hs.length:=by omega
   have hset:=fun id up room rs f=>lB (l:=hs) hi'.1 h2 id up room rs f
   simp (disch:=first|assumption|omega|(simp only[zL];omega)) only[Js,dw,cF,e0,h0,hi,if_false,if_true,wrap64,oQ,House.e,wn,hset,nF,lf,eqD,List.set_set,bG,Int.reduceEq,reduceIte,zU,zT,aa]
   simp[Wd.e,setHouse]
theorem i_do1(hd:DkOk ⟨up,⟨rs,f⟩,td⟩){k a:Int}{mc:List (List C)} :
  yx [.bool up,.list (rs.map Rec.e),.int .i64 f,.list (td.map Word.e),.int .i64 k,.int .i64 a,.int .i64 keep,.list mc]=some (dfall ⟨up,⟨rs,f⟩,td⟩ keep).e:=by
 rw[q_ci]
 simp (disch:=first|assumption|omega|(simp only[zL];omega)) only[F_ci,zy hd,Desk.e,Int.reduceEq,reduceIte,zU,zT,aa]
theorem i_do2(ho:HsOk ⟨id,up,room,⟨rs,f⟩⟩){k a:Int}{mc:List (List C)} :
  yz [.int .i64 id,.bool up,.int .i64 room,.list (rs.map Rec.e),.int .i64 f,.int .i64 k,.int .i64 a,.int .i64 keep,.list mc]=some (hfall ⟨id,up,room,⟨rs,f⟩⟩ keep).e:=by
 rw[q_ca]
 simp (disch:=first|assumption|omega|(simp only[zL];omega)) only[F_ca,wo ho,House.e,Int.reduceEq,reduceIte,zU,zT,aa]
theorem zD(ho:WOk ⟨⟨up,⟨rs,f⟩,td⟩,hs,ns⟩){i:Int}{k a k' a':Int}{mc mc':List (List C)} :
  yA [.bool up,.list (rs.map Rec.e),.int .i64 f,.list (td.map Word.e),.list (hs.map House.e),.list (ns.map Word.e),.int .i64 i,.int .i64 k,.int .i64 a,.int .i64 keep,.list mc,.int .i64 k',.int .i64 a',.int .i64 keep,.list mc']=some (cF ⟨⟨up,⟨rs,f⟩,td⟩,hs,ns⟩ ⟨8,i,keep,[]⟩).e:=by
 rw[q_aa]
 have hd:DkOk ⟨up,⟨rs,f⟩,td⟩:=ho.dk
 have hl:hs.length=3:=ho.len
 by_cases h0:i=0
 ·subst h0
  have e0:in_ 0 0 3=true:=rfl
  simp (disch:=first|assumption|omega|(simp only[zL];omega)) only[Jo,cF,e0,i_do1 hd,Desk.e,Int.reduceEq,reduceIte,zU,zT,aa]
  simp[Wd.e]
 ·cases hi:in_ i 1 3 with
  | false =>
   have e0:in_ i 0 3=false:=by rw[in_false]at hi ⊢;omega
   simp (disch:=first|assumption|omega|(simp only[zL];omega)) only[Jo,dw,cF,e0,h0,hi,if_false,Int.reduceEq,reduceIte,zU,zT,aa];simp[Wd.e]
  | true =>
   have hi':=in_iff.1 hi
   have e0:in_ i 0 3=true:=in_iff.2 (by omega)
   have hho:=(ho.houseAt (i:=i) hi').2.1
   rw[bG]at hho
   simp only at hho
   have hho':HsOk ⟨(eg hs i).id,(eg hs i).up,(eg hs i).room,⟨(eg hs i).lg.rs,(eg hs i).lg.f⟩⟩:=hho
   have h2:i<=hs.length:=by omega
   have hset:=fun id up room rs f=>lB (l:=hs) hi'.1 h2 id up room rs f
   simp (disch:=first|assumption|omega|(simp only[zL];omega)) only[Jo,dw,cF,e0,h0,hi,if_false,if_true,wrap64,oQ,House.e,i_do2 hho',hset,nF,lf,eqD,List.set_set,bG,Int.reduceEq,reduceIte,zU,zT,aa]
   simp[Wd.e,setHouse]
theorem C8:xO []=some deskNew.e:=by rw[q_ee];rfl
theorem zE:xP [.int .i64 id,.int .i64 room] =
  some (if in_ id 1 3 && in_ room 0 9 then(⟨id,true,room,⟨[],0⟩⟩:House).e++[.bool true] else(⟨0,false,0,⟨[],0⟩⟩:House).e++[.bool false]):=by
 rw[q_dp]
 simp (disch:=first|assumption|omega|(simp only[zL];omega)) only[F_dp,dw,kh,Int.reduceEq,reduceIte,zU,zT,aa]
 cases in_ id 1 3<;>cases in_ room 0 9<;>rfl
theorem zF{rooms:List Int}(hL:rooms.length<=1099511627775):xQ [.list (rooms.map eI)]=some (((bb rooms).getD wd0).e++[.bool (bb rooms).isSome]):=by
 rw[q_dl]
 simp (disch:=first|assumption|omega|(simp only[zL];omega)) only[F_dl,C8,Desk.e,deskNew,Int.reduceEq,reduceIte,zU,zT,aa]
 by_cases h3:((rooms.length:Nat):Int)=3
 case neg =>
  have:bb rooms=none:=by unfold bb;rw[if_neg];omega
  simp[h3,this,Wd.e,wd0]
 have h3':rooms.length=3:=by omega
 simp only[h3,if_true]
 have key:=am (l:=rooms) (F:=fun ps=>uF (rooms.map eI) true [] 0 [] 3 ((aa ps 0).toInt) ((aa ps 1).toList)) (enc:=fun i (s:List House)=>[.int .i64 i,.list (s.map House.e)])
  (res:=fun xs i s=>.ret (((if xs.all (fun n=>in_ n 0 9)=true then some (⟨deskNew,s++nh i xs,[]⟩:Wd) else none).getD wd0).e++[.bool (if xs.all (fun n=>in_ n 0 9)=true then some (⟨deskNew,s++nh i xs,[]⟩:Wd) else none).isSome])) (fun i s=>s.length=i) (s:=[]) (by simp) ?_ ?_
 ·have key:aq _ [C.int .i64 0,C.list []]=_:=key
  simp only[List.map_nil]at key ⊢
  rw[key]
  have:(if rooms.all (fun n=>in_ n 0 9)=true then some (⟨deskNew,[]++nh 0 rooms,[]⟩:Wd) else none)=bb rooms:=by
   unfold bb cT
   rw[GH];simp[h3']
  rw[this];rfl
 ·intro i x xs s hx hs
  have hi:=(List.getElem?_eq_some_iff.1 hx).1
  have hi':(i:Int)<3:=by omega
  simp only[uF,aa,C.toInt_int,C.toList_list,aT,hi',if_true,iP hx,eI]
  simp (disch:=first|assumption|omega|(simp only[zL];omega)) only[ap,zE]
  have hid:in_ ((i+1:Nat):Int) 1 3=true:=in_iff.2 (by omega)
  simp only[hid,Bool.true_and]
  cases hok:in_ x 0 9 with
  | true =>
   simp only[House.e,List.cons_append,List.nil_append,mo,aa,C.toInt_int,C.toList_list,C.toBool_bool,List.map_nil,Bool.not_true,ar,if_true]
   rw[cd (by simp[cD];omega)]
   refine .inl ⟨s++[⟨((i+1:Nat):Int),true,x,⟨[],0⟩⟩],by simp[House.e],by simp[hs],?_⟩
   simp[nh,hok]
  | false =>
   refine .inr ⟨_,rfl,?_⟩
   simp only[List.all_cons,hok,Bool.false_and,Bool.false_eq_true,if_false];rfl
 ·intro s hs
  have h:¬ ((rooms.length:Int)<3):=by omega
  simp only[uF,aa,C.toInt_int,C.toList_list,aT,h,if_false]
  simp[upD,nh,Wd.e,deskNew]
end
end Dx
namespace Dx
open Go
section
variable {up b:Bool} {rs:List Rec} {f:Int} {td:List Word} {k h t m keep:Int} {ms:List Int} {id room:Int} {hs:List House} {ns:List Word}
theorem Ez{r:List (List C)}{i:Nat}{x12 x13:Int}(hi:i<=100)(hm:ms.length<=3)(hL:td.length<=1099511627775)(h14:b=true->x13=nE x12){acc:List Word}(ha:acc.length<=300) :
  aq (fun ps=>qx up r f (td.map Word.e) ((i:Nat):Int) (ms.map eI) x12 x13 b ((ms.length:Nat):Int) ((aa ps 0).toInt) ((aa ps 1).toList)) [.int .i64 0,.list (acc.map Word.e)] =
   some (.jump [.int .i64 ((i+1:Nat):Int),.list ((acc++if b then bf td x12 ((i+1:Nat):Int) 1 ms else []).map Word.e)]):=by
 have key:=am (l:=ms) (F:=fun ps=>qx up r f (td.map Word.e) ((i:Nat):Int) (ms.map eI) x12 x13 b ((ms.length:Nat):Int) ((aa ps 0).toInt) ((aa ps 1).toList)) (enc:=fun j (s:List Word)=>[.int .i64 j,.list (s.map Word.e)])
  (res:=fun xs j s=>.jump [.int .i64 ((i+1:Nat):Int),.list ((s++if b then bf td x12 ((i+1:Nat):Int) ((j+1:Nat):Int) xs else []).map Word.e)]) (fun j s=>s.length<=300+j) (s:=acc) (by omega) ?_ ?_
 ·have key:aq _ [C.int .i64 0,C.list (acc.map Word.e)]=_:=key
  rw[key];rfl
 ·intro j x xs s hx hs
  have hj:=(List.getElem?_eq_some_iff.1 hx).1
  have hj':(j:Int)<(ms.length:Nat):=by omega
  have e1:((j+1:Nat):Int)+1=((j+1+1:Nat):Int):=by omega
  have hc:s.length+1<=1099511627776:=by omega
  simp (disch:=first|assumption|omega|(simp only[zL];omega)) only[qx,iP hx,eI,ap,hj',if_true,Ft,Int.reduceEq,reduceIte,zU,zT,aa]
  cases b with
  | false =>
   exact .inl ⟨s,by simp,by omega,by simp⟩
  | true =>
   have h13:=h14 rfl
   simp only[bf,gq,e1,if_true]
   rw[h13]
   by_cases h0:x=0
   ·simp only[h0,if_true,true_or,List.nil_append]
    exact .inl ⟨s,rfl,by omega,rfl⟩
   ·simp only[h0,if_false,false_or]
    cases hcn:td.contains ⟨nE x12,((j+1:Nat):Int),((i+1:Nat):Int),0⟩with
    | true =>
     simp only[ax,if_true,List.nil_append]
     exact .inl ⟨s,rfl,by omega,rfl⟩
    | false =>
     simp only[ar,Bool.false_eq_true,if_false]
     by_cases h1:x12=1
     ·subst h1
      simp only[if_true,ax]
      exact .inl ⟨s++[⟨1,((j+1:Nat):Int),((i+1:Nat):Int),x⟩],by simp[Word.e],by simp;omega,by simp⟩
     ·simp only[h1,if_false]
      simp only[ax]
      exact .inl ⟨s++[⟨x12,((j+1:Nat):Int),((i+1:Nat):Int),0⟩],by simp[Word.e],by simp;omega,by simp⟩
 ·intro s hs
  have h:¬ ((ms.length:Int)<(ms.length:Nat)):=by omega
  simp (disch:=first|assumption|omega|(simp only[zL];omega)) only[qx,h,if_false,ap,Int.reduceEq,reduceIte,zU,zT,aa]
  cases b<;>simp[upD,bf]
theorem ug(hd:DkOk ⟨up,⟨rs,f⟩,td⟩):lm [.bool up,.list (rs.map Rec.e),.int .i64 f,.list (td.map Word.e)]=some [.list ((aM ⟨up,⟨rs,f⟩,td⟩).map Word.e)]:=by
 rw[q_bu]
 have hS:=hd.lg.S
 have hS':LgS ⟨rs,f⟩:=hS
 have h1:0<=f:=hd.lg.lo
 have h2:f<=rs.length:=hd.lg.hi
 have hT:TrOk (aF ⟨rs,f⟩ true):=hd.trOk true
 have htl:td.length<=1099511627775:=by have:=hd.tdlen;simp only at this;omega
 cases up with
 | false=>simp[F_bu,aM]
 | true =>
  simp (disch:=first|assumption|omega|(simp only[zL];omega)) only[F_bu,uf hS' (fun _=>⟨h1,h2⟩),Int.reduceEq,reduceIte,zU,zT,aa]
  have ed:aM ⟨true,⟨rs,f⟩,td⟩=c8 td 1 (aF ⟨rs,f⟩ true):=rfl
  rw[ed]
  generalize aF ⟨rs,f⟩ true=l at hT
  have hl6:=hT.len
  have key:=am (l:=l) (F:=fun ps=>uJ true (rs.map Rec.e) f (td.map Word.e) (l.map Trip.e) ((l.length:Nat):Int) ((aa ps 0).toInt) ((aa ps 1).toList)) (enc:=fun j (s:List Word)=>[.int .i64 j,.list (s.map Word.e)])
   (res:=fun xs j s=>.ret [.list ((s++c8 td ((j+1:Nat):Int) xs).map Word.e)]) (fun j s=>s.length<=3*j) (s:=[]) (by simp) ?_ ?_
  ·have key:aq _ [C.int .i64 0,C.list []]=_:=key
   rw[key];rfl
  ·intro j x xs s hx hs
   have hj:=(List.getElem?_eq_some_iff.1 hx).1
   have hj':(j:Int)<(l.length:Nat):=by omega
   have hxo:=tripOk_iff.1 (hT.ok x (List.mem_of_getElem? hx))
   have hm3:=bP hxo.1
   have e1:((j+1:Nat):Int)+1=((j+1+1:Nat):Int):=by omega
   obtain⟨hx1,hx2⟩:=hxo.2
   simp (disch:=first|assumption|omega|(simp only[zL];omega)) only[uJ,sb hx,Trip.e,hj',if_true,Int.reduceEq,reduceIte,zU,zT,aa]
   rw[Ez (hi:=by omega) (hm:=by omega) (hL:=htl) (ha:=by omega)]
   ·refine .inl ⟨s++(if(([1,2,3]:List Int).any fun k=>(x.s:Int)==k) then bf td (iS [(1,1),(2,2),(3,3)] x.s) ((j+1:Nat):Int) 1 x.m else []),rfl,?_,?_⟩
    ·rw[List.length_append]
     have:=fA td (iS [(1,1),(2,2),(3,3)] x.s) ((j+1:Nat):Int) x.m 1
     split
     ·omega
     ·simp;omega
    ·simp only[c8,e1,List.append_assoc]
     have:(if(([1,2,3]:List Int).any fun k=>(x.s:Int)==k) then bf td (iS [(1,1),(2,2),(3,3)] x.s) ((j+1:Nat):Int) 1 x.m else [])=if x.s>3 then [] else bf td x.s ((j+1:Nat):Int) 1 x.m:=by
      have:x.s=1\/x.s=2\/x.s=3\/x.s=4\/x.s=5:=by omega
      rcases this with e|e|e|e|e<;>rw[e]<;>simp[iS]
     rw[this]
   ·intro hb
    have:x.s=1\/x.s=2\/x.s=3\/x.s=4\/x.s=5:=by omega
    rcases this with e|e|e|e|e<;>rw[e]at hb ⊢<;>simp[iS,nE]at hb ⊢
  ·intro s hs
   have h:¬ ((l.length:Int)<(l.length:Nat)):=by omega
   simp (disch:=first|assumption|omega|(simp only[zL];omega)) only[uJ,h,if_false,Int.reduceEq,reduceIte,zU,zT,aa]
   simp[c8]
end
end Dx
namespace Dx
open Go
section
variable {up b:Bool} {rs:List Rec} {f:Int} {td:List Word} {k h t m keep:Int} {ms:List Int} {id room:Int} {hs:List House} {ns:List Word}
theorem i_net(ho:WOk ⟨⟨up,⟨rs,f⟩,td⟩,hs,ns⟩){k a b:Int}{mc:List (List C)}(hk:k=4\/k=5\/k=6) :
  yt [.bool up,.list (rs.map Rec.e),.int .i64 f,.list (td.map Word.e),.list (hs.map House.e),.list (ns.map Word.e),.int .i64 k,.int .i64 a,.int .i64 b,.list mc]=some (nY ⟨⟨up,⟨rs,f⟩,td⟩,hs,ns⟩ ⟨k,a,b,ms⟩).e:=by
 rw[q_cp]
 have hnl:ns.length<=14:=ho.nlen
 simp (disch:=first|assumption|omega|(simp only[zL];omega)) only[F_cp,kh,wrap64,Int.reduceEq,reduceIte,zU,zT,aa]
 cases hi:in_ a 0 ((ns.length:Nat)-1)with
 | false =>
  have hn:(if 0<=a then ns[a.toNat]? else none)=none:=by
   rw[in_false]at hi
   split
   ·rw[List.getElem?_eq_none];omega
   ·rfl
  unfold nY
  simp only[hn,ar,ax,Bool.not_false,aE]
  rfl
 | true =>
  have hi:=in_iff.1 hi
  have hlt:a.toNat<ns.length:=by omega
  have hx:ns[a.toNat]?=some ns[a.toNat]:=by simp
  have hn:(if 0<=a then ns[a.toNat]? else none)=some ns[a.toNat]:=by rw[if_pos hi.1,hx]
  have hxo:=ho.ns _ (List.getElem_mem hlt)
  have hrow:∀ f:List C->Option Out,aG (.list (ns.map Word.e)) (.int .i64 a) [.int .i64,.int .i64,.int .i64,.int .i64] f=f (ns[a.toNat]).e:=fun f=>eP hi.1 hx rfl
  have hdel:si [.list (ns.map Word.e),.int .i64 a,.int .i64 (a+1)]=some [.list ((ns.eraseIdx a.toNat).map Word.e)]:=by
   have hc:(decide (0<=a) && (decide (a<a+1) && decide (a+1<=((ns.map Word.e).length:Nat))))=true:=by
    simp only[Bool.and_eq_true,decide_eq_true_eq,List.length_map];omega
   unfold si
   simp only[hc]
   have e1:(a+1).toNat=a.toNat+1:=by omega
   rw[e1,List.eraseIdx_eq_take_drop_succ,List.map_append,List.map_take,List.map_drop]
  have hd:decide (0<=a) && decide (a<((ns.length:Nat):Int))=true:=by simp;omega
  have hto:=ho.take a
  unfold nY
  simp only[hn]
  generalize hxx:ns[a.toNat]=x at hrow hxo
  have hsn:jU [.bool up,.list (rs.map Rec.e),.int .i64 f,.list (td.map Word.e),.list (hs.map House.e),.list (ns.map Word.e),.int .i64 x.k,.int .i64 x.h,.int .i64 x.t,.int .i64 x.m]=some (oA ⟨⟨up,⟨rs,f⟩,td⟩,hs,ns⟩ x).e:=AY (by omega)
  have hto':WOk ⟨⟨up,⟨rs,f⟩,td⟩,hs,ns.eraseIdx a.toNat⟩:=hto
  have hh:=hto'.hear hxo
  have hhe:=BK (k:=x.k) (h:=x.h) (t:=x.t) (m:=x.m) hto' hxo
  have etk:iO ⟨⟨up,⟨rs,f⟩,td⟩,hs,ns⟩ a=⟨⟨up,⟨rs,f⟩,td⟩,hs,ns.eraseIdx a.toNat⟩:=rfl
  simp only[etk]
  have hw:IntKind.wrap .i64 (a+1)=a+1:=wrap64 (by omega) (by omega)
  rcases hk with e|e|e
  ·subst e
   simp (disch:=first|assumption|omega|(simp only[zL];omega)) only[uO,hrow,hd,Word.e,Int.reduceEq,reduceIte,zU,zT,aa]
   rw[hw,hdel]
   simp only[sB,aa,C.toList_list]
   rw[hhe]
   have ex:(⟨x.k,x.h,x.t,x.m⟩:Word)=x:=rfl
   rw[ex]
   generalize bp (⟨⟨up,⟨rs,f⟩,td⟩,hs,ns.eraseIdx a.toNat⟩:Wd) x=q at hh ⊢
   obtain⟨q1,q2⟩:=q
   cases q2 with
   | none =>
    simp only[oW,Word.e,Wd.e,List.cons_append,List.nil_append,Option.isSome_none]
    rw[bR rfl]
    rfl
   | some y =>
    have hq:WOk q1:=hh.1
    have hql:=hq.nlen
    have hsn2:jU [.bool q1.dk.up,.list (q1.dk.lg.rs.map Rec.e),.int .i64 q1.dk.lg.f,.list (q1.dk.td.map Word.e),.list (q1.hs.map House.e),.list (q1.ns.map Word.e),.int .i64 y.k,.int .i64 y.h,.int .i64 y.t,.int .i64 y.m]=some (oA q1 y).e:=AY (ns:=q1.ns) (by omega)
    simp only[oW,Word.e,Wd.e,List.cons_append,List.nil_append,Option.isSome_some,Option.getD_some]
    rw[bR rfl]
    simp only[aa,C.toBool_bool,C.toList_list,C.toInt_int,ax]
    rw[hsn2]
    simp only[Wd.e]
    rw[bR rfl]
    rfl
  ·subst e
   simp (disch:=first|assumption|omega|(simp only[zL];omega)) only[uO,hrow,hd,Word.e,Int.reduceEq,reduceIte,zU,zT,aa]
   rw[hw,hdel]
   rfl
  ·subst e
   simp (disch:=first|assumption|omega|(simp only[zL];omega)) only[uO,hrow,hd,Word.e,Int.reduceEq,reduceIte,zU,zT,aa]
   rw[hsn]
   simp only[Wd.e]
   rw[bR rfl]
   rfl
theorem AZ{l:List Word}{i:Int}{x:Word}(h0:0<=i)(h:l[i.toNat]?=some x){kk:IntKind}{f:List C->Option Out}:aG (.list (l.map Word.e)) (.int kk i) [.int .i64,.int .i64,.int .i64,.int .i64] f=f x.e:=eP h0 h rfl
theorem sK{d:Desk}{r:Rec}(h:e9 d r=false):bh d r=d:=by
 unfold e9 at h
 unfold bh
 split
 ·rename_i hc
  simp only[Bool.and_eq_true]at hc
  simp only[hc.1,hc.2,Bool.true_and]at h
  have:d.lg.rs.length>=40:=by simpa [oz] using h
  simp[dW,this]
 ·rfl
theorem i_do(ho:WOk ⟨⟨up,⟨rs,f⟩,td⟩,hs,ns⟩){k a b:Int}(hm:ms.length<=1099511627776) :
  nw [.bool up,.list (rs.map Rec.e),.int .i64 f,.list (td.map Word.e),.list (hs.map House.e),.list (ns.map Word.e),.int .i64 k,.int .i64 a,.int .i64 b,.list (ms.map eI)]=some (wdo ⟨⟨up,⟨rs,f⟩,td⟩,hs,ns⟩ ⟨k,a,b,ms⟩).e:=by
 rw[q_df]
 have hd:DkOk ⟨up,⟨rs,f⟩,td⟩:=ho.dk
 have hdS:DkS ⟨up,⟨rs,f⟩,td⟩:=hd.S
 have hdo:=deskOk_iff.2 hd
 have hnl:ns.length<=14:=ho.nlen
 unfold F_df
 by_cases h1:k=1
 ·subst h1
  simp only[BEq.rfl,ax,wj hdS hm,hdo,Bool.true_and]
  have ew:wdo ⟨⟨up,⟨rs,f⟩,td⟩,hs,ns⟩ ⟨1,a,b,ms⟩=⟨gT ⟨up,⟨rs,f⟩,td⟩ ms,hs,ns⟩:=rfl
  rw[ew]
  unfold gT
  cases hr:aH (fN ⟨up,⟨rs,f⟩,td⟩ ms)with
  | false=>rfl
  | true =>
   simp only[if_true]
   cases hb:e9 ⟨up,⟨rs,f⟩,td⟩ (fN ⟨up,⟨rs,f⟩,td⟩ ms)with
   | false=>rw[sK hb];rfl
   | true=>rfl
 by_cases h2:k=2
 ·subst h2
  simp only[Int.reduceBEq,ar,ax,zA hdS,hdo,Bool.true_and]
  have ew:wdo ⟨⟨up,⟨rs,f⟩,td⟩,hs,ns⟩ ⟨2,a,b,ms⟩=⟨ln ⟨up,⟨rs,f⟩,td⟩ a,hs,ns⟩:=rfl
  rw[ew]
  unfold ln
  cases hr:in_ a 1 6 with
  | false=>rfl
  | true =>
   simp only[if_true]
   cases hb:e9 ⟨up,⟨rs,f⟩,td⟩ ⟨6,a,[]⟩with
   | false=>rw[sK hb];rfl
   | true=>rfl
 by_cases h3:k=3
 ·subst h3
  have hwl:(aM ⟨up,⟨rs,f⟩,td⟩).length<=18:=dI hd
  simp (disch:=first|assumption|omega|(simp only[zL];omega)) only[Int.reduceBEq,ug hd,kh,wrap64,Int.reduceEq,reduceIte,zU,zT,aa]
  have ew:wdo ⟨⟨up,⟨rs,f⟩,td⟩,hs,ns⟩ ⟨3,a,b,ms⟩=jZ ⟨⟨up,⟨rs,f⟩,td⟩,hs,ns⟩ ⟨3,a,b,ms⟩:=rfl
  rw[ew]
  unfold jZ
  simp only[Int.reduceEq,if_false,if_true]
  generalize aM ⟨up,⟨rs,f⟩,td⟩=l at hwl
  cases hi:in_ a 0 ((l.length:Nat)-1)with
  | false =>
   have hn:(if 0<=a then l[a.toNat]? else none)=none:=by
    rw[in_false]at hi
    split
    ·rw[List.getElem?_eq_none];omega
    ·rfl
   rw[hn];rfl
  | true =>
   have hi:=in_iff.1 hi
   have hlt:a.toNat<l.length:=by omega
   have hx:l[a.toNat]?=some l[a.toNat]:=by simp
   have hn:(if 0<=a then l[a.toNat]? else none)=some l[a.toNat]:=by rw[if_pos hi.1,hx]
   rw[hn]
   simp only[ax]
   rw[AZ hi.1 hx]
   generalize l[a.toNat]=x
   simp only[Word.e,aa,C.toInt_int]
   have hsn:jU [.bool up,.list (rs.map Rec.e),.int .i64 f,.list (td.map Word.e),.list (hs.map House.e),.list (ns.map Word.e),.int .i64 x.k,.int .i64 x.h,.int .i64 x.t,.int .i64 x.m]=some (oA ⟨⟨up,⟨rs,f⟩,td⟩,hs,ns⟩ x).e:=AY (by omega)
   rw[hsn]
   simp only[Wd.e]
   rw[bR rfl]
   rfl
 have e1:(k==1)=false:=by simpa using h1
 have e2:(k==2)=false:=by simpa using h2
 have e3:(k==3)=false:=by simpa using h3
 have ew:wdo ⟨⟨up,⟨rs,f⟩,td⟩,hs,ns⟩ ⟨k,a,b,ms⟩=if k=4\/k=5\/k=6 then nY ⟨⟨up,⟨rs,f⟩,td⟩,hs,ns⟩ ⟨k,a,b,ms⟩ else if k=7\/k=8\/k=9 then cF ⟨⟨up,⟨rs,f⟩,td⟩,hs,ns⟩ ⟨k,a,b,ms⟩ else⟨⟨up,⟨rs,f⟩,td⟩,hs,ns⟩:=by
  unfold wdo;simp only[h1,h2,h3,false_or,if_false]
 rw[ew]
 simp only[e1,e2,e3,ar]
 by_cases h4:k=4\/k=5\/k=6
 ·rw[if_pos h4]
  have hn:=i_net (ms:=ms) ho (k:=k) (a:=a) (b:=b) (mc:=ms.map eI) h4
  have:bC (af (k==4) (some (.jump [.bool true])) (af (k==5) (some (.jump [.bool true])) (some (.jump [.bool (k==6)])))) (fun ps=>qz up (rs.map Rec.e) f (td.map Word.e) (hs.map House.e) (ns.map Word.e) k a b (ms.map eI) (aa ps 0).toBool) =
    qz up (rs.map Rec.e) f (td.map Word.e) (hs.map House.e) (ns.map Word.e) k a b (ms.map eI) true:=by
   rcases h4 with e|e|e<;>subst e<;>rfl
  rw[this]
  unfold qz
  simp only[ax]
  rw[hn]
  simp only[Wd.e]
  rw[bR rfl]
  rfl
 ·rw[if_neg h4]
  simp only[not_or]at h4
  have f4:(k==4)=false:=by simpa using h4.1
  have f5:(k==5)=false:=by simpa using h4.2.1
  have f6:(k==6)=false:=by simpa using h4.2.2
  simp only[f4,f5,f6,ar,br,aa,C.toBool_bool]
  unfold qz
  simp only[ar]
  by_cases h7:k=7
  ·subst h7
   have hn:cF ⟨⟨up,⟨rs,f⟩,td⟩,hs,ns⟩ ⟨7,a,b,ms⟩=cO ⟨⟨up,⟨rs,f⟩,td⟩,hs,ns⟩ a:=by
    unfold cF cO
    cases hi:in_ a 0 3 with
    | true=>simp
    | false =>
     rw[in_false]at hi
     have h0:a≠0:=by omega
     have h1:in_ a 1 3=false:=by rw[in_false];omega
     simp[h0,h1]
   simp only[BEq.rfl,ax,mR ho,Int.reduceEq,true_or,if_true,hn]
   simp only[Wd.e]
   rw[bR rfl]
   rfl
  by_cases h8:k=8
  ·subst h8
   have hn:cF ⟨⟨up,⟨rs,f⟩,td⟩,hs,ns⟩ ⟨8,a,b,ms⟩=cF ⟨⟨up,⟨rs,f⟩,td⟩,hs,ns⟩ ⟨8,a,b,[]⟩:=rfl
   simp only[Int.reduceBEq,ar,ax,zD ho,Int.reduceEq,true_or,or_true,if_true,hn]
   simp only[Wd.e]
   rw[bR rfl]
   rfl
  by_cases h9:k=9
  ·subst h9
   have hn:cF ⟨⟨up,⟨rs,f⟩,td⟩,hs,ns⟩ ⟨9,a,b,ms⟩=cF ⟨⟨up,⟨rs,f⟩,td⟩,hs,ns⟩ ⟨9,a,0,[]⟩:=rfl
   simp only[Int.reduceBEq,ar,ax,oZ ho,Int.reduceEq,or_true,if_true,hn]
   simp only[Wd.e]
   rw[bR rfl]
   rfl
  have g7:(k==7)=false:=by simpa using h7
  have g8:(k==8)=false:=by simpa using h8
  have g9:(k==9)=false:=by simpa using h9
  simp only[g7,g8,g9,ar,h7,h8,h9,or_false,if_false,aE]
  rfl
theorem Kv{w:Wd}(ho:WOk w){e:Ev}(hm:e.m.length<=1099511627776) :
  nw [.bool w.dk.up,.list (w.dk.lg.rs.map Rec.e),.int .i64 w.dk.lg.f,.list (w.dk.td.map Word.e),.list (w.hs.map House.e),.list (w.ns.map Word.e),.int .i64 e.k,.int .i64 e.a,.int .i64 e.b,.list (e.m.map eI)]=some (wdo w e).e :=
 i_do (up:=w.dk.up) (rs:=w.dk.lg.rs) (f:=w.dk.lg.f) (td:=w.dk.td) (hs:=w.hs) (ns:=w.ns) ho hm
end
end Dx
namespace Dx
open Go
theorem iB(a b:Int):(a==b)=decide (a=b):=by by_cases h:a=b<;>simp[h]
theorem gN(a b:Int):(a != b)=!decide (a=b):=by by_cases h:a=b<;>simp[h]
section
variable {a b:List Int} {up up':Bool} {rs rs':List Rec} {f f':Int} {td td':List Word} {k k' t t' id id' room room' h m:Int} {hs hs':List House} {ns ns':List Word}
end
end Dx
namespace Dx
open Go
def kl(code:List Int):Prop:=∀ b∈code,0<=b/\b<=255
def iC(code:List Int)(rooms:List Int)(es:List Ev)(w:Wd):List C :=
 [.list (code.map eB),.int .i64 code.length,.bool false,.list (rooms.map eI),.list (es.map Ev.e),
  .bool w.dk.up,.list (w.dk.lg.rs.map Rec.e),.int .i64 w.dk.lg.f,.list (w.dk.td.map Word.e),.list (w.hs.map House.e),.list (w.ns.map Word.e),.bool true,
  .bool w.dk.up,.list (w.dk.lg.rs.map Rec.e),.int .i64 w.dk.lg.f,.list (w.dk.td.map Word.e),.list (w.hs.map House.e),.list (w.ns.map Word.e),.bool true,.bool false,.bool true,.bool false,.bool false]
theorem aR(Φ:Phi)(p:Prim)(args:List Cell)(t:Tree)(env:List C):den Φ (.letp p args t) env=den Φ t (env++[p.den (aN env args)]):=by rw[den]
theorem bd(Φ:Phi)(a:At)(t e:Tree)(env:List C):den Φ (.ite a t e) env=af (a.den env).toBool (den Φ t env) (den Φ e env):=by rw[den]
theorem bu(Φ:Phi)(xs:List Cell)(env:List C):den Φ (.ret xs) env=some (.ret (aN env xs)):=by rw[den]
def dK(code more:List Int)(rooms:List Int)(es:List Ev)(w:Wd):List C :=
 [.list (code.map eB),.list (more.map eB),.int .i64 code.length,.bool false,.int .i64 more.length,.bool false,.list (rooms.map eI),.list (es.map Ev.e),
  .bool w.dk.up,.list (w.dk.lg.rs.map Rec.e),.int .i64 w.dk.lg.f,.list (w.dk.td.map Word.e),.list (w.hs.map House.e),.list (w.ns.map Word.e),.bool true,
  .bool w.dk.up,.list (w.dk.lg.rs.map Rec.e),.int .i64 w.dk.lg.f,.list (w.dk.td.map Word.e),.list (w.hs.map House.e),.list (w.ns.map Word.e),.bool true,.bool false,.bool true,.bool false,.bool false]
end Dx
namespace Dx
open Go
theorem qb(Φ:Phi)(init:List Cell)(body:Tree)(env:List C):den Φ (.iter init body) env=aq (fun ps=>den Φ body (env++c9 ps 0 (bQ init))) (aN env init):=by rw[den]
theorem bH(Φ:Phi)(l i:At)(ks:List CK)(t:Tree)(env:List C):den Φ (.row l i ks t) env=aG (l.den env) (i.den env) ks fun r=>den Φ t (env++r):=by rw[den]
theorem cy(Φ:Phi)(t:Tree)(env:List C):den Φ (.up t) env=upD (den Φ t env):=by rw[den]
theorem bn(Φ:Phi)(xs:List Cell)(env:List C):den Φ (.jump xs) env=some (.jump (aN env xs)):=by rw[den]
theorem bv(Φ:Phi)(p:Prim)(args:List Cell)(t:Tree)(env:List C):den Φ (.chk p args t) env=ae (p.den (aN env args)).toBool (den Φ t env):=by rw[den]
theorem bo(Φ:Phi)(ks:List CK)(body k:Tree)(env:List C):den Φ (.join ks body k) env=bC (den Φ body env) fun ps=>den Φ k (env++c9 ps 0 ks):=by rw[den]
theorem Hp{α:Type}{F:List C->Option Out}{l:List α}{o:Out}(hs:∀(i:Nat) (x:α),l[i]?=some x->F [.int .i64 (i:Nat)]=some (.jump [.int .i64 ((i+1:Nat):Int)]))
  (hf:F [.int .i64 ((l.length:Nat):Int)]=some (.up o)):aq F [.int .i64 0]=some o :=
 am (l:=l) (F:=F) (enc:=fun i (_:Unit)=>[.int .i64 i]) (res:=fun _ _ _=>o) (fun _ _=>True) (s:=()) trivial (fun i x _ _ hx _=>.inl ⟨(),hs i x hx,trivial,rfl⟩) (fun _ _=>hf)
section
variable {code:List Int}
end
end Dx
namespace Dx
open Go
section
variable {code:List Int}
end
end Dx
namespace Dx
open Go
section
variable {code:List Int}
end
end Dx
namespace Dx
open Go
section
variable {room:Int} {hs:List Hold} {k h t m:Int} {ns:List Word} {w:Wd}
theorem C9(hL:ns.length<=1000):yF [.list (ns.map Word.e)]=some [.bool (ns.any fun x=>!bJ x)]:=by
 have h1:∀ x:Word,yD [.int .i64 x.k,.int .i64 x.h,.int .i64 x.t,.int .i64 x.m]=some [.bool (!bJ x)]:=fun x=>by
  rw[q_da];simp (disch:=first|assumption|omega|(simp only[zL];omega)) only[F_da,gV,Int.reduceEq,reduceIte,zU,zT,aa]
 have hi:yE [.list (ns.map Word.e)]=some [.int .i64 (nZ (fun x=>!bJ x) 0 ns)]:=by
  rw[q_ag];unfold F_ag
  simp only[List.length_map]
  rw[iA (l:=ns) (fun x=>!bJ x)]
  ·rfl
  ·intro i x hx
   have hi:=(List.getElem?_eq_some_iff.1 hx).1
   have hi':(i:Int)<(ns.length:Nat):=by omega
   simp (disch:=first|assumption|omega|(simp only[zL];omega)) only[AC,jv hx,Word.e,h1,ap,hi',if_true,Int.reduceEq,reduceIte,zT,aa]
   cases bJ x<;>simp[hi']
  ·have h:¬ ((ns.length:Int)<(ns.length:Nat)):=by omega
   simp (disch:=first|assumption|omega|(simp only[zL];omega)) only[AC,h,if_false,Int.reduceEq,reduceIte,zU,zT,aa]
 rw[q_ac]
 simp (disch:=first|assumption|omega|(simp only[zL];omega)) only[F_ac,hi,fa,Bool.decide_eq_true,Int.reduceEq,reduceIte,zU,zT,aa]
theorem WOk.cells(ho:WOk w){i:Nat}{x:House}(hx:w.hs[i]?=some x):LgOk ⟨x.lg.rs,x.lg.f⟩/\dQ ⟨x.id,x.up,x.room,⟨x.lg.rs,x.lg.f⟩⟩=true/\x.id=((i+1:Nat):Int) :=
 ⟨(ho.hs i x hx).1.lg,houseOk_iff.2 (ho.hs i x hx).1,by have:=(ho.hs i x hx).2;omega⟩
theorem sL(ho:WOk w):rN [.bool w.dk.up,.list (w.dk.lg.rs.map Rec.e),.int .i64 w.dk.lg.f,.list (w.dk.td.map Word.e),.list (w.hs.map House.e),.list (w.ns.map Word.e)]=some [.bool true]:=by
 rw[q_el]
 have hdS:DkS ⟨w.dk.up,⟨w.dk.lg.rs,w.dk.lg.f⟩,w.dk.td⟩:=ho.dk.S
 have hdo:fq ⟨w.dk.up,⟨w.dk.lg.rs,w.dk.lg.f⟩,w.dk.td⟩=true:=deskOk_iff.2 ho.dk
 have h3:=ho.len
 have hn:=ho.nlen
 have h3':((w.hs.length:Nat):Int)=3:=by omega
 have hn':¬ (((w.ns.length:Nat):Int)>14):=by omega
 have hw:(w.ns.any fun x=>!bJ x)=false:=by
  rw[List.any_eq_false]
  intro x hx
  rw[wordOk_iff.2 (ho.ns x hx)];simp
 simp (disch:=first|assumption|omega|(simp only[zL];omega)) only[F_el,fb,hdo,h3',hn',if_true,if_false,Int.reduceEq,reduceIte,zU,zT,aa]
 rw[Hp (l:=w.hs) (o:=.ret [.bool true])]
 ·rfl
 ·intro i x hx
  have hi:=(List.getElem?_eq_some_iff.1 hx).1
  have hi':(i:Int)<3:=by omega
  obtain⟨c1,c2,c3⟩:=ho.cells hx
  have c2':dQ ⟨((i+1:Nat):Int),x.up,x.room,x.lg⟩=true:=by rw[<-c3];exact c2
  simp (disch:=first|assumption|omega|(simp only[zL];omega)) only[AD,iQ hx,House.e,gM c1.S,c2',c3,ap,hi',if_true,Int.reduceEq,reduceIte,zU,zT,aa]
 ·have h:¬ ((3:Int)<3):=by omega
  simp (disch:=first|assumption|omega|(simp only[zL];omega)) only[AD,h3',if_false,C9,hw,Int.lt_irrefl,Int.reduceEq,reduceIte,zU,zT,aa]
  try rfl
theorem qR(ho:WOk w):yG [.bool w.dk.up,.list (w.dk.lg.rs.map Rec.e),.int .i64 w.dk.lg.f,.list (w.dk.td.map Word.e),.list (w.hs.map House.e),.list (w.ns.map Word.e)]=some w.e:=by
 rw[q_be]
 have hdS:DkS ⟨w.dk.up,⟨w.dk.lg.rs,w.dk.lg.f⟩,w.dk.td⟩:=ho.dk.S
 have h3:=ho.len
 have hn:=ho.nlen
 simp (disch:=first|assumption|omega|(simp only[zL];omega)) only[F_be,dY hdS,Desk.e,wY,Fj,Int.reduceEq,reduceIte,zU,zT,aa]
 refine Eq.trans (congrArg ai (am (l:=w.hs) (enc:=fun i (s:List House)=>[.int .i64 i,.list (s.map House.e)])
  (res:=fun xs _ s=>.ret [.bool w.dk.up,.list (w.dk.lg.rs.map Rec.e),.int .i64 w.dk.lg.f,.list (w.dk.td.map Word.e),.list ((s++xs).map House.e),.list (w.ns.map Word.e)]) (fun i s=>s.length=i) (s:=[]) rfl ?_ ?_)) rfl
 ·intro i x xs s hx hs
  have hi:=(List.getElem?_eq_some_iff.1 hx).1
  have hi':(i:Int)<(w.hs.length:Nat):=by omega
  obtain⟨c1,c2,c3⟩:=ho.cells hx
  have hc:s.length+1<=1099511627776:=by omega
  simp (disch:=first|assumption|omega|(simp only[zL];omega)) only[AE,iQ hx,House.e,eD c1.S,ap,hi',hc,if_true,Int.reduceEq,reduceIte,zU,zT,aa]
  exact .inl ⟨s++[x],by simp[House.e],by simp[hs],by simp⟩
 ·intro s hs
  have h:¬ ((w.hs.length:Int)<(w.hs.length:Nat)):=by omega
  simp (disch:=first|assumption|omega|(simp only[zL];omega)) only[AE,h,if_false,Int.reduceEq,reduceIte,zU,zT,aa]
  simp
def bt(w:Wd)(t:Int):List Hold:=w.hs.map fun h=>hAt (al h false).hs t
theorem tK(ho:WOk w)(ht:1<=t/\t<=6):yK [.bool w.dk.up,.list (w.dk.lg.rs.map Rec.e),.int .i64 w.dk.lg.f,.list (w.dk.td.map Word.e),.list (w.hs.map House.e),.list (w.ns.map Word.e),.int .i64 t]=some [.list ((bt w t).map Hold.e)]:=by
 rw[q_bz]
 have h3:=ho.len
 have hit:=in_iff.2 ht
 simp (disch:=first|assumption|omega|(simp only[zL];omega)) only[F_bz,sL ho,lz,hit,Int.reduceEq,reduceIte,zU,zT,aa]
 have key:=am (l:=w.hs) (F:=fun ps=>uS (w.hs.map House.e) t ((w.hs.length:Nat):Int) ((aa ps 0).toInt) ((aa ps 1).toList)) (enc:=fun i (s:List Hold)=>[.int .i64 i,.list (s.map Hold.e)])
  (res:=fun xs _ s=>.ret [.list ((s++xs.map fun h=>hAt (al h false).hs t).map Hold.e)]) (fun i s=>s.length=i) (s:=[]) rfl ?_ ?_
 ·have key:aq _ [C.int .i64 0,C.list []]=_:=key
  rw[key];rfl
 ·intro i x xs s hx hs
  have hi:=(List.getElem?_eq_some_iff.1 hx).1
  have hi':(i:Int)<(w.hs.length:Nat):=by omega
  obtain⟨c1,c2,c3⟩:=ho.cells hx
  have hc:s.length+1<=1099511627776:=by omega
  have s6:(al ⟨x.id,x.up,x.room,⟨x.lg.rs,x.lg.f⟩⟩ false).hs.length=6:=((houseOk_iff.1 c2).stOk false).len
  have ht6:t<=((al ⟨x.id,x.up,x.room,⟨x.lg.rs,x.lg.f⟩⟩ false).hs.length:Nat):=by omega
  simp (disch:=first|assumption|omega|(simp only[zL];omega)) only[uS,iQ hx,House.e,oY c1,Stock.e,wrap64,DZ ht.1 ht6,Hold.e,ap,hi',hc,if_true,Int.reduceEq,reduceIte,zU,zT,aa]
  exact .inl ⟨s++[hAt (al x false).hs t],by simp[Hold.e],by simp[hs],by simp⟩
 ·intro s hs
  have h:¬ ((w.hs.length:Int)<(w.hs.length:Nat)):=by omega
  simp (disch:=first|assumption|omega|(simp only[zL];omega)) only[uS,h,if_false,Int.reduceEq,reduceIte,zU,zT,aa]
  simp
end
end Dx
namespace Dx
open Go
section
variable {code:List Int}
end
end Dx
namespace Dx
open Go
section
variable {code more:List Int}
end
end Dx
namespace Dx
open Go
section
variable {code:List Int}
end
end Dx
namespace Dx
open Go
section
variable {code more:List Int}
end
end Dx
namespace Dx
open Go
section
variable {w:Wd}
end
end Dx
namespace Dx
open Go
theorem Hq:yI=uN:=rfl
theorem sM:∀(xs:List Word) (w:Wd) (ns:List Word),cE {w with ns:=ns} xs={cE w xs with ns:=ns}
 | [],_,_=>rfl
 | x::xs,w,ns=>by
  show cE (bj {w with ns:=ns} x) xs={cE (bj w x) xs with ns:=ns}
  rw[CN];exact sM xs _ ns
section
variable {w:Wd}
theorem hs3(ho:WOk w):∃ a b c,w.hs=[a,b,c]:=by
 have h:=ho.len
 match w.hs,h with
 | [a,b,c],_=>exact⟨a,b,c,rfl⟩
theorem EA(ho:WOk w):([0,1,2,3]:List Int).foldl (fun w i=>cF w ⟨9,i,0,[]⟩) w=cN w:=by
 obtain⟨a,b,c,h⟩:=hs3 ho
 obtain⟨d,hs,ns⟩:=w
 simp only at h
 subst h
 rfl
theorem sN(ho:WOk w):([0,1,2,3]:List Int).foldl cO w=aX w:=by
 obtain⟨a,b,c,h⟩:=hs3 ho
 obtain⟨d,hs,ns⟩:=w
 simp only at h
 subst h
 rfl
theorem jw{F:List C->Option Out}{p q:List C}(h:F p=some (.jump q)):aq F p=aq F q:=by rw[fk,h];rfl
theorem BL{F:List C->Option Out}{p:List C}{o:Out}(h:F p=some (.up o)):aq F p=some o:=by rw[fk,h];rfl
theorem Fx(a b:List Word)(f:List C->Option Out):aG (.list [[.list (a.map Word.e)],[.list (b.map Word.e)]]) (.int .i64 0) [.list] f=f [.list (a.map Word.e)]:=rfl
theorem BM(a b:List Word)(f:List C->Option Out):aG (.list [[.list (a.map Word.e)],[.list (b.map Word.e)]]) (.int .i64 1) [.list] f=f [.list (b.map Word.e)]:=rfl
theorem EB{a b:List Word}(ha:a.length<=1000)(hb:b.length<=1000):yH [.list [[.list (a.map Word.e)],[.list (b.map Word.e)]]]=some [.list ((a++b).map Word.e)]:=by
 rw[q_aq]
 have hg:pS [.list [],.int .i64 ((a.length:Int)+(b.length:Nat))]=some [.list []]:=by
  have hc:(decide ((0:Int)<=(a.length:Int)+(b.length:Nat)) && decide ((a.length:Int)+(b.length:Nat)<=1099511627776))=true:=by simp;omega
  unfold pS
  simp only[hc]
 have h1:¬ ((a.length:Int)<0):=by omega
 have h2:¬ ((a.length:Int)+(b.length:Nat)<0):=by omega
 have hA:¬ ((0:Int)+(a.length:Int)<0):=by omega
 unfold F_aq
 refine Eq.trans (congrArg ai (jw (q:=[.int .i64 a.length,.int .i64 1]) ?_)) ?_
 ·show ld _ 2 0 0=_
  unfold ld
  simp (disch:=first|assumption|omega|(simp only[zL];omega)) only[Fx,wrap64,h1,if_false,Int.zero_add,Int.reduceAdd,Int.reduceLT,if_true,Int.reduceEq,reduceIte,zU,zT,aa]
 refine Eq.trans (congrArg ai (jw (q:=[.int .i64 ((a.length:Int)+(b.length:Nat)),.int .i64 2]) ?_)) ?_
 ·show ld _ 2 _ 1=_
  unfold ld
  simp (disch:=first|assumption|omega|(simp only[zL];omega)) only[BM,wrap64,h2,if_false,Int.reduceAdd,Int.reduceLT,if_true,C.toInt_int,Int.reduceEq,reduceIte,zU,zT,aa]
 refine Eq.trans (congrArg ai (BL (o:=.ret [.list ((a++b).map Word.e)]) ?_)) rfl
 show ld _ 2 ((a.length:Int)+(b.length:Nat)) 2=_
 unfold ld
 simp only[Int.lt_irrefl,decide_false,ar,hg,sB,aa,C.toList_list]
 have key:aq (fun ps=>jF [[C.list (a.map Word.e)],[C.list (b.map Word.e)]] 2 ((aa ps 0).toInt) ((aa ps 1).toList)) [C.int .i64 0,C.list []]=some (.ret [.list ((a++b).map Word.e)]):=by
  refine Eq.trans (jw (q:=[.int .i64 1,.list (a.map Word.e)]) ?_) ?_
  ·show jF _ 2 0 []=_
   unfold jF
   simp (disch:=first|assumption|omega|(simp only[zL];omega)) only[Fx,oN,wrap64,Int.zero_add,Int.reduceAdd,Int.reduceLT,if_true,cD,Int.reduceEq,reduceIte,zU,zT,aa]
  refine Eq.trans (jw (q:=[.int .i64 2,.list ((a++b).map Word.e)]) ?_) ?_
  ·show jF _ 2 1 (a.map Word.e)=_
   unfold jF
   simp (disch:=first|assumption|omega|(simp only[zL];omega)) only[BM,oN,wrap64,Int.reduceAdd,Int.reduceLT,if_true,cD,List.map_append,Int.reduceEq,reduceIte,zU,zT,aa]
  refine BL ?_
  show jF _ 2 2 ((a++b).map Word.e)=_
  unfold jF
  simp only[Int.lt_irrefl,decide_false,ar]
  rfl
 exact congrArg upD key
theorem zG(ho:WOk w):∀ x∈w.ns++aM w.dk,WdOk x:=fun x hx=>by
 rcases List.mem_append.1 hx with h|h
 ·exact ho.ns x h
 ·exact(da ho.dk h).1
theorem Lb(ho:WOk w) :
  yJ [.bool w.dk.up,.list (w.dk.lg.rs.map Rec.e),.int .i64 w.dk.lg.f,.list (w.dk.td.map Word.e),.list (w.hs.map House.e),.list (w.ns.map Word.e)]=some (aY w).e:=by
 rw[q_cb]
 unfold F_cb
 have L0:∀ w:Wd,WOk w->aq (fun ps=>uP ((aa ps 0).toInt) ((aa ps 1).toBool) ((aa ps 2).toList) ((aa ps 3).toInt) ((aa ps 4).toList) ((aa ps 5).toList) ((aa ps 6).toList)) (.int .i64 0::w.e)=some (.ret (aX w).e):=by
  intro w ow
  rw[<-sN ow]
  refine am (l:=([0,1,2,3]:List Int)) (enc:=fun i (w:Wd)=>.int .i64 i::w.e) (res:=fun xs _ w=>.ret (xs.foldl cO w).e) (fun _ w=>WOk w) (s:=w) ow ?_ ?_
  ·intro i x xs w hx ow
   have hi:(i:Int)<4/\x=(i:Int):=by
    have:=(List.getElem?_eq_some_iff.1 hx).1
    simp at this
    have h4:i=0\/i=1\/i=2\/i=3:=by omega
    rcases h4 with e|e|e|e<;>subst e<;>simp at hx<;>subst hx<;>simp
   obtain⟨hi,rfl⟩:=hi
   have he:=mR (up:=w.dk.up) (rs:=w.dk.lg.rs) (f:=w.dk.lg.f) (td:=w.dk.td) (hs:=w.hs) (ns:=w.ns) ow (i:=(i:Int))
   refine .inl ⟨cO w i,?_,ow.forceEv _,rfl⟩
   simp only[Wd.e,aa,C.toInt_int,C.toBool_bool,C.toList_list]
   unfold uP
   simp only[aT,hi,if_true,he]
   simp only[lw,lx,jI]
   simp only[Wd.e,dR,aa,C.toInt_int,C.toList_list,C.toBool_bool]
   rw[ap (by omega)]
  ·intro w ow
   have h:¬ (((4:Nat):Int)<4):=by omega
   simp only[List.length_cons,List.length_nil,Wd.e,aa,C.toInt_int,C.toBool_bool,C.toList_list]
   unfold uP
   simp only[aT,h,if_false]
   rfl
 have L1:∀(l:List Word) (w:Wd),l.length<=1000->WOk w->(∀ x∈l,WdOk x)->aq (fun ps=>uQ (l.map Word.e) ((l.length:Nat):Int) ((aa ps 0).toInt) ((aa ps 1).toBool) ((aa ps 2).toList) ((aa ps 3).toInt) ((aa ps 4).toList) ((aa ps 5).toList) ((aa ps 6).toList))
   [.int .i64 0,.bool w.dk.up,.list (w.dk.lg.rs.map Rec.e),.int .i64 w.dk.lg.f,.list (w.ns.map Word.e),.list (w.dk.td.map Word.e),.list (w.hs.map House.e)]=some (.ret (aX {cE w l with ns:=[]}).e):=by
  intro l w hl ow hw
  refine am (l:=l) (enc:=fun i (w:Wd)=>[.int .i64 i,.bool w.dk.up,.list (w.dk.lg.rs.map Rec.e),.int .i64 w.dk.lg.f,.list (w.ns.map Word.e),.list (w.dk.td.map Word.e),.list (w.hs.map House.e)]) (res:=fun xs _ w=>.ret (aX {cE w xs with ns:=[]}).e) (fun _ w=>WOk w) (s:=w) ow ?_ ?_
  ·intro i x xs w hx ow
   have hi:=(List.getElem?_eq_some_iff.1 hx).1
   have hi':(i:Int)<(l.length:Nat):=by omega
   have hxo:=hw x (List.mem_of_getElem? hx)
   have hhe:=BK (up:=w.dk.up) (rs:=w.dk.lg.rs) (f:=w.dk.lg.f) (td:=w.dk.td) (hs:=w.hs) (ns:=w.ns) (k:=x.k) (h:=x.h) (t:=x.t) (m:=x.m) ow hxo
   have o2:=ow.hear hxo
   refine .inl ⟨bj w x,?_,ow.hear2 hxo,rfl⟩
   simp only[aa,C.toInt_int,C.toBool_bool,C.toList_list]
   unfold uQ
   have hd:(decide ((0:Int)<=(i:Int)) && decide ((i:Int)<(((l.map Word.e).length:Nat):Int)))=true:=by simp;omega
   rw[AZ (by omega) (by simpa using hx)]
   simp only[aT,hi',if_true,hd,dq,Word.e,aa,C.toInt_int,Hq,hhe]
   simp only[lw,lx,jI,vx]
   unfold bj
   generalize bp w x=q at o2 ⊢
   obtain⟨q1,q2⟩:=q
   rw[ap (by omega)]
   cases q2 with
   | none =>
    simp only[oW,Word.e,Wd.e,List.cons_append,List.nil_append,Option.isSome_none]
    rw[bR rfl]
    rfl
   | some y =>
    have hq:WOk q1:=o2.1
    have hy:=Fv (up:=q1.dk.up) (rs:=q1.dk.lg.rs) (f:=q1.dk.lg.f) (td:=q1.dk.td) (k:=y.k) (h:=y.h) (t:=y.t) (m:=y.m) hq.dk
    have h4:=(o2.2 y rfl).2
    simp only[oW,Word.e,Wd.e,List.cons_append,List.nil_append,Option.isSome_some,Option.getD_some]
    rw[bR rfl]
    simp only[aa,C.toBool_bool,C.toList_list,C.toInt_int,ax,hy]
    simp only[lw,lx,vx]
    rw[jt h4]
    simp only[Desk.e]
    rw[bR rfl]
    rfl
  ·intro w ow
   have h:¬ ((l.length:Int)<(l.length:Nat)):=by omega
   simp only[aa,C.toInt_int,C.toBool_bool,C.toList_list]
   unfold uQ
   simp only[aT,h,if_false]
   have:=L0 {w with ns:=[]} ⟨ow.dk,ow.len,ow.hs,by simp,by simp⟩
   simp only[Wd.e,List.map_nil]at this
   rw[this];rfl
 refine Eq.trans (congrArg ai (am (l:=([0,1,2,3]:List Int)) (enc:=fun i (w:Wd)=>.int .i64 i::w.e) (res:=fun xs _ v=>.ret (aX (cE {xs.foldl (fun w i=>cF w ⟨9,i,0,[]⟩) v with ns:=[]} ((xs.foldl (fun w i=>cF w ⟨9,i,0,[]⟩) v).ns++aM (xs.foldl (fun w i=>cF w ⟨9,i,0,[]⟩) v).dk))).e) (fun _ v=>WOk v) (s:=w) ho ?_ ?_)) ?_
 ·intro i x xs w hx ow
  have hi:(i:Int)<4/\x=(i:Int):=by
   have:=(List.getElem?_eq_some_iff.1 hx).1
   simp at this
   have h4:i=0\/i=1\/i=2\/i=3:=by omega
   rcases h4 with e|e|e|e<;>subst e<;>simp at hx<;>subst hx<;>simp
  obtain⟨hi,rfl⟩:=hi
  have he:=oZ (up:=w.dk.up) (rs:=w.dk.lg.rs) (f:=w.dk.lg.f) (td:=w.dk.td) (hs:=w.hs) (ns:=w.ns) ow (i:=(i:Int))
  refine .inl ⟨cF w ⟨9,i,0,[]⟩,?_,ow.node _,rfl⟩
  simp only[Wd.e,aa,C.toInt_int,C.toBool_bool,C.toList_list]
  unfold AF
  simp only[aT,hi,if_true,he]
  simp only[lw,lx,jI]
  simp only[Wd.e,dR,aa,C.toInt_int,C.toList_list,C.toBool_bool]
  rw[ap (by omega)]
 ·intro v ow
  have h:¬ (((4:Nat):Int)<4):=by omega
  have hdw:=dI ow.dk
  have hnl:=ow.nlen
  simp only[List.length_cons,List.length_nil,Wd.e,aa,C.toInt_int,C.toBool_bool,C.toList_list]
  unfold AF
  have hwd:=ug (up:=v.dk.up) (rs:=v.dk.lg.rs) (f:=v.dk.lg.f) (td:=v.dk.td) ow.dk
  simp only[aT,h,if_false,hwd,sB,aa,C.toList_list]
  simp only[lw,lx]
  rw[EB (by omega) (by omega)]
  simp only[sB,aa,C.toList_list,List.length_map]
  have:=L1 (v.ns++aM v.dk) v (by rw[List.length_append];omega) ow (zG ow)
  refine(congrArg upD this).trans ?_
  show _=some (Out.up (.ret (aX (cE {v with ns:=[]} (v.ns++aM v.dk))).e))
  rw[sM (v.ns++aM v.dk) v []]
  rfl
 ·rw[EA ho]
  rfl
theorem wq(ho:WOk w){r:Int}(hr:0<=r/\r<=9) :
  uR [.bool w.dk.up,.list (w.dk.lg.rs.map Rec.e),.int .i64 w.dk.lg.f,.list (w.dk.td.map Word.e),.list (w.hs.map House.e),.list (w.ns.map Word.e),.int .i64 r]=some (cH w r.toNat).e:=by
 rw[q_cr]
 unfold F_cr
 rw[sL ho]
 have hin:in_ r 0 9=true:=in_iff.2 hr
 simp only[zp,aa,C.toBool_bool,Bool.not_true,ar,kh,hin]
 rw[qR ho]
 obtain⟨n,rfl⟩:∃ n:Nat,r=n:=⟨r.toNat,by omega⟩
 simp only[Wd.e,dR,aa,C.toInt_int,C.toList_list,C.toBool_bool]
 refine Eq.trans (congrArg ai (am (l:=List.replicate n ()) (enc:=fun i (w:Wd)=>.int .i64 i::w.e) (res:=fun xs _ v=>.ret (cH v xs.length).e) (fun _ v=>WOk v) (s:=w) ho ?_ ?_)) ?_
 ·intro i x xs w hx ow
  have hi:=(List.getElem?_eq_some_iff.1 hx).1
  rw[List.length_replicate]at hi
  have hi':(i:Int)<(n:Nat):=by omega
  refine .inl ⟨aY w,?_,ow.round,rfl⟩
  simp only[Wd.e,aa,C.toInt_int,C.toBool_bool,C.toList_list]
  unfold AG
  simp only[aT,hi',if_true,Lb ow]
  simp only[Wd.e,dR,aa,C.toInt_int,C.toList_list,C.toBool_bool]
  rw[ap (by omega)]
 ·intro v ow
  have h:¬ ((n:Int)<(n:Nat)):=by omega
  simp only[List.length_replicate,Wd.e,aa,C.toInt_int,C.toBool_bool,C.toList_list]
  unfold AG
  simp only[aT,h,if_false]
  rfl
 ·rw[List.length_replicate];rfl
end
end Dx
namespace Dx
open Go
end Dx
