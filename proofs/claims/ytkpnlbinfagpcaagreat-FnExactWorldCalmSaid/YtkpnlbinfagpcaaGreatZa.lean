import Derived.Test.YtkpnlbinfagpcaaGreatTa
import Derived.Test.YtkpnlbinfagpcaaGreatYq1
import Derived.Test.YtkpnlbinfagpcaaGreatYq2
import Derived.Test.YtkpnlbinfagpcaaGreatYq3
set_option linter.all false
namespace Dx
open Go
theorem wrap64{x:Int}(h1:-9223372036854775808<=x)(h2:x<=9223372036854775807):IntKind.wrap .i64 x=x:=by
 have e:IntKind.wrap .i64 x=if x % 18446744073709551616>=9223372036854775808 then x % 18446744073709551616-18446744073709551616 else x % 18446744073709551616:=by
  simp[IntKind.wrap,IntKind.bits,IntKind.signed]
 rw[e]
 split<;>omega
theorem Bq{i:Nat}(h:i<=aR):IntKind.wrap .i64 ((i:Int)+1)=((i+1:Nat):Int):=by
 rw[wrap64]<;>(simp[aR]at h;omega)
theorem bB{cs:List C}{ks:List CK}{f:List C->Option Out}(hk:ai ks cs=true):ac (some cs) ks f=f cs:=by
 simp only[ac,af,hk,gu hk]
theorem Dv(x0:List (List C))(f:List C->Option Out):ac (some [.list x0]) [.list] f=f [.list x0]:=rfl
theorem ry(x0:Bool)(f:List C->Option Out):ac (some [.bool x0]) [.bool] f=f [.bool x0]:=rfl
theorem cd_i(x0:Int)(f:List C->Option Out):ac (some [.int .i64 x0]) [(.int .i64)] f=f [.int .i64 x0]:=rfl
theorem Jv(x0:List (List C))(x1:Bool)(f:List C->Option Out):ac (some [.list x0,.bool x1]) [.list,.bool] f=f [.list x0,.bool x1]:=rfl
theorem cd_bb(x0:Bool)(x1:Bool)(f:List C->Option Out):ac (some [.bool x0,.bool x1]) [.bool,.bool] f=f [.bool x0,.bool x1]:=rfl
theorem Jw(x0:List (List C))(x1:Int)(f:List C->Option Out):ac (some [.list x0,.int .i64 x1]) [.list,(.int .i64)] f=f [.list x0,.int .i64 x1]:=rfl
theorem cd_il(x0:Int)(x1:List (List C))(f:List C->Option Out):ac (some [.int .i64 x0,.list x1]) [(.int .i64),.list] f=f [.int .i64 x0,.list x1]:=rfl
theorem Ka(x0:List (List C))(x1:Int)(x2:Bool)(f:List C->Option Out):ac (some [.list x0,.int .i64 x1,.bool x2]) [.list,(.int .i64),.bool] f=f [.list x0,.int .i64 x1,.bool x2]:=rfl
theorem Kb(x0:List (List C))(x1:List (List C))(x2:Int)(f:List C->Option Out):ac (some [.list x0,.list x1,.int .i64 x2]) [.list,.list,(.int .i64)] f=f [.list x0,.list x1,.int .i64 x2]:=rfl
theorem Kc(x0:Int)(x1:List (List C))(x2:Bool)(f:List C->Option Out):ac (some [.int .i64 x0,.list x1,.bool x2]) [(.int .i64),.list,.bool] f=f [.int .i64 x0,.list x1,.bool x2]:=rfl
theorem Kd(x0:Int)(x1:List (List C))(x2:Int)(f:List C->Option Out):ac (some [.int .i64 x0,.list x1,.int .i64 x2]) [(.int .i64),.list,(.int .i64)] f=f [.int .i64 x0,.list x1,.int .i64 x2]:=rfl
theorem Ke(x0:Int)(x1:Int)(x2:List (List C))(f:List C->Option Out):ac (some [.int .i64 x0,.int .i64 x1,.list x2]) [(.int .i64),(.int .i64),.list] f=f [.int .i64 x0,.int .i64 x1,.list x2]:=rfl
theorem rz(x0:Bool)(x1:List (List C))(x2:Int)(x3:List (List C))(f:List C->Option Out):ac (some [.bool x0,.list x1,.int .i64 x2,.list x3]) [.bool,.list,(.int .i64),.list] f=f [.bool x0,.list x1,.int .i64 x2,.list x3]:=rfl
theorem gW(x0:Bool)(x1:List (List C))(x2:Int)(x3:List (List C))(x4:Bool)(f:List C->Option Out):ac (some [.bool x0,.list x1,.int .i64 x2,.list x3,.bool x4]) [.bool,.list,(.int .i64),.list,.bool] f=f [.bool x0,.list x1,.int .i64 x2,.list x3,.bool x4]:=rfl
theorem jH(x0:Bool)(x1:Bool)(x2:List (List C))(x3:Int)(x4:List (List C))(f:List C->Option Out):ac (some [.bool x0,.bool x1,.list x2,.int .i64 x3,.list x4]) [.bool,.bool,.list,(.int .i64),.list] f=f [.bool x0,.bool x1,.list x2,.int .i64 x3,.list x4]:=rfl
theorem bE(x0:Bool)(x1:List (List C))(x2:Int)(x3:List (List C))(x4:List (List C))(x5:List (List C))(f:List C->Option Out):ac (some [.bool x0,.list x1,.int .i64 x2,.list x3,.list x4,.list x5]) [.bool,.list,(.int .i64),.list,.list,.list] f=f [.bool x0,.list x1,.int .i64 x2,.list x3,.list x4,.list x5]:=rfl
theorem Cx(x0:Int)(x1:Bool)(x2:Int)(x3:List (List C))(x4:Int)(f:List C->Option Out):ac (some [.int .i64 x0,.bool x1,.int .i64 x2,.list x3,.int .i64 x4]) [(.int .i64),.bool,(.int .i64),.list,(.int .i64)] f=f [.int .i64 x0,.bool x1,.int .i64 x2,.list x3,.int .i64 x4]:=rfl
theorem xG(x0:Bool)(x1:List (List C))(x2:Int)(x3:List (List C))(x4:List (List C))(x5:List (List C))(x6:Bool)(f:List C->Option Out):ac (some [.bool x0,.list x1,.int .i64 x2,.list x3,.list x4,.list x5,.bool x6]) [.bool,.list,(.int .i64),.list,.list,.list,.bool] f=f [.bool x0,.list x1,.int .i64 x2,.list x3,.list x4,.list x5,.bool x6]:=rfl
theorem Cy(x0:Int)(x1:Int)(x2:Int)(x3:Int)(x4:Bool)(f:List C->Option Out):ac (some [.int .i64 x0,.int .i64 x1,.int .i64 x2,.int .i64 x3,.bool x4]) [(.int .i64),(.int .i64),(.int .i64),(.int .i64),.bool] f=f [.int .i64 x0,.int .i64 x1,.int .i64 x2,.int .i64 x3,.bool x4]:=rfl
theorem kx(x0:Int)(x1:Bool)(x2:Int)(x3:List (List C))(x4:Int)(x5:Bool)(f:List C->Option Out):ac (some [.int .i64 x0,.bool x1,.int .i64 x2,.list x3,.int .i64 x4,.bool x5]) [(.int .i64),.bool,(.int .i64),.list,(.int .i64),.bool] f=f [.int .i64 x0,.bool x1,.int .i64 x2,.list x3,.int .i64 x4,.bool x5]:=rfl
theorem Br(x0:Int)(x1:Int)(x2:Int)(x3:List (List C))(x4:List (List C))(x5:Int)(f:List C->Option Out):ac (some [.int .i64 x0,.int .i64 x1,.int .i64 x2,.list x3,.list x4,.int .i64 x5]) [(.int .i64),(.int .i64),(.int .i64),.list,.list,(.int .i64)] f=f [.int .i64 x0,.int .i64 x1,.int .i64 x2,.list x3,.list x4,.int .i64 x5]:=rfl
theorem oN(x0:List (List C))(x1:List (List C))(x2:Bool)(x3:List (List C))(x4:Int)(x5:List (List C))(x6:List (List C))(x7:List (List C))(x8:List (List C))(x9:Int)(f:List C->Option Out):ac (some [.list x0,.list x1,.bool x2,.list x3,.int .i64 x4,.list x5,.list x6,.list x7,.list x8,.int .i64 x9]) [.list,.list,.bool,.list,(.int .i64),.list,.list,.list,.list,(.int .i64)] f=f [.list x0,.list x1,.bool x2,.list x3,.int .i64 x4,.list x5,.list x6,.list x7,.list x8,.int .i64 x9]:=rfl
theorem l7(x0:Bool)(x1:List (List C))(x2:Int)(x3:List (List C))(x4:List (List C))(x5:List (List C))(x6:Int)(x7:Int)(x8:Int)(x9:Int)(x10:Bool)(f:List C->Option Out):ac (some [.bool x0,.list x1,.int .i64 x2,.list x3,.list x4,.list x5,.int .i64 x6,.int .i64 x7,.int .i64 x8,.int .i64 x9,.bool x10]) [.bool,.list,(.int .i64),.list,.list,.list,(.int .i64),(.int .i64),(.int .i64),(.int .i64),.bool] f=f [.bool x0,.list x1,.int .i64 x2,.list x3,.list x4,.list x5,.int .i64 x6,.int .i64 x7,.int .i64 x8,.int .i64 x9,.bool x10]:=rfl
theorem oO(x0:Int)(x1:Bool)(x2:Int)(x3:List (List C))(x4:Int)(x5:Int)(x6:Int)(x7:Int)(x8:Int)(x9:Bool)(f:List C->Option Out):ac (some [.int .i64 x0,.bool x1,.int .i64 x2,.list x3,.int .i64 x4,.int .i64 x5,.int .i64 x6,.int .i64 x7,.int .i64 x8,.bool x9]) [(.int .i64),.bool,(.int .i64),.list,(.int .i64),(.int .i64),(.int .i64),(.int .i64),(.int .i64),.bool] f=f [.int .i64 x0,.bool x1,.int .i64 x2,.list x3,.int .i64 x4,.int .i64 x5,.int .i64 x6,.int .i64 x7,.int .i64 x8,.bool x9]:=rfl
theorem mC{es:List (List C)}{i:Int}{r:List C}(h0:0<=i)(hx:es[i.toNat]?=some r){kk:IntKind}{ks:List CK}{f:List C->Option Out}(hk:ai ks r=true):aH (.list es) (.int kk i) ks f=f r:=by
 obtain⟨n,rfl⟩:=Int.eq_ofNat_of_zero_le h0
 unfold aH
 simp only[C.toInt,C.toList]
 show (match es[n]? with|some r=>af (ai ks r) (f (kh r 0 ks))|none=>none)=f r
 rw[show es[n]?=some r from hx]
 simp only[af,hk,gu hk]
theorem eP{α:Type}{e:α->List C}{l:List α}{i:Nat}{x:α}(hx:l[i]?=some x){kk:IntKind}{ks:List CK}{f:List C->Option Out}(hk:ai ks (e x)=true):aH (.list (l.map e)) (.int kk i) ks f=f (e x) :=
 mC (by omega) (by simp[hx]) hk
theorem ei{α:Type}{e:α->List C}{l:List α}{i:Int}{x:α}(h0:0<=i)(hx:l[i.toNat]?=some x){kk:IntKind}{ks:List CK}{f:List C->Option Out}(hk:ai ks (e x)=true):aH (.list (l.map e)) (.int kk i) ks f=f (e x) :=
 mC h0 (by simp[hx]) hk
theorem qt{α σ:Type}{F:List C->Option Out}{l:List α}{enc:Nat->σ->List C}{res:List α->Nat->σ->Out}{P:Nat->σ->Prop}
  (hs:∀(i:Nat) (x:α) (xs:List α) (s:σ),l[i]?=some x->P i s->(∃ s',F (enc i s)=some (.jump (enc (i+1) s'))/\P (i+1) s'/\res (x::xs) i s=res xs (i+1) s')\/(∃ o,F (enc i s)=some (.up o)/\res (x::xs) i s=o))
  (hf:∀ s,P l.length s->F (enc l.length s)=some (.up (res [] l.length s))):∀(n i:Nat) (s:σ),n+i=l.length->P i s->am F (enc i s)=some (res (l.drop i) i s)
 | 0,i,s,hn,h=>by
  have:i=l.length:=by omega
  subst this
  rw[jU,hf s h,List.drop_of_length_le (Nat.le_refl _)]
  rfl
 | n+1,i,s,hn,h=>by
  have hi:i<l.length:=by omega
  have hx:l[i]?=some l[i]:=by simp[hi]
  rw[jU,List.drop_eq_getElem_cons hi]
  rcases hs i _ (l.drop (i+1)) s hx h with ⟨s',h1,h2,h3⟩|⟨o,h1,h2⟩
  ·rw[h1,h3]
   simp only[bH]
   exact qt hs hf n (i+1) s' (by omega) h2
  ·rw[h1,h2]
   rfl
theorem ak{α σ:Type}{F:List C->Option Out}{l:List α}{enc:Nat->σ->List C}{res:List α->Nat->σ->Out}(P:Nat->σ->Prop){s:σ}(h:P 0 s)
  (hs:∀(i:Nat) (x:α) (xs:List α) (s:σ),l[i]?=some x->P i s->(∃ s',F (enc i s)=some (.jump (enc (i+1) s'))/\P (i+1) s'/\res (x::xs) i s=res xs (i+1) s')\/(∃ o,F (enc i s)=some (.up o)/\res (x::xs) i s=o))
  (hf:∀ s,P l.length s->F (enc l.length s)=some (.up (res [] l.length s))):am F (enc 0 s)=some (res l 0 s):=by
 have:=qt hs hf l.length 0 s (by omega) h
 simpa using this
def eI(n:Int):List C:=[.int .i64 n]
def eB(n:Int):List C:=[.int .u8 n]
def Rec.e(r:Rec):List C:=[.int .i64 r.k,.int .i64 r.t,.list (r.m.map eI)]
def Log.e(l:Log):List C:=[.list (l.rs.map Rec.e),.int .i64 l.f]
def Hold.e(h:Hold):List C:=[.int .i64 h.m,.int .i64 h.s]
def Stock.e(s:Stock):List C:=[.int .i64 s.room,.list (s.hs.map Hold.e)]
def Word.e(w:Word):List C:=[.int .i64 w.k,.int .i64 w.h,.int .i64 w.t,.int .i64 w.m]
def House.e(h:House):List C:=[.int .i64 h.id,.bool h.up,.int .i64 h.room,.list (h.lg.rs.map Rec.e),.int .i64 h.lg.f]
def Trip.e(t:Trip):List C:=[.list (t.m.map eI),.int .i64 t.s]
def Desk.e(d:Desk):List C:=[.bool d.up,.list (d.lg.rs.map Rec.e),.int .i64 d.lg.f,.list (d.td.map Word.e)]
def Wd.e(w:Wd):List C:=[.bool w.dk.up,.list (w.dk.lg.rs.map Rec.e),.int .i64 w.dk.lg.f,.list (w.dk.td.map Word.e),.list (w.hs.map House.e),.list (w.ns.map Word.e)]
def Ev.e(e:Ev):List C:=[.int .i64 e.k,.int .i64 e.a,.int .i64 e.b,.list (e.m.map eI)]
section
variable {kk:IntKind} {i:Nat} {f:List C->Option Out}
theorem gG{l:List Int}{x:Int}(h:l[i]?=some x):aH (.list (l.map eI)) (.int kk i) [.int .i64] f=f (eI x):=eP h rfl
theorem fF{l:List Rec}{x:Rec}(h:l[i]?=some x):aH (.list (l.map Rec.e)) (.int kk i) [.int .i64,.int .i64,.list] f=f x.e:=eP h rfl
theorem Fc{l:List Hold}{x:Hold}(h:l[i]?=some x):aH (.list (l.map Hold.e)) (.int kk i) [.int .i64,.int .i64] f=f x.e:=eP h rfl
theorem gH{l:List Word}{x:Word}(h:l[i]?=some x):aH (.list (l.map Word.e)) (.int kk i) [.int .i64,.int .i64,.int .i64,.int .i64] f=f x.e:=eP h rfl
theorem xH{l:List Trip}{x:Trip}(h:l[i]?=some x):aH (.list (l.map Trip.e)) (.int kk i) [.list,.int .i64] f=f x.e:=eP h rfl
theorem dV{l:List House}{x:House}(h:l[i]?=some x):aH (.list (l.map House.e)) (.int kk i) [.int .i64,.bool,.int .i64,.list,.int .i64] f=f x.e:=eP h rfl
end
end Dx
namespace Dx
open Go
@[simp] theorem aI (t e:Option Out):ae true t e=t:=rfl
@[simp] theorem aF (t e:Option Out):ae false t e=e:=rfl
theorem Cz(b:Bool)(t e:Option Out):ae (!b) t e=ae b e t:=by cases b<;>rfl
theorem aK(p:Prop)[Decidable p](t e:Option Out):ae (decide p) t e=if p then t else e:=by by_cases h:p<;>simp[h,ae]
theorem Dw(b:Bool)(t e:Option Out):ae b t e=if b=true then t else e:=by cases b<;>rfl
theorem bo(a b:Int)(t e:Option Out):ae (a==b) t e=if a=b then t else e:=by rw[Dw];simp
theorem zW(a b:Int)(t e:Option Out):ae (a != b) t e=if a=b then e else t:=by rw[Dw];by_cases h:a=b<;>simp[h]
theorem bQ{b:Bool}{k:Option Out}(h:b=true):af b k=k:=by subst h;rfl
@[simp] theorem aG (cs:List C):ah (some (.ret cs))=some cs:=rfl
theorem CA(o:Out):ah (some (.up o))=none:=rfl
@[simp] theorem jZ (o:Out):upD (some o)=some (.up o):=rfl
theorem ky(p:Prop)[Decidable p](a b:Option Out):ah (if p then a else b)=if p then ah a else ah b:=by split<;>rfl
theorem ap{i:Nat}(h:i<=1099511627776):IntKind.wrap .i64 ((i:Int)+1)=((i+1:Nat):Int):=Bq h
theorem eJ(t:Option Out):cT t t=t:=by unfold cT;rw[if_pos rfl]
theorem uA(x w:Word):(([x.k,x.h,x.t,x.m]:List Int)==[w.k,w.h,w.t,w.m])=decide (x=w):=by
 obtain⟨a,b,c,d⟩:=x;obtain⟨a',b',c',d'⟩:=w
 rw[Bool.eq_iff_iff];simp
theorem Dy(s:Stock):(⟨s.room,s.hs⟩:Stock)=s:=rfl
theorem eta_R(s:Rec):(⟨s.k,s.t,s.m⟩:Rec)=s:=rfl
theorem th(s:Word):(⟨s.k,s.h,s.t,s.m⟩:Word)=s:=rfl
theorem jI(s:Log):(⟨s.rs,s.f⟩:Log)=s:=rfl
theorem jJ(s:Desk):(⟨s.up,s.lg,s.td⟩:Desk)=s:=rfl
theorem eta_H(s:House):(⟨s.id,s.up,s.room,s.lg⟩:House)=s:=rfl
theorem eta_T(s:Trip):(⟨s.m,s.s⟩:Trip)=s:=rfl
theorem iv(s:Wd):(⟨s.dk,s.hs,s.ns⟩:Wd)=s:=rfl
theorem Kf(s:Ev):(⟨s.k,s.a,s.b,s.m⟩:Ev)=s:=rfl
@[simp] theorem dP (k:Option Out):af true k=k:=rfl
theorem Bs{p:Prop}[Decidable p](h:p)(k:Option Out):af (decide p) k=k:=by simp[h,af]
theorem cZ{p q:Prop}[Decidable p][Decidable q](h1:p)(h2:q)(k:Option Out):af (decide p && decide q) k=k:=by simp[h1,h2,af]
@[simp] theorem aZ (ps:List C) (k:List C->Option Out):bH (some (.jump ps)) k=k ps:=rfl
theorem fH(p:Prop)[Decidable p](a b:Option Out)(k:List C->Option Out):bH (if p then a else b) k=if p then bH a k else bH b k:=by split<;>rfl
theorem FQ{b:Bool}{k:Option Out}(h:b=true):ah (af b k)=ah k:=by subst h;rfl
theorem le_B{i n:Int}(h1:0<=i)(h2:i<=n):(decide ((0:Int)<=i) && decide (i<=n))=true:=by simp[h1,h2]
theorem lt_B{i n:Int}(h1:0<=i)(h2:i<n):(decide ((0:Int)<=i) && decide (i<n))=true:=by simp[h1,h2]
theorem cf:aR=1099511627776:=rfl
theorem rA(m:List Int):(m.map eI).all (ai [.int .i64])=true:=by simp[List.all_map,eI,ai,fb,dX,Function.comp_def]
theorem mD(m:List Word):(m.map Word.e).all (ai [.int .i64,.int .i64,.int .i64,.int .i64])=true:=by simp[List.all_map,Word.e,ai,fb,dX,Function.comp_def]
theorem FR(m:List Rec):(m.map Rec.e).all (ai [.int .i64,.int .i64,.list])=true:=by simp[List.all_map,Rec.e,ai,fb,dX,Function.comp_def]
theorem bR{α:Type}{e:α->List C}{l:List α}{off j:Nat}{cs:List C}{x y:α}(hx:l[j]?=some x)(hy:rK (e x) off cs=e y):setRow off (l.map e) j cs=(l.set j y).map e:=by
 unfold setRow
 simp only[List.getElem?_map,hx,Option.map_some,hy,List.map_set]
theorem bC(n lo hi:Int):bZ [.int .i64 n,.int .i64 lo,.int .i64 hi]=some [.bool (in_ n lo hi)]:=by
 rw[q_hm]
 simp only[F_hm,ge_iff_le,in_]
 cases decide (lo<=n)<;>rfl
theorem rB{l:List Trip}{t:Int}(h1:1<=t)(h2:t<=l.length):l[(t-1).toNat]?=some (tAt l t):=by rw[te (by omega)];exact List.getElem?_eq_getElem (by omega)
theorem rC{l:List Hold}{t:Int}(h1:1<=t)(h2:t<=l.length):l[(t-1).toNat]?=some (hAt l t):=by rw[tc (by omega)];exact List.getElem?_eq_getElem (by omega)
theorem Dz{l:List Trip}{t:Int}(h1:1<=t)(h2:t<=l.length){kk:IntKind}{f:List C->Option Out}:aH (.list (l.map Trip.e)) (.int kk (t-1)) [.list,.int .i64] f=f (tAt l t).e :=
 ei (by omega) (rB h1 h2) rfl
theorem FS{l:List Hold}{t:Int}(h1:1<=t)(h2:t<=l.length){kk:IntKind}{f:List C->Option Out}:aH (.list (l.map Hold.e)) (.int kk (t-1)) [.int .i64,.int .i64] f=f (hAt l t).e :=
 ei (by omega) (rC h1 h2) rfl
def zL:=And.intro @List.length_append.{0}<|And.intro @List.length_map.{0,0}<|And.intro @List.length_cons.{0}<|@List.length_nil.{0}
def zS:=And.intro @Bool.and_true<|And.intro @List.length_map.{0,0}<|And.intro @List.length_nil.{0}<|And.intro @List.length_cons.{0}<|@List.nil_append.{0}
def zT:=And.intro zS<|And.intro @Cz<|And.intro @aI<|And.intro @aF<|And.intro @Dy<|And.intro @eta_R<|And.intro @th<|And.intro @jI<|And.intro @jJ<|And.intro @eta_H<|And.intro @eta_T<|And.intro @iv<|And.intro @Kf<|And.intro @cf<|And.intro @dP<|And.intro @Bs<|And.intro @cZ<|And.intro @rA<|And.intro @mD<|And.intro @FR<|And.intro @aG<|And.intro @CA<|And.intro @jZ<|And.intro @FQ<|And.intro @aZ<|And.intro @Dv<|And.intro @ry<|And.intro @cd_i<|And.intro @Jv<|And.intro @cd_bb<|And.intro @Jw<|And.intro @cd_il<|And.intro @Ka<|And.intro @Kb<|And.intro @Kc<|And.intro @Kd<|And.intro @Ke<|And.intro @rz<|And.intro @gW<|And.intro @jH<|And.intro @bE<|And.intro @Cx<|And.intro @xG<|And.intro @Cy<|And.intro @kx<|And.intro @Br<|And.intro @oN<|And.intro @l7<|And.intro @oO<|And.intro @C.toInt_int<|And.intro @C.toBool_bool<|And.intro @C.toList_list<|@C.toStr_str
def zU:=And.intro @bo<|And.intro @zW<|And.intro @aK<|And.intro @ky<|@fH
theorem uB{l:List Trip}(hl:l.length<=1099511627776){k t:Int}{m:List Int}(hr:aD ⟨k,t,m⟩=true) :
  pr [.list (l.map Trip.e),.int .i64 k,.int .i64 t,.list (m.map eI)]=some [.bool (cm l ⟨k,t,m⟩)]:=by
 have ht:=cy hr
 simp only at ht
 rw[q_go]
 simp (disch:=first|assumption|omega|(simp only[zL];omega)) only[F_go,cm,wrap64,Int.reduceEq,reduceIte,zU,zT,aa]
 split
 ·rfl
 ·split
  ·rfl
  ·simp (disch:=first|assumption|omega|(simp only[zL];omega)) only[Dz,Trip.e,Int.reduceEq,reduceIte,zU,zT,aa]
   grind
theorem FT{l:List Trip}(hl:l.length<=1099511627775){k t:Int}{m:List Int}(hr:aD ⟨k,t,m⟩=true)(hm:cm l ⟨k,t,m⟩=true)(hT:TrOk l) :
  cU [.list (l.map Trip.e),.int .i64 k,.int .i64 t,.list (m.map eI)]=some [.list ((ct l ⟨k,t,m⟩).map Trip.e)]:=by
 have ht:=cy hr
 have hml:=dx hr
 simp only at ht hml
 rw[re]
 rcases jE hr hm with ⟨h4,h⟩|⟨h1,h2,h⟩
 ·simp only at h4;subst h4
  have c1:decide (([]:List (List C)).length+(m.map eI).length<=aR)=true:=by simp[cf];omega
  have c2:decide ((l.map Trip.e).length+[[C.list (m.map eI),C.int .i64 1]].length<=aR)=true:=by simp[cf];omega
  simp only[fW,ct,bo,if_true,bQ (rA m),bQ c1,List.nil_append,bQ c2]
  simp[aG,Trip.e]
 ·simp only at h1 h2 h
  have hx:=rB h1 h2
  have hw:IntKind.wrap .i64 (t-1)=t-1:=wrap64 (by omega) (by omega)
  have hb:(decide ((0:Int)<=t-1) && decide (t-1<((l.map Trip.e).length:Nat)))=true:=lt_B (by omega) (by simp;omega)
  have st:∀ s:Int,setRow 1 (l.map Trip.e) (t-1).toNat [C.int .i64 s]=(l.set (t-1).toNat ⟨(tAt l t).m,s⟩).map Trip.e:=fun s=>bR hx rfl
  simp only[fW,hw,ct,bo,bQ hb,Dz h1 h2,Trip.e,aa,C.toInt,st]
  rcases h with ⟨h|h,_⟩|⟨h,hs⟩
  ·subst h;rfl
  ·subst h;rfl
  ·subst h;rw[wrap64 (by omega) (by omega)];rfl
end Dx
namespace Dx
open Go
theorem CB(m:List Int)(hL:m.length<=1099511627776):vH [.list (m.map eI)]=some [.bool (cI m)]:=by
 rw[q_gn];unfold F_gn
 have key:=ak (l:=m) (F:=fun ps=>si (m.map eI) ((aa ps 0).toInt) ((aa ps 1).toInt)) (enc:=fun i (s:Int)=>[.int .i64 s,.int .i64 i])
  (res:=fun xs _ s=>.ret [.bool (xs.all (fun n=>in_ n 0 3) && (m.length==3 && decide (s+xs.sum>0)))]) (fun i s=>0<=s/\s<=3*i) (s:=0) (by simp) ?_ ?_
 ·have key:am _ [C.int .i64 0,C.int .i64 0]=_:=key
  rw[key];simp[ah,cI]
 ·intro i x xs s hx ⟨h1,h2⟩
  have hi:=(List.getElem?_eq_some_iff.1 hx).1
  have hi':(i:Int)<(m.length:Nat):=by omega
  simp (disch:=first|assumption|omega|(simp only[zL];omega)) only[si,gG hx,bC,eI,ap,hi',if_true,Int.reduceEq,reduceIte,zU,zT,aa]
  cases hin:in_ x 0 3 with
  | true =>
   have:=in_iff.1 hin
   refine .inl ⟨s+x,?_,by omega,by simp[hin,Int.add_assoc]⟩
   simp (disch:=first|assumption|omega|(simp only[zL];omega)) only[aI,wrap64]
  | false=>exact .inr ⟨_,rfl,by simp[hin]⟩
 ·intro s _
  have h:¬ ((m.length:Int)<(m.length:Nat)):=by omega
  simp only[si,h,if_false,Int.reduceEq,reduceIte,zU,zT,aa]
  by_cases h3:m.length=3
  ·have h3':((m.length:Nat):Int)=3:=by omega
   simp[h3,upD]
  ·have h3':¬ ((m.length:Nat):Int)=3:=by omega
   simp[h3,h3',upD]
theorem mG{k t:Int}{m:List Int}(hL:m.length<=1099511627776):iJ [.int .i64 k,.int .i64 t,.list (m.map eI)]=some [.bool (aD ⟨k,t,m⟩)]:=by
 rw[q_hl]
 simp (disch:=first|assumption|omega|(simp only[zL];omega)) only[F_hl,bC,CB,aD,Int.reduceEq,reduceIte,zU,zT,aa]
 cases in_ t 1 6 with
 | false=>rfl
 | true =>
  simp only[Bool.true_and]
  by_cases h1:k=1
  ·simp only[h1,if_true]
   match m with
   | []=>rfl
   | [n]=>have hr:∀ f,aH (.list ([n].map eI)) (.int .i64 0) [.int .i64] f=f (eI n):=fun f=>rfl
          simp (disch:=first|assumption|omega|(simp only[zL];omega)) only[hr,eI,bC,Int.reduceEq,reduceIte,zU,zT,aa];rfl
   | a::b::l=>have:¬ ((((a::b::l).length:Nat):Int)=1):=by simp;omega
              simp only[List.length_map,this,if_false];rfl
  ·by_cases h4:k=4
   ·simp[h4,ah]
   ·simp only[h1,h4,if_false]
    cases in_ k 2 7 with
    | false=>rfl
    | true=>cases m with
     | nil=>rfl
     | cons a l=>simp;omega
theorem zX{rs:List Rec}{f k t:Int}{m:List Int}(hL:rs.length<=1099511627775) :
  pA [.list (rs.map Rec.e),.int .i64 f,.int .i64 k,.int .i64 t,.list (m.map eI)]=some [.list ((de ⟨rs,f⟩ ⟨k,t,m⟩).rs.map Rec.e),.int .i64 f,.bool (mn ⟨rs,f⟩)]:=by
 rw[q_hg]
 simp (disch:=first|assumption|omega|(simp only[zL];omega)) only[F_hg,de,mn,Int.reduceEq,reduceIte,zU,zT,aa]
 by_cases h:rs.length>=40
 ·have h':((rs.length:Nat):Int)>=40:=by omega
  simp only[h,h',if_true];simp
 ·have h':¬ (((rs.length:Nat):Int)>=40):=by omega
  simp only[h,h',if_false];simp[Rec.e]
theorem zY{rs:List Rec}(hL:rs.length<=2000000)(hm:∀ r∈rs,r.m.length<=1099511627776) :
  lr [.list (rs.map Rec.e)]=some [.list (((aS rs).getD []).map Trip.e),.bool (aS rs).isSome]:=by
 rw[q_hk];unfold F_hk
 have key:=ak (l:=rs) (F:=fun ps=>sk (rs.map Rec.e) ((aa ps 0).toInt) ((aa ps 1).toList)) (enc:=fun i (s:List Trip)=>[.int .i64 i,.list (s.map Trip.e)])
  (res:=fun xs _ s=>.ret [.list (((bL xs s).getD []).map Trip.e),.bool (bL xs s).isSome]) (fun _ s=>TrOk s) (s:=[]) TrOk.nil ?_ ?_
 ·have key:am _ [C.int .i64 0,C.list []]=_:=key
  rw[key];rfl
 ·intro i x xs s hx hs
  have hi:=(List.getElem?_eq_some_iff.1 hx).1
  have hi':(i:Int)<(rs.length:Nat):=by omega
  have hxm:=hm x (List.mem_of_getElem? hx)
  have hsl:=hs.len
  simp (disch:=first|assumption|omega|(simp only[zL];omega)) only[sk,fF hx,Rec.e,mG,ap,hi',if_true,Int.reduceEq,reduceIte,zU,zT,aa]
  cases hr:aD ⟨x.k,x.t,x.m⟩with
  | false=>exact .inr ⟨_,rfl,by simp[bL,hr]⟩
  | true =>
   simp (disch:=first|assumption|omega|(simp only[zL];omega)) only[uB,Int.reduceEq,reduceIte,zU,zT,aa]
   cases hmay:cm s ⟨x.k,x.t,x.m⟩with
   | false=>exact .inr ⟨_,rfl,by simp[bL,hr,hmay]⟩
   | true =>
    simp (disch:=first|assumption|omega|(simp only[zL];omega)) only[FT,Int.reduceEq,reduceIte,zU,zT,aa]
    exact .inl ⟨ct s x,rfl,mq hs hr hmay,by simp[bL,hr,hmay]⟩
 ·intro s _
  have h:¬ ((rs.length:Int)<(rs.length:Nat)):=by omega
  simp only[sk,h,if_false,Int.reduceEq,reduceIte,zU,zT,aa]
  rfl
def LgS(l:Log):Prop:=l.rs.length<=2000000/\∀ r∈l.rs,r.m.length<=1099511627776
theorem LgOk.S{l:Log}(h:LgOk l):LgS l:=⟨by have:=h.len;omega,fun r hr=>by have:=dx (h.ok r hr);omega⟩
theorem mJ{up:Bool}{rs:List Rec}{f:Int}{b:Bool}(hl:LgS ⟨rs,f⟩)(hf:b=true->0<=f/\f<=rs.length){tl:List (List C)} :
  eS [.bool up,.list (rs.map Rec.e),.int .i64 f,.list tl,.bool b]=some [.list ((aC ⟨rs,f⟩ b).map Trip.e)]:=by
 rw[q_dj]
 have ht:∀ n:Nat,(rs.map Rec.e).take n=(rs.take n).map Rec.e:=fun n=>by simp
 have h1:∀ n:Nat,lr [.list ((rs.take n).map Rec.e)]=_:=fun n=>zY (by simp;have:=hl.1;simp only at this;omega) (fun r hr=>hl.2 r (List.mem_of_mem_take hr))
 cases b with
 | true =>
  obtain⟨h2,h3⟩:=hf rfl
  simp only[F_dj,List.length_map,bQ (le_B h2 h3),ht,h1,aC,aO]
  simp (disch:=first|assumption|omega|(simp only[zL];omega)) only[Int.reduceEq,reduceIte,zU,zT,aa]
 | false =>
  have h2:(0:Int)<=(rs.length:Nat):=by omega
  simp only[F_dj,List.length_map,bQ (le_B h2 (Int.le_refl _)),ht,h1,aC,aO]
  simp (disch:=first|assumption|omega|(simp only[zL];omega)) only[Int.reduceEq,reduceIte,zU,zT,aa]
  simp only[Bool.false_eq_true,if_false,List.take_length,Int.toNat_natCast]
theorem jK{up:Bool}{rs:List Rec}{f:Int}(hl:LgS ⟨rs,f⟩){tl:List (List C)} :
  eS [.bool up,.list (rs.map Rec.e),.int .i64 f,.list tl,.bool false]=some [.list ((aC ⟨rs,f⟩ false).map Trip.e)]:=mJ hl (fun h=>by cases h)
theorem uC{up:Bool}{rs:List Rec}{f:Int}(hl:LgOk ⟨rs,f⟩){tl:List (List C)} :
  eS [.bool up,.list (rs.map Rec.e),.int .i64 f,.list tl,.bool true]=some [.list ((aC ⟨rs,f⟩ true).map Trip.e)]:=mJ hl.S (fun _=>⟨hl.lo,hl.hi⟩)
theorem eK{up:Bool}{rs:List Rec}{f:Int}{td:List Word}(hd:DkOk ⟨up,⟨rs,f⟩,td⟩){k t:Int}{m:List Int}(hr:aD ⟨k,t,m⟩=true) :
  dp [.bool up,.list (rs.map Rec.e),.int .i64 f,.list (td.map Word.e),.int .i64 k,.int .i64 t,.list (m.map eI)]=some ((aV ⟨up,⟨rs,f⟩,td⟩ ⟨k,t,m⟩).e++[.bool (dO ⟨up,⟨rs,f⟩,td⟩ ⟨k,t,m⟩)]):=by
 rw[q_dl]
 have h1:=hd.lg.S
 have h2:=hd.trOk false
 have hl2:=h2.len
 have h3:=hd.lg.len
 simp only[aj]at h2 hl2 h3
 simp (disch:=first|assumption|omega|(simp only[zL];omega)) only[F_dl,jK,uB,zX,aV,dO,aj,Int.reduceEq,reduceIte,zU,zT,aa]
 cases up with
 | false=>rfl
 | true =>
  simp only[Bool.true_and]
  cases cm (aC ⟨rs,f⟩ false) ⟨k,t,m⟩with
  | false=>rfl
  | true=>simp only[de,mn];by_cases h:rs.length>=40<;>simp[h,Desk.e,aG]
theorem fI{td:List Word}(hL:td.length<=1099511627775){k h t m:Int} :
  gw [.list (td.map Word.e),.int .i64 k,.int .i64 h,.int .i64 t,.int .i64 m]=some [.bool (td.contains ⟨k,h,t,m⟩)]:=by
 rw[q_fp];unfold F_fp
 have key:=ak (l:=td) (F:=fun ps=>sm (td.map Word.e) k h t m ((aa ps 0).toInt)) (enc:=fun i (_:Unit)=>[.int .i64 i])
  (res:=fun xs _ _=>.ret [.bool (xs.contains ⟨k,h,t,m⟩)]) (fun _ _=>True) (s:=()) trivial ?_ ?_
 ·have key:am _ [C.int .i64 0]=_:=key
  rw[key];rfl
 ·intro i x xs s hx _
  have hi:=(List.getElem?_eq_some_iff.1 hx).1
  have hi':(i:Int)<(td.length:Nat):=by omega
  have hw:=uA x ⟨k,h,t,m⟩
  simp only at hw
  simp (disch:=first|assumption|omega|(simp only[zL];omega)) only[sm,gH hx,Word.e,ap,hi',if_true,hw,Int.reduceEq,reduceIte,zU,zT,aa]
  by_cases e:x=⟨k,h,t,m⟩
  ·exact .inr ⟨_,by rw[if_pos e],by simp[e]⟩
  ·exact .inl ⟨(),by rw[if_neg e],trivial,by simp[Ne.symm e]⟩
 ·intro s _
  have h:¬ ((td.length:Int)<(td.length:Nat)):=by omega
  simp only[sm,h,if_false,Int.reduceEq,reduceIte,zU,zT,aa]
  rfl
theorem jL{k h t m:Int}:iK [.int .i64 k,.int .i64 h,.int .i64 t,.int .i64 m]=some [.bool (bj ⟨k,h,t,m⟩)]:=by
 rw[q_gb]
 simp (disch:=first|assumption|omega|(simp only[zL];omega)) only[F_gb,bC,bj,Int.reduceEq,reduceIte,zU,zT,aa]
 cases in_ h 1 3<;>cases in_ t 1 6<;>cases in_ k 1 7<;>simp only[aI,aF,Bool.true_and,Bool.false_and,aG]
 split<;>rfl
theorem CC{up:Bool}{rs:List (List C)}{f:Int}{td:List Word}(hL:td.length<=1099511627775){t k:Int}{m:List Int}(hm:m.length<=1000) :
  vR [.bool up,.list rs,.int .i64 f,.list (td.map Word.e),.int .i64 t,.list (m.map eI),.int .i64 k]=some [.bool (aY td t k 1 m)]:=by
 rw[q_gq];unfold F_gq
 have key:=ak (l:=m) (F:=fun ps=>sx (td.map Word.e) t (m.map eI) k ((aa ps 0).toInt)) (enc:=fun i (_:Unit)=>[.int .i64 i])
  (res:=fun xs i _=>.ret [.bool (aY td t k ((i+1:Nat):Int) xs)]) (fun _ _=>True) (s:=()) trivial ?_ ?_
 ·have key:am _ [C.int .i64 0]=_:=key
  rw[key];rfl
 ·intro i x xs s hx _
  have hi:=(List.getElem?_eq_some_iff.1 hx).1
  have hi':(i:Int)<(m.length:Nat):=by omega
  simp (disch:=first|assumption|omega|(simp only[zL];omega)) only[sx,gG hx,eI,ap,hi',if_true,fI,Int.reduceEq,reduceIte,zU,zT,aa]
  have e1:((i+1:Nat):Int)+1=((i+1+1:Nat):Int):=by omega
  by_cases hx0:x>0
  ·simp only[hx0,if_true]
   cases hc:td.contains ⟨k,((i+1:Nat):Int),t,0⟩with
   | true=>exact .inr ⟨_,rfl,by simp only[aY,hx0,hc,decide_true,Bool.and_self,Bool.true_or]⟩
   | false=>exact .inl ⟨(),rfl,trivial,by simp only[aY,hx0,hc,e1,Bool.and_false,Bool.false_or]⟩
  ·simp only[hx0,if_false]
   exact .inl ⟨(),by first|rfl|trivial,trivial,by simp only[aY,hx0,e1,decide_false,Bool.false_and,Bool.false_or]⟩
 ·intro s _
  have h:¬ ((m.length:Int)<(m.length:Nat)):=by omega
  simp only[sx,h,if_false,Int.reduceEq,reduceIte,zU,zT,aa]
  rfl
theorem nO{up:Bool}{rs:List (List C)}{f:Int}{td:List Word}(hL:td.length<=1099511627775){t k:Int}{m:List Int}(hm:m.length<=1000) :
  lv [.bool up,.list rs,.int .i64 f,.list (td.map Word.e),.int .i64 t,.list (m.map eI),.int .i64 k]=some [.bool (aB td t k 1 m)]:=by
 rw[q_gi];unfold F_gi
 have key:=ak (l:=m) (F:=fun ps=>sy (td.map Word.e) t (m.map eI) k ((aa ps 0).toInt)) (enc:=fun i (_:Unit)=>[.int .i64 i])
  (res:=fun xs i _=>.ret [.bool (aB td t k ((i+1:Nat):Int) xs)]) (fun _ _=>True) (s:=()) trivial ?_ ?_
 ·have key:am _ [C.int .i64 0]=_:=key
  rw[key];rfl
 ·intro i x xs s hx _
  have hi:=(List.getElem?_eq_some_iff.1 hx).1
  have hi':(i:Int)<(m.length:Nat):=by omega
  simp (disch:=first|assumption|omega|(simp only[zL];omega)) only[sy,gG hx,eI,ap,hi',if_true,fI,Int.reduceEq,reduceIte,zU,zT,aa]
  have e1:((i+1:Nat):Int)+1=((i+1+1:Nat):Int):=by omega
  by_cases hx0:x>0
  ·simp only[hx0,if_true]
   cases hc:td.contains ⟨k,((i+1:Nat):Int),t,0⟩with
   | true=>exact .inl ⟨(),rfl,trivial,by simp only[aB,hx0,hc,e1,Bool.or_true,Bool.true_and]⟩
   | false=>exact .inr ⟨_,rfl,by simp only[aB,hx0,hc,decide_true,Bool.not_true,Bool.or_self,Bool.false_and]⟩
  ·simp only[hx0,if_false]
   exact .inl ⟨(),by first|rfl|trivial,trivial,by simp only[aB,hx0,e1,decide_false,Bool.not_false,Bool.true_or,Bool.true_and]⟩
 ·intro s _
  have h:¬ ((m.length:Int)<(m.length:Nat)):=by omega
  simp only[sy,h,if_false,Int.reduceEq,reduceIte,zU,zT,aa]
  rfl
end Dx
namespace Dx
open Go
theorem mK{room:Int}:pv [.int .i64 room]=some ((if in_ room 0 9 then bU room else⟨0,[]⟩).e++[.bool (in_ room 0 9)]):=by
 rw[q_dg]
 simp (disch:=first|assumption|omega|(simp only[zL];omega)) only[F_dg,bC,Int.reduceEq,reduceIte,zU,zT,aa]
 cases in_ room 0 9<;>rfl
theorem uD{h:Hold}(ho:bf h=true):0<=had h/\had h<=3/\(h.s=1\/h.s=2->had h=h.m)/\0<=h.m/\h.m<=3:=by
 unfold bf at ho
 unfold had
 split at ho
 ·rename_i e;simp at ho;simp[e];omega
 ·split at ho
  ·rename_i e;have h1:=in_iff.1 ho;simp only[e,if_true];exact⟨by omega,by omega,by simp,by omega,by omega⟩
  ·rename_i e;simp only[e,if_false]
   split at ho
   ·have h1:=in_iff.1 ho;exact⟨by omega,by omega,by simp,by omega,by omega⟩
   ·cases ho
theorem CD{room:Int}{hs:List Hold}(hr:0<=room/\room<=9)(ho:∀ h∈hs,bf h=true)(hl:hs.length<=100) :
  vK [.int .i64 room,.list (hs.map Hold.e)]=some [.int .i64 (free ⟨room,hs⟩)]:=by
 rw[q_gw];unfold F_gw
 have key:=ak (l:=hs) (F:=fun ps=>sn (hs.map Hold.e) ((aa ps 0).toInt) ((aa ps 1).toInt)) (enc:=fun i (s:Int)=>[.int .i64 s,.int .i64 i])
  (res:=fun xs _ s=>.ret [.int .i64 (s-(xs.map had).sum)]) (fun i s=>room-3*i<=s/\s<=room) (s:=room) (by simp) ?_ ?_
 ·have key:am _ [C.int .i64 room,C.int .i64 0]=_:=key
  rw[key];rfl
 ·intro i x xs s hx ⟨h1,h2⟩
  have hi:=(List.getElem?_eq_some_iff.1 hx).1
  have hi':(i:Int)<(hs.length:Nat):=by omega
  have hm:=uD (ho x (List.mem_of_getElem? hx))
  simp (disch:=first|assumption|omega|(simp only[zL];omega)) only[sn,Fc hx,Hold.e,ap,hi',if_true,wrap64,Int.reduceEq,reduceIte,zU,zT,aa]
  refine .inl ⟨s-had x,?_,by omega,by simp[Int.sub_sub]⟩
  unfold had
  by_cases e1:x.s=1
  ·simp[e1]
  ·by_cases e2:x.s=2<;>simp[e1,e2]
 ·intro s _
  have h:¬ ((hs.length:Int)<(hs.length:Nat)):=by omega
  simp only[sn,h,if_false,Int.reduceEq,reduceIte,zU,zT,aa]
  simp
theorem FU{n:Int}{f:List C->Option Out}:aH (.list ([n].map eI)) (.int .i64 0) [.int .i64] f=f (eI n):=rfl
theorem zZ{room:Int}{hs:List Hold}(ho:StOk ⟨room,hs⟩){k t:Int}{m:List Int}(hr:aD ⟨k,t,m⟩=true) :
  pw [.int .i64 room,.list (hs.map Hold.e),.int .i64 k,.int .i64 t,.list (m.map eI)]=some [.bool (may ⟨room,hs⟩ ⟨k,t,m⟩)]:=by
 have ht:=cy hr
 have hl:=ho.len
 simp only at ht hl
 rw[q_gy]
 simp (disch:=first|assumption|omega|(simp only[zL];omega)) only[F_gy,wrap64,FS,Hold.e,may,dY,CD ho.room ho.hold (show hs.length<=100 by omega),Int.reduceEq,reduceIte,zU,zT,aa]
 by_cases h1:k=1
 ·obtain⟨n,e,_⟩:=dw hr h1
  simp only at e;subst e
  simp only[h1,if_true,FU,eI,Int.reduceEq,reduceIte,zU,zT,aa]
  by_cases h0:(hAt hs t).s=0<;>simp[h0,aG]
 ·by_cases h2:k=2
  ·simp[h2,aG]
  ·by_cases h3:k=3
   ·by_cases h0:(hAt hs t).s=1<;>simp[h3,h0,aG]
   ·simp[h1,h2,h3,aG]
theorem Kg{room:Int}{hs:List Hold}(ho:StOk ⟨room,hs⟩){k t:Int}{m:List Int}(hr:aD ⟨k,t,m⟩=true) :
  dd [.int .i64 room,.list (hs.map Hold.e),.int .i64 k,.int .i64 t,.list (m.map eI)]=some (act ⟨room,hs⟩ ⟨k,t,m⟩).e:=by
 have ht:=cy hr
 have hl:=ho.len
 simp only at ht hl
 have hx:=rC (l:=hs) ht.1 (by omega)
 have st:∀ a b:Int,setRow 0 (hs.map Hold.e) (t-1).toNat [C.int .i64 a,C.int .i64 b]=(hs.set (t-1).toNat ⟨a,b⟩).map Hold.e:=fun a b=>bR hx rfl
 rw[tT]
 simp (disch:=first|assumption|omega|(simp only[zL];omega)) only[kP,wrap64,FS,Hold.e,act,gV,st,Int.reduceEq,reduceIte,zU,zT,aa]
 by_cases h1:k=1
 ·obtain⟨n,e,_⟩:=dw hr h1
  simp only at e;subst e
  simp only[h1,if_true,FU,eI,Int.reduceEq,reduceIte,zU,zT,aa]
  rfl
 ·by_cases h2:k=2
  ·simp only[h2,if_true];rfl
  ·by_cases h3:k=3
   ·simp only[h3,if_true];rfl
   ·simp only[h1,h2,h3,if_false];rfl
theorem DA{room:Int}{rs:List Rec}(hL:rs.length<=2000000)(hm:∀ r∈rs,r.m.length<=1099511627776) :
  lu [.int .i64 room,.list (rs.map Rec.e)]=some (((bP room rs).getD ⟨0,[]⟩).e++[.bool (bP room rs).isSome]):=by
 rw[q_hn]
 simp (disch:=first|assumption|omega|(simp only[zL];omega)) only[F_hn,mK,Stock.e,List.cons_append,Int.reduceEq,reduceIte,zU,zT,aa]
 cases hr:in_ room 0 9 with
 | false=>simp[bP,hr,aG]
 | true =>
  simp only[if_true]
  have key:=ak (l:=rs) (F:=fun ps=>sq (rs.map Rec.e) ((aa ps 0).toInt) ((aa ps 1).toInt) ((aa ps 2).toList)) (enc:=fun i (s:Stock)=>[.int .i64 i,.int .i64 s.room,.list (s.hs.map Hold.e)])
   (res:=fun xs _ s=>.ret (((bD xs s).getD ⟨0,[]⟩).e++[.bool (bD xs s).isSome])) (fun _ s=>StOk s) (s:=bU room) (eW (in_iff.1 hr)) ?_ ?_
  ·have key:am _ [C.int .i64 0,C.int .i64 (bU room).room,C.list ((bU room).hs.map Hold.e)]=_:=key
   rw[key];simp[bP,hr,aG,Stock.e]
  ·intro i x xs s hx hs
   have hi:=(List.getElem?_eq_some_iff.1 hx).1
   have hi':(i:Int)<(rs.length:Nat):=by omega
   have hxm:=hm x (List.mem_of_getElem? hx)
   simp (disch:=first|assumption|omega|(simp only[zL];omega)) only[sq,fF hx,Rec.e,mG,ap,hi',if_true,Int.reduceEq,reduceIte,zU,zT,aa]
   cases hr:aD x with
   | false=>exact .inr ⟨_,rfl,by simp[bD,hr];rfl⟩
   | true =>
    have hs':StOk ⟨s.room,s.hs⟩:=hs
    have hr':aD ⟨x.k,x.t,x.m⟩=true:=hr
    simp (disch:=first|assumption|omega|(simp only[zL];omega)) only[zZ,Int.reduceEq,reduceIte,zU,zT,aa]
    cases hmay:may s x with
    | false=>exact .inr ⟨_,rfl,by simp[bD,hr,hmay];rfl⟩
    | true =>
     simp (disch:=first|assumption|omega|(simp only[zL];omega)) only[Kg,Stock.e,Int.reduceEq,reduceIte,zU,zT,aa]
     exact .inl ⟨act s x,rfl,oJ hs hr hmay,by simp[bD,hr,hmay]⟩
  ·intro s _
   have h:¬ ((rs.length:Int)<(rs.length:Nat)):=by omega
   simp only[sq,h,if_false,Int.reduceEq,reduceIte,zU,zT,aa]
   rfl
theorem xI{id room f:Int}{up b:Bool}{rs:List Rec}(ho:LgOk ⟨rs,f⟩) :
  pB [.int .i64 id,.bool up,.int .i64 room,.list (rs.map Rec.e),.int .i64 f,.bool b]=some (aq ⟨id,up,room,⟨rs,f⟩⟩ b).e:=by
 rw[q_dw]
 have hl:=ho.S
 have h2:=ho.lo
 have h3:=ho.hi
 simp only at h2 h3
 have ht:∀ n:Nat,(rs.map Rec.e).take n=(rs.take n).map Rec.e:=fun n=>by simp
 have h1:∀ n:Nat,lu [.int .i64 room,.list ((rs.take n).map Rec.e)]=_:=fun n=>DA (by simp;have:=hl.1;simp only at this;omega) (fun r hr=>hl.2 r (List.mem_of_mem_take hr))
 cases b with
 | true =>
  simp (disch:=first|assumption|omega|(simp only[zL];omega)) only[F_dw,ht,h1,aq,aO,Stock.e,List.cons_append,if_true,Int.reduceEq,reduceIte,zU,zT,aa]
 | false =>
  simp (disch:=first|assumption|omega|(simp only[zL];omega)) only[F_dw,ht,h1,aq,aO,Stock.e,List.cons_append,Int.reduceEq,reduceIte,zU,zT,aa]
  simp
theorem CE{k h t m:Int}:vT [.int .i64 k,.int .i64 h,.int .i64 t,.int .i64 m]=some (bl ⟨k,h,t,m⟩).e:=by
 rw[q_gu]
 simp (disch:=first|assumption|omega|(simp only[zL];omega)) only[F_gu,bl,Int.reduceEq,reduceIte,zU,zT,aa]
 split
 ·rfl
 ·split<;>rfl
theorem zf(l:Log)(r:Rec):(de l r).f=l.f:=by unfold de;split<;>rfl
def oW(o:Option Word):Word:=o.getD ⟨0,0,0,0⟩
theorem t5{id room f:Int}{up:Bool}{rs:List (List C)}{k h t m st:Int} :
  sC [.int .i64 id,.bool up,.int .i64 room,.list rs,.int .i64 f,.int .i64 k,.int .i64 h,.int .i64 t,.int .i64 m,.int .i64 st]=some ((oW (answer id ⟨k,h,t,m⟩ st)).e++[.bool (answer id ⟨k,h,t,m⟩ st).isSome]):=by
 rw[q_cl]
 by_cases h1:k=1
 ·subst h1
  by_cases s1:st=1
  ·subst s1;rfl
  ·by_cases s2:st=2
   ·subst s2;rfl
   ·by_cases s3:st=3
    ·subst s3;rfl
    ·simp[Fy,ox,oy,answer,s1,s2,s3,bo,aI,aF,aZ,fH,C.toBool_bool,aa,aG,oW,Word.e]
 ·by_cases h2:k=2
  ·subst h2
   by_cases s2:st=2
   ·subst s2;rfl
   ·simp[Fy,ox,oy,answer,s2,bo,aI,aF,aZ,fH,C.toBool_bool,aa,aG,oW,Word.e]
  ·by_cases h3:k=3
   ·subst h3
    by_cases s3:st=3
    ·subst s3;rfl
    ·simp[Fy,ox,oy,answer,s3,bo,aI,aF,aZ,fH,C.toBool_bool,aa,aG,oW,Word.e]
   ·simp[Fy,ox,oy,answer,h1,h2,h3,bo,aI,aF,aZ,fH,C.toBool_bool,aa,aG,oW,Word.e]
theorem Bt{id room f:Int}{up:Bool}{rs:List Rec}(ho:HsOk ⟨id,up,room,⟨rs,f⟩⟩){k h t m:Int} :
  vU [.int .i64 id,.bool up,.int .i64 room,.list (rs.map Rec.e),.int .i64 f,.int .i64 k,.int .i64 h,.int .i64 t,.int .i64 m] =
   some ((b8 ⟨id,up,room,⟨rs,f⟩⟩ ⟨k,h,t,m⟩).1.e++((oW (b8 ⟨id,up,room,⟨rs,f⟩⟩ ⟨k,h,t,m⟩).2).e++[.bool (b8 ⟨id,up,room,⟨rs,f⟩⟩ ⟨k,h,t,m⟩).2.isSome])):=by
 rw[q_ek]
 have hlg:LgOk ⟨rs,f⟩:=ho.lg
 have hlen:rs.length<=40:=ho.lg.len
 have sA:=ho.stOk false
 have sF:=ho.stOk true
 have lA:=sA.len
 have lF:=sF.len
 simp (disch:=first|assumption|omega|(simp only[zL];omega)) only[F_ek,jL,b8,Int.reduceEq,reduceIte,zU,zT,aa]
 cases up with
 | false=>rfl
 | true =>
  cases hw:bj ⟨k,h,t,m⟩with
  | false=>rfl
  | true =>
   have wok:=wordOk_iff.1 hw
   have wt:=wok.t
   simp only at wt
   have hr:=cz wok
   have sA':StOk ⟨(aq ⟨id,true,room,⟨rs,f⟩⟩ false).room,(aq ⟨id,true,room,⟨rs,f⟩⟩ false).hs⟩:=sA
   have hr':aD ⟨(bl ⟨k,h,t,m⟩).k,(bl ⟨k,h,t,m⟩).t,(bl ⟨k,h,t,m⟩).m⟩=true:=hr
   simp (disch:=first|assumption|omega|(simp only[zL];omega)) only[xI,CE,Stock.e,Rec.e,zZ,zX,t5,FS,wrap64,Hold.e,Word.e,List.cons_append,Int.reduceEq,reduceIte,zU,zT,aa]
   by_cases e1:h=id
   ·by_cases e2:k>3
    ·simp[e1,e2,aG,House.e,oW,Word.e]
    ·simp only[e1,e2,if_true,if_false,dY]
     cases may (aq ⟨id,true,room,⟨rs,f⟩⟩ false) (bl ⟨k,id,t,m⟩)with
     | true=>simp[aG,House.e,oW,Word.e,zf]
     | false =>
      by_cases e3:k=1
      ·by_cases e4:(hAt (aq ⟨id,true,room,⟨rs,f⟩⟩ false).hs t).s=0
       ·simp[e3,e4,aG,House.e,oW,Word.e]
       ·simp[e3,e4,aG,House.e,oW,Word.e]
      ·simp[e3,aG,House.e,oW,Word.e]
   ·simp[e1,aG,House.e,oW,Word.e]
end Dx
namespace Dx
open Go
def lO(s:Int)(sure:Bool)(td:List Word)(t:Int)(m:List Int):Int :=
 if s=1/\aY td t 5 1 m then 6
 else if s=1/\aB td t 4 1 m then 5
 else if s=2/\sure/\aB td t 6 1 m then 7
 else if s=3/\sure/\aB td t 7 1 m then 7
 else 0
theorem CF(d:Desk)(t:Int):fE d t=lO (tAt (aj d false) t).s (lE d t) d.td t (tAt (aj d false) t).m:=rfl
section
variable {up:Bool} {rs:List Rec} {f:Int} {td:List Word} {t:Int} {m:List Int} {s:Int} {b:Bool}
theorem jD0(hL:td.length<=1099511627775)(hm:m.length<=1000){d5 d7:Desk}{b5 b7:Bool}
  (w5:dp [.bool up,.list (rs.map Rec.e),.int .i64 f,.list (td.map Word.e),.int .i64 5,.int .i64 t,.list []]=some (d5.e++[.bool b5]))
  (w7:dp [.bool up,.list (rs.map Rec.e),.int .i64 f,.list (td.map Word.e),.int .i64 7,.int .i64 t,.list []]=some (d7.e++[.bool b7])) (c:Bool) :
  ah (yH up (rs.map Rec.e) f (td.map Word.e) t (m.map eI) s b c)=some (if c then d5 else if s=2/\b/\aB td t 6 1 m then d7 else if s=3/\b/\aB td t 7 1 m then d7 else⟨up,⟨rs,f⟩,td⟩).e:=by
 simp only[Desk.e,List.cons_append,List.nil_append]at w5 w7
 unfold yH
 cases c with
 | true=>simp only[aI,w5,gW,aG,aa,C.toInt_int,C.toBool_bool,C.toList_list,if_true];rfl
 | false =>
  simp only[aF,bo,Bool.false_eq_true,if_false]
  by_cases h2:s=2
  ·subst h2
   simp (disch:=first|assumption|omega|(simp only[zL];omega)) only[if_true,nO,w7,ry,gW,aa,C.toInt_int,C.toBool_bool,C.toList_list]
   cases b<;>cases aB td t 6 1 m<;>simp[Desk.e]
  ·simp only[h2,if_false,false_and]
   by_cases h3:s=3
   ·subst h3
    simp (disch:=first|assumption|omega|(simp only[zL];omega)) only[if_true,nO,w7,ry,gW,aa,C.toInt_int,C.toBool_bool,C.toList_list]
    cases b<;>cases aB td t 7 1 m<;>simp[Desk.e]
   ·simp only[h3,if_false,false_and];rfl
theorem jD1(hL:td.length<=1099511627775)(hm:m.length<=1000){d5 d6 d7:Desk}{b5 b6 b7:Bool}
  (w5:dp [.bool up,.list (rs.map Rec.e),.int .i64 f,.list (td.map Word.e),.int .i64 5,.int .i64 t,.list []]=some (d5.e++[.bool b5]))
  (w6:dp [.bool up,.list (rs.map Rec.e),.int .i64 f,.list (td.map Word.e),.int .i64 6,.int .i64 t,.list []]=some (d6.e++[.bool b6]))
  (w7:dp [.bool up,.list (rs.map Rec.e),.int .i64 f,.list (td.map Word.e),.int .i64 7,.int .i64 t,.list []]=some (d7.e++[.bool b7])) (c:Bool) :
  ah (yI up (rs.map Rec.e) f (td.map Word.e) t (m.map eI) s b c)=some (if c then d6 else if s=1/\aB td t 4 1 m then d5 else if s=2/\b/\aB td t 6 1 m then d7 else if s=3/\b/\aB td t 7 1 m then d7 else⟨up,⟨rs,f⟩,td⟩).e:=by
 have j0:=fun c=>jD0 (s:=s) (b:=b) hL hm w5 w7 c
 simp only[Desk.e,List.cons_append,List.nil_append]at w6
 unfold yI
 cases c with
 | true=>simp only[aI,w6,gW,aG,aa,C.toInt_int,C.toBool_bool,C.toList_list,if_true];rfl
 | false =>
  simp only[aF,bo,Bool.false_eq_true,if_false]
  by_cases h1:s=1
  ·simp (disch:=first|assumption|omega|(simp only[zL];omega)) only[h1,if_true,nO,ry,aa,C.toBool_bool,aZ]
   rw[<-h1,j0]
   simp[h1]
  ·simp only[h1,if_false,aZ,aa,C.toBool_bool]
   rw[j0];simp
theorem jD2(hL:td.length<=1099511627775)(hm:m.length<=1000){d5 d6 d7:Desk}{b5 b6 b7:Bool}
  (w5:dp [.bool up,.list (rs.map Rec.e),.int .i64 f,.list (td.map Word.e),.int .i64 5,.int .i64 t,.list []]=some (d5.e++[.bool b5]))
  (w6:dp [.bool up,.list (rs.map Rec.e),.int .i64 f,.list (td.map Word.e),.int .i64 6,.int .i64 t,.list []]=some (d6.e++[.bool b6]))
  (w7:dp [.bool up,.list (rs.map Rec.e),.int .i64 f,.list (td.map Word.e),.int .i64 7,.int .i64 t,.list []]=some (d7.e++[.bool b7])) :
  ah (yJ up (rs.map Rec.e) f (td.map Word.e) t (m.map eI) s b) =
   some (if s=1/\aY td t 5 1 m then d6 else if s=1/\aB td t 4 1 m then d5 else if s=2/\b/\aB td t 6 1 m then d7 else if s=3/\b/\aB td t 7 1 m then d7 else⟨up,⟨rs,f⟩,td⟩).e:=by
 have j1:=fun c=>jD1 (s:=s) (b:=b) hL hm w5 w6 w7 c
 unfold yJ
 simp only[bo]
 by_cases h1:s=1
 ·simp (disch:=first|assumption|omega|(simp only[zL];omega)) only[h1,if_true,CC,ry,aa,C.toBool_bool,aZ]
  rw[<-h1,j1]
  simp[h1]
 ·simp only[h1,if_false,aZ,aa,C.toBool_bool]
  rw[j1];simp[h1]
end
theorem kT{up:Bool}{rs:List Rec}{f:Int}{td:List Word}(hd:DkOk ⟨up,⟨rs,f⟩,td⟩)(hL:td.length<=1099511627775){t:Int}(h1:1<=t)(h2:t<=(aC ⟨rs,f⟩ false).length) :
  sB [.bool up,.list (rs.map Rec.e),.int .i64 f,.list (td.map Word.e),.int .i64 t]=some (cV ⟨up,⟨rs,f⟩,td⟩ t).e:=by
 rw[q_cu]
 have hlg:LgOk ⟨rs,f⟩:=hd.lg
 have hS:=hlg.S
 have tA:TrOk (aC ⟨rs,f⟩ false):=hd.trOk false
 have tF:TrOk (aC ⟨rs,f⟩ true):=hd.trOk true
 have lA:=tA.len
 have lF:=tF.len
 have hml:=bw (tripOk_iff.1 (tA.ok _ (gn (t:=t) (by omega)))).1
 have w5:=eK hd (k:=5) (t:=t) (m:=[]) (by simp[aD,in_iff];omega)
 have w6:=eK hd (k:=6) (t:=t) (m:=[]) (by simp[aD,in_iff];omega)
 have w7:=eK hd (k:=7) (t:=t) (m:=[]) (by simp[aD,in_iff];omega)
 have j:=fun s b=>jD2 (s:=s) (b:=b) hL (by omega:(tAt (aC ⟨rs,f⟩ false) t).m.length<=1000) w5 w6 w7
 simp (disch:=first|assumption|omega|(simp only[zL];omega)) only[F_cu,jK,uC,Dz,wrap64,Trip.e,Int.reduceEq,reduceIte,zU,zT,aa]
 rw[j,j]
 unfold cV
 rw[CF]
 unfold lE aj
 have fin:∀ b:Bool,(if lO (tAt (aC ⟨rs,f⟩ false) t).s b td t (tAt (aC ⟨rs,f⟩ false) t).m>0 then aV ⟨up,⟨rs,f⟩,td⟩ ⟨lO (tAt (aC ⟨rs,f⟩ false) t).s b td t (tAt (aC ⟨rs,f⟩ false) t).m,t,[]⟩ else⟨up,⟨rs,f⟩,td⟩) =
   (if(tAt (aC ⟨rs,f⟩ false) t).s=1/\aY td t 5 1 (tAt (aC ⟨rs,f⟩ false) t).m then aV ⟨up,⟨rs,f⟩,td⟩ ⟨6,t,[]⟩ else if(tAt (aC ⟨rs,f⟩ false) t).s=1/\aB td t 4 1 (tAt (aC ⟨rs,f⟩ false) t).m then aV ⟨up,⟨rs,f⟩,td⟩ ⟨5,t,[]⟩ else if(tAt (aC ⟨rs,f⟩ false) t).s=2/\b/\aB td t 6 1 (tAt (aC ⟨rs,f⟩ false) t).m then aV ⟨up,⟨rs,f⟩,td⟩ ⟨7,t,[]⟩ else if(tAt (aC ⟨rs,f⟩ false) t).s=3/\b/\aB td t 7 1 (tAt (aC ⟨rs,f⟩ false) t).m then aV ⟨up,⟨rs,f⟩,td⟩ ⟨7,t,[]⟩ else⟨up,⟨rs,f⟩,td⟩):=by
  intro b
  unfold lO
  split
  ·rfl
  ·split
   ·rfl
   ·split
    ·rfl
    ·split<;>rfl
 dsimp only
 rw[fin]
 by_cases h:t<=((aC ⟨rs,f⟩ true).length:Nat)
 ·simp only[h,if_true,decide_true,Bool.true_and]
 ·simp only[h,if_false,decide_false,Bool.false_and]
theorem fJ(up:Bool)(l:Log)(td:List Word)(k h t m:Int):cC ⟨up,l,td⟩ ⟨k,h,t,m⟩=(up && (bj ⟨k,h,t,m⟩ && (decide (k>=4) && decide (t<=(aC l false).length)))):=rfl
theorem Bu{up:Bool}{rs:List Rec}{f:Int}{td:List Word}(hd:DkOk ⟨up,⟨rs,f⟩,td⟩)(hL:td.length<=1099511627774){k h t m:Int} :
  vS [.bool up,.list (rs.map Rec.e),.int .i64 f,.list (td.map Word.e),.int .i64 k,.int .i64 h,.int .i64 t,.int .i64 m]=some (db ⟨up,⟨rs,f⟩,td⟩ ⟨k,h,t,m⟩).e:=by
 rw[q_fn]
 have hlg:LgOk ⟨rs,f⟩:=hd.lg
 have hS:=hlg.S
 have hL':td.length<=1099511627775:=by omega
 unfold db
 simp (disch:=first|assumption|omega|(simp only[zL];omega)) only[F_fn,jL,jK,fI,Int.reduceEq,reduceIte,zU,zT,aa]
 have nh:cC ⟨up,⟨rs,f⟩,td⟩ ⟨k,h,t,m⟩=false->(if cC ⟨up,⟨rs,f⟩,td⟩ ⟨k,h,t,m⟩=true then cV (bI ⟨up,⟨rs,f⟩,td⟩ ⟨k,h,t,m⟩) t else⟨up,⟨rs,f⟩,td⟩)=⟨up,⟨rs,f⟩,td⟩:=fun e=>by rw[e];rfl
 cases up with
 | false=>rw[nh rfl];rfl
 | true =>
  cases hw:bj ⟨k,h,t,m⟩with
  | false=>rw[nh (by simp[cC,hw])];rfl
  | true =>
   have wt:=(wordOk_iff.1 hw).t
   simp only at wt
   simp only[aI,ky]
   by_cases h4:k<4
   ·rw[nh (by simp[cC,hw];omega)]
    simp only[h4,if_true];rfl
   ·by_cases ht:t>((aC ⟨rs,f⟩ false).length:Nat)
    ·rw[nh (by rw[fJ,hw];simp only[Bool.true_and];rw[Bool.and_eq_false_iff];right;exact decide_eq_false (by omega))]
     simp only[h4,ht,if_true,if_false];rfl
    ·have c1:cC ⟨true,⟨rs,f⟩,td⟩ ⟨k,h,t,m⟩=true:=by rw[fJ,hw];simp only[Bool.true_and];rw[Bool.and_eq_true];exact⟨decide_eq_true (by omega),decide_eq_true (by omega)⟩
     rw[if_pos c1]
     simp only[h4,ht,if_false,bI]
     cases hc:td.contains ⟨k,h,t,m⟩with
     | true =>
      simp (disch:=first|assumption|omega|(simp only[zL];omega)) only[kT,Desk.e,aI,aG,rz,aa,C.toInt_int,C.toBool_bool,C.toList_list,if_true]
     | false =>
      have hd2:DkOk ⟨true,⟨rs,f⟩,td++[⟨k,h,t,m⟩]⟩:=by
       have:=hd.tell (w:=⟨k,h,t,m⟩) c1
       unfold bI at this
       rw[if_neg (by rw[hc];simp)]at this
       exact this
      have e1:(td.map Word.e)++[[C.int .i64 k,C.int .i64 h,C.int .i64 t,C.int .i64 m]]=(td++[(⟨k,h,t,m⟩:Word)]).map Word.e:=by simp[Word.e]
      have hd3:=kT hd2 (by simp;omega) wt.1 (show t<=((aC ⟨rs,f⟩ false).length:Nat) by omega)
      simp only[aF,e1,hd3]
      simp (disch:=first|assumption|omega|(simp only[zL];omega)) only[Desk.e,Bool.false_eq_true,if_false,Int.reduceEq,reduceIte,zU,zT,aa]
theorem rowI3{m:List Int}{i:Nat}{n:Int}(h:m[i]?=some n){f:List C->Option Out}:aH (.list (m.map eI)) (.int .i64 i) [.int .i64] f=f (eI n):=gG h
theorem FV{td:List Word}(hL:td.length<=1099511627775){l:List Trip}{ti:Nat}{x:Trip}(hx:l[ti]?=some x)(hti:ti<=1000)(hs:1<=x.s/\x.s<=3)(hml:x.m.length=3){acc:List Word}(ha:acc.length<=3000) :
  am (fun ps=>ov (td.map Word.e) (l.map Trip.e) (ti:Int) ((aa ps 0).toInt) ((aa ps 1).toList)) [.int .i64 0,.list (acc.map Word.e)] =
   some (.jump [.int .i64 ((ti+1:Nat):Int),.list ((acc++aT td x.s ((ti+1:Nat):Int) 1 x.m).map Word.e)]):=by
 have key:=ak (l:=x.m) (F:=fun ps=>ov (td.map Word.e) (l.map Trip.e) (ti:Int) ((aa ps 0).toInt) ((aa ps 1).toList)) (enc:=fun i (s:List Word)=>[.int .i64 i,.list (s.map Word.e)])
  (res:=fun xs i s=>.jump [.int .i64 ((ti+1:Nat):Int),.list ((s++aT td x.s ((ti+1:Nat):Int) ((i+1:Nat):Int) xs).map Word.e)]) (fun i s=>s.length<=3000+i) (s:=acc) (by omega) ?_ ?_
 ·exact key
 ·intro i n xs s hn hs'
  have hi:=(List.getElem?_eq_some_iff.1 hn).1
  have hi':(i:Int)<3:=by omega
  have e1:((i+1:Nat):Int)+1=((i+1+1:Nat):Int):=by omega
  have ra:∀ g:List C->Option Out,aH (.list [[C.int .i64 0],[C.int .i64 4],[C.int .i64 6],[C.int .i64 7]]) (.int .i64 x.s) [.int .i64] g=g [.int .i64 (lG x.s)]:=by
   intro g
   have:x.s=1\/x.s=2\/x.s=3:=by omega
   rcases this with e|e|e<;>rw[e]<;>rfl
  have h4:x.s<((([[C.int .i64 0],[C.int .i64 4],[C.int .i64 6],[C.int .i64 7]]:List (List C)).length:Nat):Int):=by simp;omega
  have h5:(0:Int)<=x.s:=by omega
  have hb:=cZ (p:=(0:Int)<=x.s) (q:=x.s<((([[C.int .i64 0],[C.int .i64 4],[C.int .i64 6],[C.int .i64 7]]:List (List C)).length:Nat):Int)) h5 h4
  unfold ov
  simp only[aa,C.toInt_int,C.toList_list,aK,hi',if_true,xH hx,Trip.e,hb,ra,rowI3 hn,eI,bo]
  simp (disch:=first|assumption|omega|(simp only[zL];omega)) only[ap,fI,ry,aa,C.toBool_bool]
  simp only[aT,fq]
  by_cases hn0:n=0
  ·simp only[hn0,if_true,true_or]
   exact .inl ⟨s,rfl,by omega,by rw[e1];simp⟩
  ·simp only[hn0,if_false,false_or]
   cases hc:td.contains ⟨lG x.s,((i+1:Nat):Int),((ti+1:Nat):Int),0⟩with
   | true=>exact .inl ⟨s,rfl,by omega,by rw[e1];simp⟩
   | false =>
    have hlen:∀ w:List C,decide ((s.map Word.e).length+[w].length<=aR)=true:=fun w=>by simp[cf];omega
    refine .inl ⟨s++[⟨x.s,((i+1:Nat):Int),((ti+1:Nat):Int),if x.s=1 then n else 0⟩],?_,by simp;omega,by rw[e1];simp⟩
    simp only[aF,bQ (hlen _)]
    split<;>simp[Word.e]
 ·intro s _
  unfold ov
  have h:¬ ((x.m.length:Int)<3):=by omega
  simp only[aa,C.toInt_int,C.toList_list,aK,h,if_false]
  simp (disch:=first|assumption|omega|(simp only[zL];omega)) only[ap,jZ]
  simp[aT]
theorem t6{up:Bool}{rs:List Rec}{f:Int}{td:List Word}(hd:DkOk ⟨up,⟨rs,f⟩,[]⟩)(hL:td.length<=1099511627775) :
  mb [.bool up,.list (rs.map Rec.e),.int .i64 f,.list (td.map Word.e)]=some [.list ((aW ⟨up,⟨rs,f⟩,td⟩).map Word.e)]:=by
 rw[q_dh]
 have hlg:LgOk ⟨rs,f⟩:=hd.lg
 have hS:=hlg.S
 have tF:TrOk (aC ⟨rs,f⟩ true):=hd.trOk true
 have lF:=tF.len
 simp (disch:=first|assumption|omega|(simp only[zL];omega)) only[F_dh,uC,aW,aj,Int.reduceEq,reduceIte,zU,zT,aa]
 cases up with
 | false=>rfl
 | true =>
  simp only[aI,if_true]
  have key:=ak (l:=aC ⟨rs,f⟩ true) (F:=fun ps=>su (td.map Word.e) ((aC ⟨rs,f⟩ true).map Trip.e) ((aa ps 0).toInt) ((aa ps 1).toList)) (enc:=fun i (s:List Word)=>[.int .i64 i,.list (s.map Word.e)])
   (res:=fun xs i s=>.ret [.list ((s++cD td ((i+1:Nat):Int) xs).map Word.e)]) (fun i s=>s.length<=3*i) (s:=[]) (by simp) ?_ ?_
  ·have key:am _ [C.int .i64 0,C.list []]=_:=key
   rw[key];simp
  ·intro i x xs s hx hs
   have hi:=(List.getElem?_eq_some_iff.1 hx).1
   have hi':(i:Int)<((aC ⟨rs,f⟩ true).length:Nat):=by omega
   have hxo:=tripOk_iff.1 (tF.ok x (List.mem_of_getElem? hx))
   have hml:=bw hxo.1
   have e1:((i+1:Nat):Int)+1=((i+1+1:Nat):Int):=by omega
   unfold su
   simp only[aa,C.toInt_int,C.toList_list,List.length_map,aK,hi',if_true,xH hx,Trip.e,cD]
   by_cases h3:x.s>3
   ·simp only[h3,if_true]
    simp (disch:=first|assumption|omega|(simp only[zL];omega)) only[ap]
    exact .inl ⟨s,rfl,by omega,by rw[e1];simp⟩
   ·simp only[h3,if_false]
    rw[FV hL hx (by omega) (by omega) hml (by omega)]
    refine .inl ⟨s++aT td x.s ((i+1:Nat):Int) 1 x.m,rfl,?_,by rw[e1];simp⟩
    have:=d4 td x.s ((i+1:Nat):Int) x.m 1
    simp only[List.length_append];omega
  ·intro s _
   unfold su
   have h:¬ (((aC ⟨rs,f⟩ true).length:Int)<((aC ⟨rs,f⟩ true).length:Nat)):=by omega
   simp only[aa,C.toInt_int,C.toList_list,List.length_map,aK,h,if_false,jZ]
   simp[cD]
theorem DkOk.bare{d:Desk}(h:DkOk d):DkOk ⟨d.up,d.lg,[]⟩:=⟨h.lg,h.tr,by simp,by simp,.inr rfl⟩
theorem mL{up:Bool}{rs:List Rec}{f:Int}{td:List Word}(hd:DkOk ⟨up,⟨rs,f⟩,td⟩)(hL:td.length<=1099511627775) :
  mb [.bool up,.list (rs.map Rec.e),.int .i64 f,.list (td.map Word.e)]=some [.list ((aW ⟨up,⟨rs,f⟩,td⟩).map Word.e)]:=t6 hd.bare hL
end Dx
namespace Dx
open Go
def dn(hs:List House)(i:Int):House:=(hs[(i-1).toNat]?).getD ⟨0,false,0,⟨[],0⟩⟩
theorem bp(w:Wd)(i:Int):houseAt w i=dn w.hs i:=rfl
theorem uE{l:List House}{t:Int}(h1:1<=t)(h2:t<=l.length):l[(t-1).toNat]?=some (dn l t):=by
 have:(t-1).toNat<l.length:=by omega
 unfold dn;rw[List.getElem?_eq_getElem this];rfl
theorem mM{l:List House}{t:Int}(h1:1<=t)(h2:t<=l.length){kk:IntKind}{f:List C->Option Out}:aH (.list (l.map House.e)) (.int kk (t-1)) [.int .i64,.bool,.int .i64,.list,.int .i64] f=f (dn l t).e :=
 ei (by omega) (uE h1 h2) rfl
theorem jz{l:List House}{t:Int}{x:House}(h1:1<=t)(h2:t<=l.length){kk:IntKind}{f:List C->Option Out}:aH (.list ((l.set (t-1).toNat x).map House.e)) (.int kk (t-1)) [.int .i64,.bool,.int .i64,.list,.int .i64] f=f x.e:=by
 refine ei (by omega) ?_ rfl
 rw[List.getElem?_set];simp;omega
theorem lH(l:List House)(n:Nat)(id:Int)(up:Bool)(room:Int)(rs:List Rec)(f:Int):(l.map House.e).set n [.int .i64 id,.bool up,.int .i64 room,.list (rs.map Rec.e),.int .i64 f]=(l.set n ⟨id,up,room,⟨rs,f⟩⟩).map House.e:=by
 simp[List.map_set,House.e]
theorem eqD(a:Int)(k:Option Out):af (a==a) k=k:=by simp
theorem CG{l:List House}{t:Int}(h1:1<=t)(h2:t<=l.length):l.set (t-1).toNat (dn l t)=l:=by
 have hi:(t-1).toNat<l.length:=by omega
 have:dn l t=l[(t-1).toNat]:=by unfold dn;rw[List.getElem?_eq_getElem hi];rfl
 rw[this];exact List.set_getElem_self hi
section
variable {up:Bool} {rs:List Rec} {f:Int} {td:List Word} {hs:List House} {ns:List Word}
theorem nP(hL:ns.length<=1000){k h t m:Int} :
  me [.bool up,.list (rs.map Rec.e),.int .i64 f,.list (td.map Word.e),.list (hs.map House.e),.list (ns.map Word.e),.int .i64 k,.int .i64 h,.int .i64 t,.int .i64 m]=some (mo ⟨⟨up,⟨rs,f⟩,td⟩,hs,ns⟩ ⟨k,h,t,m⟩).e:=by
 rw[q_fz]
 simp (disch:=first|assumption|omega|(simp only[zL];omega)) only[F_fz,mo,Int.reduceEq,reduceIte,zU,zT,aa]
 by_cases hn:ns.length<14
 ·have h':((ns.length:Nat):Int)<14:=by omega
  have hc:ns.length+1<=1099511627776:=by omega
  simp[hn,h',Wd.e,Word.e,cf,hc]
 ·have h':¬ (((ns.length:Nat):Int)<14):=by omega
  simp[hn,h',Wd.e]
theorem qu(hL:ns.length<=1000){i:Int}(h0:0<=i)(h1:i<ns.length) :
  sw [.bool up,.list (rs.map Rec.e),.int .i64 f,.list (td.map Word.e),.list (hs.map House.e),.list (ns.map Word.e),.int .i64 i]=some (gD ⟨⟨up,⟨rs,f⟩,td⟩,hs,ns⟩ i).e:=by
 rw[q_ez]
 obtain⟨n,rfl⟩:=Int.eq_ofNat_of_zero_le h0
 have e1:(ns.map Word.e).take n=(ns.take n).map Word.e:=by simp
 have e2:(ns.map Word.e).drop (n+1)=(ns.drop (n+1)).map Word.e:=by simp
 have c1:(0:Int)<=((n+1:Nat):Int):=by omega
 have c2:((n+1:Nat):Int)<=(ns.length:Nat):=by omega
 have c3:(n:Int)<=(ns.length:Nat):=by omega
 have c4:(ns.take n).length<=1000:=by simp;omega
 have c5:(ns.drop (n+1)).length<=1000:=by simp;omega
 simp (disch:=first|assumption|omega|(simp only[zL];omega)) only[F_ez,ap,Int.toNat_natCast,e1,e2,eJ,Int.reduceEq,reduceIte,zU,zT,aa]
 simp[Wd.e,gD,List.eraseIdx_eq_take_drop_succ]
theorem kz(ho:WOk ⟨⟨up,⟨rs,f⟩,td⟩,hs,ns⟩)(hL:td.length<=1099511627774){k h t m:Int}(hx:WdOk ⟨k,h,t,m⟩) :
  mf [.bool up,.list (rs.map Rec.e),.int .i64 f,.list (td.map Word.e),.list (hs.map House.e),.list (ns.map Word.e),.int .i64 k,.int .i64 h,.int .i64 t,.int .i64 m] =
   some ((ba ⟨⟨up,⟨rs,f⟩,td⟩,hs,ns⟩ ⟨k,h,t,m⟩).1.e++((oW (ba ⟨⟨up,⟨rs,f⟩,td⟩,hs,ns⟩ ⟨k,h,t,m⟩).2).e++[.bool (ba ⟨⟨up,⟨rs,f⟩,td⟩,hs,ns⟩ ⟨k,h,t,m⟩).2.isSome])):=by
 rw[q_em]
 have hd:DkOk ⟨up,⟨rs,f⟩,td⟩:=ho.dk
 have hl:hs.length=3:=ho.len
 have hh:=hx.h
 simp only at hh
 by_cases h4:k>=4
 ·simp (disch:=first|assumption|omega|(simp only[zL];omega)) only[F_em,Bu,ba,h4,if_true,decide_true,Desk.e,Int.reduceEq,reduceIte,zU,zT,aa]
  simp[Wd.e,oW,Word.e]
 ·have hho:=(ho.houseAt (i:=h) hh).2.1
  rw[bp]at hho
  simp only at hho
  have hho':HsOk ⟨(dn hs h).id,(dn hs h).up,(dn hs h).room,⟨(dn hs h).lg.rs,(dn hs h).lg.f⟩⟩:=hho
  simp (disch:=first|assumption|omega|(simp only[zL];omega)) only[F_em,ba,h4,if_false,wrap64,mM,House.e,Bt,eqD,List.cons_append,Word.e,lH,bp,Int.reduceEq,reduceIte,zU,zT,aa]
  simp[Wd.e,setHouse,House.e]
theorem uF(ho:LgOk ⟨rs,f⟩){keep:Int} :
  pE [.list (rs.map Rec.e),.int .i64 f,.int .i64 keep]=some (fD ⟨rs,f⟩ keep).e:=by
 rw[q_fy]
 have h1:=ho.lo
 have h2:=ho.hi
 have h3:=ho.len
 have hk:=ho.keep keep
 simp only at h1 h2 h3 hk
 unfold eE at hk
 have e1:∀ n:Nat,(rs.map Rec.e).take n=(rs.take n).map Rec.e:=fun n=>by simp
 simp only[F_fy,fD,eE,aK,List.length_map]
 by_cases h:keep>0
 ·simp only[h,if_true]at hk ⊢
  have em:(if((rs.length:Nat):Int)-f<keep then((rs.length:Nat):Int)-f else keep)=min keep (rs.length-f):=by rw[Int.min_def];split<;>split<;>omega
  rw[wrap64 (x:=((rs.length:Nat):Int)-f) (by omega) (by omega),em,wrap64 (by omega) (by omega)]
  rw[cZ (by omega) (by omega),e1]
  simp[Log.e]
 ·simp only[h,if_false]at hk ⊢
  rw[cZ (by omega) (by omega),e1]
  simp[Log.e]
theorem Bv(ho:LgOk ⟨rs,f⟩){keep:Int} :
  vV [.bool up,.list (rs.map Rec.e),.int .i64 f,.list (td.map Word.e),.int .i64 keep]=some (dfall ⟨up,⟨rs,f⟩,td⟩ keep).e:=by
 rw[q_fh]
 simp (disch:=first|assumption|omega|(simp only[zL];omega)) only[F_fh,uF,Log.e,Int.reduceEq,reduceIte,zU,zT,aa]
 simp[dfall,Desk.e]
theorem mN(hl:hs.length=3)(hh:∀ h∈hs,h.lg.rs.length<=2000000){i:Int}(hi:0<=i/\i<=3) :
  pD [.bool up,.list (rs.map Rec.e),.int .i64 f,.list (td.map Word.e),.list (hs.map House.e),.list (ns.map Word.e),.int .i64 i]=some (cu ⟨⟨up,⟨rs,f⟩,td⟩,hs,ns⟩ i).e:=by
 rw[q_du]
 by_cases h0:i=0
 ·subst h0
  have e0:in_ 0 1 3=false:=rfl
  cases up<;>simp (disch:=first|assumption|omega|(simp only[zL];omega)) only[F_du,yK,bC,cu,bd,e0,if_true,Int.reduceEq,reduceIte,zU,zT,aa]<;>simp[Wd.e,fk]
 ·have e1:in_ i 1 3=true:=in_iff.2 (by omega)
  simp (disch:=first|assumption|omega|(simp only[zL];omega)) only[F_du,yK,bC,cu,h0,if_false,e1,if_true,wrap64,mM,House.e,eqD,lH,jz,bp,Int.reduceEq,reduceIte,zU,zT,aa]
  unfold bA
  cases hu:(dn hs i).up with
  | true =>
   simp (disch:=first|assumption|omega|(simp only[zL];omega)) only[lH,jz,House.e,eqD,Int.reduceEq,reduceIte,zU,zT,aa]
   simp[Wd.e,setHouse,hu,fk]
  | false =>
   have:setHouse ⟨⟨up,⟨rs,f⟩,td⟩,hs,ns⟩ i (dn hs i)=⟨⟨up,⟨rs,f⟩,td⟩,hs,ns⟩:=by
    unfold setHouse;simp only;rw[CG (by omega) (by omega)]
   simp only[Bool.false_eq_true,if_false,this,aF,aG]
   rfl
theorem Bw(ho:WOk ⟨⟨up,⟨rs,f⟩,td⟩,hs,ns⟩){k a b:Int}{m:List (List C)} :
  pF [.bool up,.list (rs.map Rec.e),.int .i64 f,.list (td.map Word.e),.list (hs.map House.e),.list (ns.map Word.e),.int .i64 k,.int .i64 a,.int .i64 b,.list m]=some (ch ⟨⟨up,⟨rs,f⟩,td⟩,hs,ns⟩ ⟨k,a,b,[]⟩).e:=by
 rw[q_fd]
 have hd:DkOk ⟨up,⟨rs,f⟩,td⟩:=ho.dk
 have hlg:LgOk ⟨rs,f⟩:=hd.lg
 have hl:hs.length=3:=ho.len
 have hh:∀ h∈hs,h.lg.rs.length<=2000000:=fun h hm=>by
  obtain⟨i,hi⟩:=List.mem_iff_getElem?.1 hm
  have:=(ho.hs i h hi).1.lg.len;omega
 unfold ch
 simp only
 cases ha:in_ a 0 3 with
 | false=>simp (disch:=first|assumption|omega|(simp only[zL];omega)) only[zP,bC,ha,Bool.not_false,Int.reduceEq,reduceIte,zU,zT,aa];rfl
 | true =>
  have ha':=in_iff.1 ha
  simp only[if_true]
  by_cases h7:k=7
  ·subst h7
   simp (disch:=first|assumption|omega|(simp only[zL];omega)) only[zP,bC,ha,Bool.not_true,if_true,mN,Wd.e,Int.reduceEq,reduceIte,zU,zT,aa]
  ·by_cases h8:k=8
   ·subst h8
    by_cases a0:a=0
    ·subst a0
     simp (disch:=first|assumption|omega|(simp only[zL];omega)) only[zP,bC,ha,Bool.not_true,if_true,if_false,Bv,Desk.e,Int.reduceEq,reduceIte,zU,zT,aa]
     simp[Wd.e]
    ·have hho:=(ho.houseAt (i:=a) (by omega)).2.1
     rw[bp]at hho
     have hlo:LgOk ⟨(dn hs a).lg.rs,(dn hs a).lg.f⟩:=hho.lg
     simp (disch:=first|assumption|omega|(simp only[zL];omega)) only[zP,bC,ha,Bool.not_true,if_true,if_false,a0,wrap64,mM,House.e,eqD,lH,jz,uF,Log.e,bp,List.length_set,Int.reduceEq,reduceIte,zU,zT,aa]
     simp[Wd.e,setHouse,hfall,House.e]
   ·by_cases h9:k=9
    ·subst h9
     by_cases a0:a=0
     ·subst a0
      simp (disch:=first|assumption|omega|(simp only[zL];omega)) only[zP,bC,ha,Bool.not_true,if_true,if_false,Int.reduceEq,reduceIte,zU,zT,aa]
      simp[Wd.e,dL]
     ·simp (disch:=first|assumption|omega|(simp only[zL];omega)) only[zP,bC,ha,Bool.not_true,if_true,if_false,a0,wrap64,mM,House.e,eqD,lH,bp,Int.reduceEq,reduceIte,zU,zT,aa]
      simp[Wd.e,setHouse,eV]
    ·simp (disch:=first|assumption|omega|(simp only[zL];omega)) only[zP,bC,ha,Bool.not_true,if_false,h7,h8,h9,Int.reduceEq,reduceIte,zU,zT,aa]
     rfl
theorem CH(ho:WOk ⟨⟨up,⟨rs,f⟩,td⟩,hs,ns⟩)(hL:td.length<=1099511627774){k a b:Int}{m:List (List C)} :
  pC [.bool up,.list (rs.map Rec.e),.int .i64 f,.list (td.map Word.e),.list (hs.map House.e),.list (ns.map Word.e),.int .i64 k,.int .i64 a,.int .i64 b,.list m]=some (lY ⟨⟨up,⟨rs,f⟩,td⟩,hs,ns⟩ ⟨k,a,b,[]⟩).e:=by
 rw[q_ga]
 have hnl:ns.length<=14:=ho.nlen
 unfold lY
 simp only
 by_cases h0:0<=a
 ·by_cases h1:a<ns.length
  ·have e1:in_ a 0 ((ns.length:Nat)-1)=true:=in_iff.2 (by omega)
   obtain⟨n,rfl⟩:=Int.eq_ofNat_of_zero_le h0
   have hn:n<ns.length:=by omega
   have hx:ns[n]?=some ns[n]:=by simp[hn]
   have hxw:=ho.ns ns[n] (List.mem_of_getElem? hx)
   have hxw':WdOk ⟨ns[n].k,ns[n].h,ns[n].t,ns[n].m⟩:=hxw
   simp only[Int.toNat_natCast,h0,if_true,hx]
   by_cases h5:k=5
   ·subst h5
    simp (disch:=first|assumption|omega|(simp only[zL];omega)) only[Dr,bC,wrap64,e1,Bool.not_true,gH hx,Word.e,if_true,qu,Wd.e,Int.reduceEq,reduceIte,zU,zT,aa]
   ·by_cases h6:k=6
    ·subst h6
     simp (disch:=first|assumption|omega|(simp only[zL];omega)) only[Dr,bC,wrap64,e1,Bool.not_true,gH hx,Word.e,if_true,if_false,h5,nP,Wd.e,Int.reduceEq,reduceIte,zU,zT,aa]
    ·have ho2:=ho.take (n:Int)
     generalize hw2:gD ⟨⟨up,⟨rs,f⟩,td⟩,hs,ns⟩ (n:Int)=w2 at ho2
     have htk:=qu (up:=up) (rs:=rs) (f:=f) (td:=td) (hs:=hs) (ns:=ns) (by omega) h0 h1
     rw[hw2]at htk
     have ho2':WOk ⟨⟨w2.dk.up,⟨w2.dk.lg.rs,w2.dk.lg.f⟩,w2.dk.td⟩,w2.hs,w2.ns⟩:=ho2
     have hL2:w2.dk.td.length<=1099511627774:=by rw[<-hw2];exact hL
     have hhe:=ho2.hear hxw
     have hm:=kz ho2' hL2 hxw'
     simp only[jI,jJ,iv,th]at hm
     generalize (ba w2 ns[n])=p at hhe hm
     obtain⟨w3,o⟩:=p
     have hn3:w3.ns.length<=1000:=by have:=hhe.1.nlen;simp only at this;omega
     simp only[Wd.e,Word.e,List.cons_append,List.nil_append]at hm htk
     simp (disch:=first|assumption|omega|(simp only[zL];omega)) only[Dr,bC,wrap64,e1,Bool.not_true,gH hx,Word.e,h5,h6,if_false,htk,hm,Int.reduceEq,reduceIte,zU,zT,aa]
     cases o with
     | none=>simp[Fb,Wd.e]
     | some y =>
      simp (disch:=first|assumption|omega|(simp only[zL];omega)) only[Option.isSome_some,oW,Option.getD_some,nP,Wd.e,Fb,Int.reduceEq,reduceIte,zU,zT,aa]
  ·have e1:in_ a 0 ((ns.length:Nat)-1)=false:=in_false.2 (by omega)
   have hx:ns[a.toNat]?=none:=List.getElem?_eq_none (by omega)
   simp (disch:=first|assumption|omega|(simp only[zL];omega)) only[Dr,bC,wrap64,e1,Bool.not_false,h0,if_true,hx,Int.reduceEq,reduceIte,zU,zT,aa]
   rfl
 ·have e1:in_ a 0 ((ns.length:Nat)-1)=false:=in_false.2 (by omega)
  simp (disch:=first|assumption|omega|(simp only[zL];omega)) only[Dr,bC,wrap64,e1,Bool.not_false,h0,if_false,Int.reduceEq,reduceIte,zU,zT,aa]
  rfl
theorem Bx(ho:WOk ⟨⟨up,⟨rs,f⟩,td⟩,hs,ns⟩)(hL:td.length<=1099511627774){k a b:Int}{m:List Int}(hm:m.length<=2000000) :
  vQ [.bool up,.list (rs.map Rec.e),.int .i64 f,.list (td.map Word.e),.list (hs.map House.e),.list (ns.map Word.e),.int .i64 k,.int .i64 a,.int .i64 b,.list (m.map eI)]=some (iP ⟨⟨up,⟨rs,f⟩,td⟩,hs,ns⟩ ⟨k,a,b,m⟩).e:=by
 rw[q_fk]
 have hd:DkOk ⟨up,⟨rs,f⟩,td⟩:=ho.dk
 have hlg:LgOk ⟨rs,f⟩:=hd.lg
 have hS:=hlg.S
 have tA:TrOk (aC ⟨rs,f⟩ false):=hd.trOk false
 have lA:=tA.len
 have hnl:ns.length<=14:=ho.nlen
 unfold iP
 simp only
 by_cases h1:k=1
 ·subst h1
  simp (disch:=first|assumption|omega|(simp only[zL];omega)) only[Cg,jK,mG,wrap64,eJ,if_true,fP,eG,aj,Int.reduceEq,reduceIte,zU,zT,aa]
  rcases Bool.eq_false_or_eq_true (aD ⟨4,((aC ⟨rs,f⟩ false).length:Int)+1,m⟩)with hr|hr
  ·simp (disch:=first|assumption|omega|(simp only[zL];omega)) only[hr,eK,Desk.e,List.cons_append,if_true,Int.reduceEq,reduceIte,zU,zT,aa]
   simp[Wd.e]
  ·simp[hr,Wd.e]
 ·by_cases h2:k=2
  ·subst h2
   simp (disch:=first|assumption|omega|(simp only[zL];omega)) only[Cg,bC,if_true,if_false,jD,Int.reduceEq,reduceIte,zU,zT,aa]
   cases hi:in_ a 1 6 with
   | false=>simp[Wd.e]
   | true =>
    have hw:=eK hd (k:=6) (t:=a) (m:=[]) (by simp[aD,in_iff,in_iff.1 hi])
    simp only[List.map_nil,Desk.e,List.cons_append,List.nil_append]at hw
    simp (disch:=first|assumption|omega|(simp only[zL];omega)) only[hw,Int.reduceEq,reduceIte,zU,zT,aa]
    simp[Wd.e]
  ·by_cases h3:k=3
   ·subst h3
    have hwl:(aW ⟨up,⟨rs,f⟩,td⟩).length<=1000:=by have:=gf hd;omega
    generalize hwd:aW ⟨up,⟨rs,f⟩,td⟩=l at hwl
    have hmw:=mL hd (by omega)
    rw[hwd]at hmw
    by_cases h0:0<=a
    ·by_cases hlt:a<l.length
     ·have e1:in_ a 0 ((l.length:Nat)-1)=true:=in_iff.2 (by omega)
      obtain⟨n,rfl⟩:=Int.eq_ofNat_of_zero_le h0
      have hn:n<l.length:=by omega
      have hx:l[n]?=some l[n]:=by simp[hn]
      simp (disch:=first|assumption|omega|(simp only[zL];omega)) only[Cg,hmw,bC,wrap64,e1,Int.toNat_natCast,h0,if_true,if_false,hx,gH hx,Word.e,nP,Wd.e,Int.reduceEq,reduceIte,zU,zT,aa]
     ·have e1:in_ a 0 ((l.length:Nat)-1)=false:=in_false.2 (by omega)
      have hx:l[a.toNat]?=none:=List.getElem?_eq_none (by omega)
      simp (disch:=first|assumption|omega|(simp only[zL];omega)) only[Cg,hmw,bC,wrap64,e1,h0,if_true,if_false,hx,Int.reduceEq,reduceIte,zU,zT,aa]
      rfl
    ·have e1:in_ a 0 ((l.length:Nat)-1)=false:=in_false.2 (by omega)
     simp (disch:=first|assumption|omega|(simp only[zL];omega)) only[Cg,hmw,bC,wrap64,e1,h0,if_true,if_false,Int.reduceEq,reduceIte,zU,zT,aa]
     rfl
   ·simp (disch:=first|assumption|omega|(simp only[zL];omega)) only[Cg,h1,h2,h3,if_false,Int.reduceEq,reduceIte,zU,zT,aa]
    rfl
theorem FW(ho:WOk ⟨⟨up,⟨rs,f⟩,td⟩,hs,ns⟩)(hL:td.length<=1099511627774){k a b:Int}{m:List Int}(hm:m.length<=2000000) :
  mg [.bool up,.list (rs.map Rec.e),.int .i64 f,.list (td.map Word.e),.list (hs.map House.e),.list (ns.map Word.e),.int .i64 k,.int .i64 a,.int .i64 b,.list (m.map eI)]=some (wdo ⟨⟨up,⟨rs,f⟩,td⟩,hs,ns⟩ ⟨k,a,b,m⟩).e:=by
 rw[q_hc]
 have hA:=fun k=>Bx ho hL (k:=k) (a:=a) (b:=b) hm
 have hB:=fun k=>CH ho hL (k:=k) (a:=a) (b:=b) (m:=m.map eI)
 have hC:=fun k=>Bw ho (k:=k) (a:=a) (b:=b) (m:=m.map eI)
 have eB:∀ k,lY ⟨⟨up,⟨rs,f⟩,td⟩,hs,ns⟩ ⟨k,a,b,[]⟩=lY ⟨⟨up,⟨rs,f⟩,td⟩,hs,ns⟩ ⟨k,a,b,m⟩:=fun _=>rfl
 have eC:∀ k,ch ⟨⟨up,⟨rs,f⟩,td⟩,hs,ns⟩ ⟨k,a,b,[]⟩=ch ⟨⟨up,⟨rs,f⟩,td⟩,hs,ns⟩ ⟨k,a,b,m⟩:=fun _=>rfl
 simp only[eB,eC,Wd.e]at hA hB hC
 unfold wdo
 simp only[F_hc,bo]
 by_cases c1:k=1\/k=2\/k=3
 ·simp only[c1,if_true]
  rcases c1 with e|e|e<;>subst e<;>simp (disch:=first|assumption|omega|(simp only[zL];omega)) only[yL,hA,Wd.e,if_true,if_false,BEq.rfl,Int.reduceEq,reduceIte,zU,zT,aa]
 ·simp only[c1,if_false]
  have n1:¬ k=1:=by omega
  have n2:¬ k=2:=by omega
  have n3:(k==3)=false:=by simpa using(by omega:¬ k=3)
  simp only[n1,n2,n3,if_false,aZ,aa,C.toBool_bool,yL,aF,bo]
  by_cases c2:k=4\/k=5\/k=6
  ·simp only[c2,if_true]
   rcases c2 with e|e|e<;>subst e<;>simp (disch:=first|assumption|omega|(simp only[zL];omega)) only[hB,Wd.e,if_true,if_false,Int.reduceEq,reduceIte,zU,zT,aa]
  ·simp only[c2,if_false]
   have n4:¬ k=4:=by omega
   have n5:¬ k=5:=by omega
   have n6:¬ k=6:=by omega
   simp only[n4,n5,n6,if_false]
   by_cases c3:k=7\/k=8\/k=9
   ·simp only[c3,if_true]
    rcases c3 with e|e|e<;>subst e<;>simp (disch:=first|assumption|omega|(simp only[zL];omega)) only[hC,Wd.e,if_true,if_false,Int.reduceEq,reduceIte,zU,zT,aa]
   ·simp only[c3,if_false]
    have n7:¬ k=7:=by omega
    have n8:¬ k=8:=by omega
    have n9:¬ k=9:=by omega
    simp only[n7,n8,n9,if_false]
    rfl
end
end Dx
namespace Dx
open Go
@[simp] theorem uG (o:Out) (k:List C->Option Out):bH (some (.up o)) k=some o:=rfl
theorem By:xi []=some deskNew.e:=by rw[q_fq];rfl
theorem xJ{id room:Int}:xj [.int .i64 id,.int .i64 room] =
  some (if in_ id 1 3 && in_ room 0 9 then(⟨id,true,room,⟨[],0⟩⟩:House).e++[.bool true] else(⟨0,false,0,⟨[],0⟩⟩:House).e++[.bool false]):=by
 rw[q_db]
 simp (disch:=first|assumption|omega|(simp only[zL];omega)) only[F_db,mK,bC,Stock.e,List.cons_append,Int.reduceEq,reduceIte,zU,zT,aa]
 cases in_ id 1 3<;>cases in_ room 0 9<;>rfl
def nh:Nat->List Int->List House
 | _,[]=>[]
 | i,r::rs=>⟨((i+1:Nat):Int),true,r,⟨[],0⟩⟩::nh (i+1) rs
theorem Fd:∀(rs:List Int) (i:Nat),nh i rs=(rs.zipIdx (i+1)).map fun p=>⟨p.2,true,p.1,⟨[],0⟩⟩
 | [],i=>rfl
 | r::rs,i=>by simp[nh,Fd rs (i+1)]
def wd0:Wd:=⟨⟨false,⟨[],0⟩,[]⟩,[],[]⟩
theorem xK{rooms:List Int}(hL:rooms.length<=1099511627775):xk [.list (rooms.map eI)]=some (((bg rooms).getD wd0).e++[.bool (bg rooms).isSome]):=by
 rw[q_ec]
 simp (disch:=first|assumption|omega|(simp only[zL];omega)) only[F_ec,By,Desk.e,deskNew,Int.reduceEq,reduceIte,zU,zT,aa]
 have key:=ak (l:=rooms) (F:=fun ps=>s7 (rooms.map eI) true [] 0 [] ((aa ps 0).toInt) ((aa ps 1).toList)) (enc:=fun i (s:List House)=>[.int .i64 i,.list (s.map House.e)])
  (res:=fun xs i s=>.ret (((if rooms.length=3/\xs.all (fun n=>in_ n 0 9)=true then some (⟨deskNew,s++nh i xs,[]⟩:Wd) else none).getD wd0).e++[.bool (if rooms.length=3/\xs.all (fun n=>in_ n 0 9)=true then some (⟨deskNew,s++nh i xs,[]⟩:Wd) else none).isSome])) (fun i s=>s.length=i) (s:=[]) (by simp) ?_ ?_
 ·have key:am _ [C.int .i64 0,C.list []]=_:=key
  simp only[List.map_nil]at key ⊢
  rw[key]
  have:(if rooms.length=3/\rooms.all (fun n=>in_ n 0 9)=true then some (⟨deskNew,[]++nh 0 rooms,[]⟩:Wd) else none)=bg rooms:=by
   unfold bg c9
   rw[Fd];simp
  rw[this];rfl
 ·intro i x xs s hx hs
  have hi:=(List.getElem?_eq_some_iff.1 hx).1
  have hi':(i:Int)<(rooms.length:Nat):=by omega
  simp only[s7,aa,C.toInt_int,C.toList_list,List.length_map,aK,hi',if_true,gG hx,eI]
  simp (disch:=first|assumption|omega|(simp only[zL];omega)) only[ap,xJ]
  by_cases hok:(in_ ((i+1:Nat):Int) 1 3 && in_ x 0 9)=true
  ·have hr:=in_iff.1 (Bool.and_eq_true_iff.1 hok).1
   rw[if_pos hok]
   simp only[House.e,List.cons_append,List.nil_append,kx,aa,C.toInt_int,C.toList_list,C.toBool_bool,List.map_nil,Bool.not_true,aF]
   rw[bQ (by simp[cf];omega)]
   refine .inl ⟨s++[⟨((i+1:Nat):Int),true,x,⟨[],0⟩⟩],by simp[House.e],by simp[hs],?_⟩
   have:=(Bool.and_eq_true_iff.1 hok).2
   simp[nh,this]
  ·rw[if_neg hok]
   refine .inr ⟨_,rfl,?_⟩
   have:¬ (rooms.length=3/\(x::xs).all (fun n=>in_ n 0 9)=true):=by
    intro ⟨h3,ha⟩
    simp only[List.all_cons,Bool.and_eq_true]at ha
    exact hok (Bool.and_eq_true_iff.2 ⟨in_iff.2 (by omega),ha.1⟩)
   simp only[this,if_false];rfl
 ·intro s hs
  have h:¬ ((rooms.length:Int)<(rooms.length:Nat)):=by omega
  simp only[s7,aa,C.toInt_int,C.toList_list,List.length_map,aK,h,if_false,zW]
  by_cases h3:rooms.length=3
  ·have h3':((rooms.length:Nat):Int)=3:=by omega
   simp[h3,upD,nh,Wd.e,deskNew]
  ·have h3':¬ ((rooms.length:Nat):Int)=3:=by omega
   simp[h3,h3',upD,Wd.e,wd0]
end Dx
namespace Dx
open Go
def EvS(e:Ev):Prop:=e.m.length<=2000000
section
variable {bs:List Int}
def EvOut(bs:List Int)(p:Int)(r:Option (List C)):Prop:=∃(e:Ev) (p':Int),r=some (e.e++[.list (bs.map eB),.int .i64 p'])/\p<=p'/\p'<=p+10/\EvS e
theorem EvOut.ite{p:Int}{c:Prop}[Decidable c]{a b:Option (List C)}(ha:EvOut bs p a)(hb:EvOut bs p b):EvOut bs p (if c then a else b):=by split<;>assumption
def EvOut'(bs:List Int)(p:Int)(r:Option (List C)):Prop:=∃(e:Ev) (p':Int),r=some (e.e++[.list (bs.map eB),.int .i64 p'])/\p<=p'/\p'<=p+20/\EvS e
theorem EvOut.up{p q:Int}{r:Option (List C)}(h:EvOut bs p r)(h1:q<=p)(h2:p<=q+10):EvOut' bs q r:=by
 obtain⟨e,p',e1,e2,e3,e4⟩:=h
 exact⟨e,p',e1,by omega,by omega,e4⟩
theorem EvOut'.ite{p:Int}{c:Prop}[Decidable c]{a b:Option (List C)}(ha:EvOut' bs p a)(hb:EvOut' bs p b):EvOut' bs p (if c then a else b):=by split<;>assumption
end
structure Drawn (w0:Wd) (es:List Ev) (w:Wd) (n:Nat):Prop where
 play:w=gF w0 es
 len:es.length<=n
 sz:∀ e∈es,EvS e
theorem uH{w:Wd}(ho:WOk w){e:Ev}(he:EvS e) :
  mg [.bool w.dk.up,.list (w.dk.lg.rs.map Rec.e),.int .i64 w.dk.lg.f,.list (w.dk.td.map Word.e),.list (w.hs.map House.e),.list (w.ns.map Word.e),.int .i64 e.k,.int .i64 e.a,.int .i64 e.b,.list (e.m.map eI)]=some (wdo w e).e :=
 FW (up:=w.dk.up) (rs:=w.dk.lg.rs) (f:=w.dk.lg.f) (td:=w.dk.td) (hs:=w.hs) (ns:=w.ns) ho (by have:=ho.dk.tdlen;omega) he
theorem mO{l:List Ev}{i:Nat}{x:Ev}(h:l[i]?=some x){kk:IntKind}{f:List C->Option Out}:aH (.list (l.map Ev.e)) (.int kk i) [.int .i64,.int .i64,.int .i64,.list] f=f x.e:=eP h rfl
theorem t7{rooms:List Int}{es:List Ev}(hr:rooms.length<=1099511627775)(hl:es.length<=1099511627776)(hs:∀ e∈es,EvS e) :
  xl [.list (rooms.map eI),.list (es.map Ev.e)]=some (((bN rooms es).getD wd0).e++[.bool (bN rooms es).isSome]):=by
 rw[q_cp]
 have hwn:=xK (rooms:=rooms) hr
 simp only[Wd.e,List.cons_append,List.nil_append]at hwn
 simp (disch:=first|assumption|omega|(simp only[zL];omega)) only[F_cp,hwn,Int.reduceEq,reduceIte,zU,zT,aa]
 unfold bN
 cases hw:bg rooms with
 | none=>simp[Wd.e,wd0]
 | some w0 =>
  have ok0:=dI hw
  simp only[Option.isSome_some,Bool.not_true,aI,aF,Option.getD_some,Option.map_some]
  by_cases h80:((es.length:Nat):Int)>80
  ·have h80':es.length>80:=by omega
   simp[h80,h80',Wd.e,wd0]
  ·have h80':¬ es.length>80:=by omega
   simp only[h80,h80',if_false]
   have key:=ak (l:=es) (F:=fun ps=>s8 (es.map Ev.e) ((aa ps 0).toInt) ((aa ps 1).toBool) ((aa ps 2).toInt) ((aa ps 3).toList) ((aa ps 4).toList) ((aa ps 5).toList) ((aa ps 6).toList))
    (enc:=fun i (w:Wd)=>[.int .i64 i,.bool w.dk.up,.int .i64 w.dk.lg.f,.list (w.dk.lg.rs.map Rec.e),.list (w.dk.td.map Word.e),.list (w.hs.map House.e),.list (w.ns.map Word.e)])
    (res:=fun xs _ w=>.ret ((gF w xs).e++[.bool true])) (fun _ w=>WOk w) (s:=w0) ok0 ?_ ?_
   ·have key:am _ [C.int .i64 0,C.bool w0.dk.up,C.int .i64 w0.dk.lg.f,C.list (w0.dk.lg.rs.map Rec.e),C.list (w0.dk.td.map Word.e),C.list (w0.hs.map House.e),C.list (w0.ns.map Word.e)]=_:=key
    rw[key];rfl
   ·intro i x xs w hx ow
    have hi:=(List.getElem?_eq_some_iff.1 hx).1
    have hi':(i:Int)<(es.length:Nat):=by omega
    have hx3:=hs x (List.mem_of_getElem? hx)
    simp only[aa,C.toInt_int,C.toBool_bool,C.toList_list]
    unfold s8
    simp only[aK,List.length_map,hi',if_true,mO hx,Ev.e,aa,C.toInt_int,C.toList_list,uH ow hx3]
    simp only[Wd.e,bE,aa,C.toInt_int,C.toList_list,C.toBool_bool]
    rw[ap (by omega)]
    exact .inl ⟨wdo w x,rfl,ow.do_ x,rfl⟩
   ·intro w ow
    have h:¬ ((es.length:Int)<(es.length:Nat)):=by omega
    simp only[aa,C.toInt_int,C.toBool_bool,C.toList_list]
    unfold s8
    simp only[aK,List.length_map,h,if_false,jZ]
    rfl
end Dx
namespace Dx
open Go
def lZ{α:Type}(p:α->Bool):Nat->List α->Int
 | _,[]=>-1
 | i,x::xs=>if p x then(i:Int) else lZ p (i+1) xs
theorem dQ{α:Type}(p:α->Bool):∀(xs:List α) (i:Nat),(lZ p i xs>=0)↔xs.any p=true
 | [],i=>by simp[lZ]
 | x::xs,i=>by
  simp only[lZ,List.any_cons,Bool.or_eq_true]
  by_cases h:p x=true
  ·rw[if_pos h];simp[h]
  ·rw[if_neg h,dQ p xs (i+1)];simp[h]
theorem gp{α:Type}{F:List C->Option Out}{l:List α}(p:α->Bool)
  (hs:∀(i:Nat) (x:α),l[i]?=some x->F [.int .i64 i]=if p x then some (.up (.ret [.int .i64 i])) else some (.jump [.int .i64 ((i+1:Nat):Int)]))
  (hf:F [.int .i64 (l.length:Nat)]=some (.up (.ret [.int .i64 (-1)]))):am F [.int .i64 0]=some (.ret [.int .i64 (lZ p 0 l)]):=by
 have:=ak (l:=l) (F:=F) (enc:=fun i (_:Unit)=>[.int .i64 i]) (res:=fun xs i _=>.ret [.int .i64 (lZ p i xs)]) (fun _ _=>True) (s:=()) trivial
  (fun i x xs s hx _=>by
   rw[hs i x hx]
   cases h:p x with
   | true=>exact .inr ⟨_,rfl,by simp[lZ,h]⟩
   | false=>exact .inl ⟨(),rfl,trivial,by simp[lZ,h]⟩)
  (fun s _=>hf)
 exact this
theorem j8(n lo hi:Int):bv [.int .i64 n,.int .i64 lo,.int .i64 hi]=some [.bool (in_ n lo hi)]:=by
 rw[q_ho]
 simp only[F_ho,ge_iff_le,in_]
 cases decide (lo<=n)<;>rfl
theorem nQ(n:Int):gx [.int .i64 n]=some [.bool (in_ n 1 6)]:=by
 rw[q_gd];simp (disch:=first|assumption|omega|(simp only[zL];omega)) only[F_gd,j8,Int.reduceEq,reduceIte,zU,zT,aa]
theorem cQ(n:Int):eT [.int .i64 n]=some [.bool (in_ n 1 3)]:=by
 rw[q_fb];simp (disch:=first|assumption|omega|(simp only[zL];omega)) only[F_fb,j8,Int.reduceEq,reduceIte,zU,zT,aa]
theorem i_w1(n:Int):vX [.int .i64 n]=some [.bool (!in_ n 0 3)]:=by
 rw[q_bu];simp (disch:=first|assumption|omega|(simp only[zL];omega)) only[F_bu,j8,Int.reduceEq,reduceIte,zU,zT,aa]
theorem i_w2(n:Int):v6 [.int .i64 n]=some [.bool (n != 0)]:=by
 rw[q_bz];simp (disch:=first|assumption|omega|(simp only[zL];omega)) only[F_bz,Int.reduceEq,reduceIte,zU,zT,aa]
theorem i_ix1{m:List Int}(hL:m.length<=1099511627776):vY [.list (m.map eI)]=some [.int .i64 (lZ (fun n=>!in_ n 0 3) 0 m)]:=by
 rw[q_an];unfold F_an
 simp only[List.length_map]
 rw[gp (l:=m) (fun n=>!in_ n 0 3)]
 ·rfl
 ·intro i x hx
  have hi:=(List.getElem?_eq_some_iff.1 hx).1
  have hi':(i:Int)<(m.length:Nat):=by omega
  simp (disch:=first|assumption|omega|(simp only[zL];omega)) only[yM,gG hx,eI,ap,hi',if_true,i_w1,Int.reduceEq,reduceIte,zU,zT,aa]
  cases in_ x 0 3<;>rfl
 ·have h:¬ ((m.length:Int)<(m.length:Nat)):=by omega
  simp (disch:=first|assumption|omega|(simp only[zL];omega)) only[yM,h,if_false,Int.reduceEq,reduceIte,zU,zT,aa]
theorem i_ix2{m:List Int}(hL:m.length<=1099511627776):v7 [.list (m.map eI)]=some [.int .i64 (lZ (fun n=>n != 0) 0 m)]:=by
 rw[q_ao];unfold F_ao
 simp only[List.length_map]
 rw[gp (l:=m) (fun n=>n != 0)]
 ·rfl
 ·intro i x hx
  have hi:=(List.getElem?_eq_some_iff.1 hx).1
  have hi':(i:Int)<(m.length:Nat):=by omega
  simp (disch:=first|assumption|omega|(simp only[zL];omega)) only[yN,gG hx,eI,ap,hi',if_true,i_w2,Int.reduceEq,reduceIte,zU,zT,aa]
  by_cases h:x=0<;>simp[h]
 ·have h:¬ ((m.length:Int)<(m.length:Nat)):=by omega
  simp (disch:=first|assumption|omega|(simp only[zL];omega)) only[yN,h,if_false,Int.reduceEq,reduceIte,zU,zT,aa]
theorem i_cf1{m:List Int}(hL:m.length<=1099511627776):vZ [.list (m.map eI)]=some [.bool (m.any fun n=>!in_ n 0 3)]:=by
 rw[q_al];simp (disch:=first|assumption|omega|(simp only[zL];omega)) only[F_al,i_ix1,dQ,Bool.decide_eq_true,Int.reduceEq,reduceIte,zU,zT,aa]
theorem i_cf2{m:List Int}(hL:m.length<=1099511627776):v8 [.list (m.map eI)]=some [.bool (m.any fun n=>n != 0)]:=by
 rw[q_ak];simp (disch:=first|assumption|omega|(simp only[zL];omega)) only[F_ak,i_ix2,dQ,Bool.decide_eq_true,Int.reduceEq,reduceIte,zU,zT,aa]
theorem mP{m:List Int}(hL:m.length<=1099511627776):pG [.list (m.map eI)]=some [.bool (cI m)]:=by
 rw[q_ds]
 simp (disch:=first|assumption|omega|(simp only[zL];omega)) only[F_ds,i_cf1,i_cf2,Int.reduceEq,reduceIte,zU,zT,aa]
 by_cases h:m.length=3
 ·have h':((m.length:Nat):Int)=3:=by omega
  simp only[h',if_true]
  match m,h with
  | [a,b,c],_ =>
   have e1:∀ x:Int,in_ x 0 3=true->0<=x:=fun x hx=>(in_iff.1 hx).1
   cases ha:in_ a 0 3<;>cases hb:in_ b 0 3<;>cases hc:in_ c 0 3<;>simp[cI,ha,hb,hc]
   have:=e1 a ha;have:=e1 b hb;have:=e1 c hc
   rw[Bool.eq_iff_iff];simp;omega
 ·have h':¬ ((m.length:Nat):Int)=3:=by omega
  simp[h,h',cI]
theorem j9{k t:Int}{m:List Int}(hL:m.length<=1099511627776):gy [.int .i64 k,.int .i64 t,.list (m.map eI)]=some [.bool (aD ⟨k,t,m⟩)]:=by
 rw[q_he]
 simp (disch:=first|assumption|omega|(simp only[zL];omega)) only[F_he,j8,nQ,mP,aD,Int.reduceEq,reduceIte,zU,zT,aa]
 by_cases h1:k=1
 ·subst h1
  have e1:in_ 1 1 7=true:=rfl
  simp only[if_true,e1]
  match m with
  | []=>cases in_ t 1 6<;>rfl
  | [n]=>simp (disch:=first|assumption|omega|(simp only[zL];omega)) only[List.length_cons,List.length_nil,FU,eI,j8,Int.reduceEq,reduceIte,zU,zT,aa]
         cases in_ t 1 6<;>simp
  | a::b::l =>
   have:¬ ((((a::b::l).length:Nat):Int)=1):=by simp;omega
   simp only[this,if_false]
   cases in_ t 1 6<;>simp
 ·by_cases h4:k=4
  ·subst h4
   have e1:in_ 4 1 7=true:=rfl
   simp only[e1]
   cases in_ t 1 6<;>simp
  ·simp only[h1,h4,if_false]
   have e1:in_ k 1 7=in_ k 2 7:=by rw[Bool.eq_iff_iff,in_iff,in_iff];omega
   rw[e1]
   have e2:(((m.length:Nat):Int)==0)=m.isEmpty:=by cases m<;>simp;omega
   rw[e2]
   cases in_ t 1 6<;>cases in_ k 2 7<;>simp
theorem CI{k t:Int}{m:List Int}(hL:m.length<=1099511627776):v9 [.int .i64 k,.int .i64 t,.list (m.map eI)]=some [.bool (!aD ⟨k,t,m⟩)]:=by
 rw[q_ei];simp (disch:=first|assumption|omega|(simp only[zL];omega)) only[F_ei,j9,Int.reduceEq,reduceIte,zU,zT,aa]
theorem i_ixR{rs:List Rec}(hL:rs.length<=1099511627776)(hm:∀ r∈rs,r.m.length<=1099511627776):wa [.list (rs.map Rec.e)]=some [.int .i64 (lZ (fun r=>!aD r) 0 rs)]:=by
 rw[q_am];unfold F_am
 simp only[List.length_map]
 rw[gp (l:=rs) (fun r=>!aD r)]
 ·rfl
 ·intro i x hx
  have hi:=(List.getElem?_eq_some_iff.1 hx).1
  have hi':(i:Int)<(rs.length:Nat):=by omega
  have hxm:=hm x (List.mem_of_getElem? hx)
  simp (disch:=first|assumption|omega|(simp only[zL];omega)) only[yO,fF hx,Rec.e,ap,hi',if_true,CI,Int.reduceEq,reduceIte,zU,zT,aa]
  cases aD x<;>rfl
 ·have h:¬ ((rs.length:Int)<(rs.length:Nat)):=by omega
  simp (disch:=first|assumption|omega|(simp only[zL];omega)) only[yO,h,if_false,Int.reduceEq,reduceIte,zU,zT,aa]
theorem i_cfR{rs:List Rec}(hL:rs.length<=1099511627776)(hm:∀ r∈rs,r.m.length<=1099511627776):wc [.list (rs.map Rec.e)]=some [.bool (rs.any fun r=>!aD r)]:=by
 rw[q_ah];simp (disch:=first|assumption|omega|(simp only[zL];omega)) only[F_ah,i_ixR,dQ,Bool.decide_eq_true,Int.reduceEq,reduceIte,zU,zT,aa]
theorem ka{rs:List Rec}{f:Int}(hl:LgS ⟨rs,f⟩):gz [.list (rs.map Rec.e),.int .i64 f]=some [.bool (fC ⟨rs,f⟩)]:=by
 rw[q_hh]
 have h1:rs.length<=1099511627776:=by have:=hl.1;simp only at this;omega
 have h2:∀ r∈rs,r.m.length<=1099511627776:=hl.2
 simp (disch:=first|assumption|omega|(simp only[zL];omega)) only[F_hh,j8,i_cfR h1 h2,fC,Int.reduceEq,reduceIte,zU,zT,aa]
 have e:rs.any (fun r=>!aD r)=!rs.all aD:=by simp[List.any_eq_not_all_not]
 rw[e,Bool.not_not]
 by_cases h40:rs.length<=40
 ·have h40':((rs.length:Nat):Int)<=40:=by omega
  simp only[h40,h40',if_true,decide_true,Bool.true_and]
  cases in_ f 0 (rs.length:Nat)<;>simp
 ·have h40':¬ ((rs.length:Nat):Int)<=40:=by omega
  simp only[h40,h40',if_false,decide_false,Bool.false_and,Bool.and_false]
def TrS(l:List Trip):Prop:=l.length<=2000000/\∀ t∈l,t.m.length<=1099511627776
theorem TrOk.S{l:List Trip}(h:TrOk l):TrS l:=⟨by have:=h.len;omega,fun t ht=>by have:=bw (tripOk_iff.1 (h.ok t ht)).1;omega⟩
theorem xL{m:List Int}{s:Int}(hL:m.length<=1099511627776):wd [.list (m.map eI),.int .i64 s]=some [.bool (!ee ⟨m,s⟩)]:=by
 rw[q_cq];simp (disch:=first|assumption|omega|(simp only[zL];omega)) only[F_cq,mP,j8,ee,Int.reduceEq,reduceIte,zU,zT,aa]
 cases cI m<;>simp
theorem i_ixT{l:List Trip}(hl:TrS l):we [.list (l.map Trip.e)]=some [.int .i64 (lZ (fun t=>!ee t) 0 l)]:=by
 rw[q_ai];unfold F_ai
 have h1:=hl.1
 simp only[List.length_map]
 rw[gp (l:=l) (fun t=>!ee t)]
 ·rfl
 ·intro i x hx
  have hi:=(List.getElem?_eq_some_iff.1 hx).1
  have hi':(i:Int)<(l.length:Nat):=by omega
  have hxm:=hl.2 x (List.mem_of_getElem? hx)
  simp (disch:=first|assumption|omega|(simp only[zL];omega)) only[yP,xH hx,Trip.e,ap,hi',if_true,xL,Int.reduceEq,reduceIte,zU,zT,aa]
  cases ee x<;>rfl
 ·have h:¬ ((l.length:Int)<(l.length:Nat)):=by omega
  simp (disch:=first|assumption|omega|(simp only[zL];omega)) only[yP,h,if_false,Int.reduceEq,reduceIte,zU,zT,aa]
theorem Bz{l:List Trip}(hl:TrS l):wh [.list (l.map Trip.e)]=some [.bool (dN l)]:=by
 rw[q_en]
 have hc:wg [.list (l.map Trip.e)]=some [.bool (l.any fun t=>!ee t)]:=by
  rw[q_ad];simp (disch:=first|assumption|omega|(simp only[zL];omega)) only[F_ad,i_ixT,dQ,Bool.decide_eq_true,Int.reduceEq,reduceIte,zU,zT,aa]
 simp (disch:=first|assumption|omega|(simp only[zL];omega)) only[F_en,hc,dN,Int.reduceEq,reduceIte,zU,zT,aa]
 have e:l.any (fun t=>!ee t)=!l.all ee:=by simp[List.any_eq_not_all_not]
 rw[e,Bool.not_not]
 by_cases h:l.length<=6
 ·have h':((l.length:Nat):Int)<=6:=by omega
  simp[h,h']
 ·have h':¬ ((l.length:Nat):Int)<=6:=by omega
  simp[h,h']
theorem qv{l:List Trip}(hl:l.length<=1099511627776){t:Int}:pH [.list (l.map Trip.e),.int .i64 t]=some [.int .i64 (if in_ t 1 l.length then(tAt l t).s else 0)]:=by
 rw[q_es]
 simp (disch:=first|assumption|omega|(simp only[zL];omega)) only[F_es,j8,Int.reduceEq,reduceIte,zU,zT,aa]
 rcases Bool.eq_false_or_eq_true (in_ t 1 (l.length:Nat))with h|h
 ·have h':=in_iff.1 h
  simp (disch:=first|assumption|omega|(simp only[zL];omega)) only[h,Bool.not_true,if_true,wrap64,Dz,Trip.e,Int.reduceEq,reduceIte,zU,zT,aa]
 ·simp[h]
theorem mQ{l:List Trip}(hl:TrS l){k t:Int}{m:List Int}(hL:m.length<=1099511627776) :
  pI [.list (l.map Trip.e),.int .i64 k,.int .i64 t,.list (m.map eI)]=some [.bool (dN l && (aD ⟨k,t,m⟩ && cm l ⟨k,t,m⟩))]:=by
 rw[q_dr]
 have h1:=hl.1
 simp (disch:=first|assumption|omega|(simp only[zL];omega)) only[F_dr,Bz,j9,qv,wrap64,Int.reduceEq,reduceIte,zU,zT,aa]
 cases dN l with
 | false=>rfl
 | true =>
  cases hr:aD ⟨k,t,m⟩with
  | false=>rfl
  | true =>
   have ht:=cy hr
   simp only at ht
   simp only[aI,Bool.not_true,aF,Bool.true_and,cm]
   by_cases h4:k=4
   ·simp[h4]
   ·simp only[h4,if_false]
    by_cases hlt:t>(l.length:Nat)
    ·have hf:in_ t 1 (l.length:Nat)=false:=in_false.2 (by omega)
     simp only[hlt,if_true,hf,Bool.false_eq_true,if_false]
     by_cases h5:k=5
     ·simp[h5]
     ·by_cases h6:k=6
      ·simp[h6]
      ·by_cases h7:k=7<;>simp[h5,h6,h7]
    ·have hf:in_ t 1 (l.length:Nat)=true:=in_iff.2 (by omega)
     simp only[hlt,hf,if_true,if_false]
     by_cases h5:k=5
     ·simp[h5]
     ·by_cases h6:k=6
      ·simp[h6]
      ·by_cases h7:k=7
       ·by_cases hs:(tAt l t).s=2<;>simp[h7,hs]
       ·simp[h5,h6,h7]
theorem nR{m:List Int}(hL:m.length<=1099511627776):mh [.list (m.map eI)]=some [.list (m.map eI)]:=by
 rw[q_bi]
 cases m with
 | nil=>simp[F_bi,eJ,bQ,cf]
 | cons a l =>
  have:((a::l).map eI).isEmpty=false:=rfl
  simp only[F_bi,this,aF,List.nil_append,rA,dP]
  rw[bQ (by simp[cf]at *;omega)]
  rfl
theorem BA{l:List Trip}(hl:TrS l){k t:Int}{m:List Int}(hL:m.length<=1099511627776) :
  wi [.list (l.map Trip.e),.int .i64 k,.int .i64 t,.list (m.map eI)] =
   some (if dN l && (aD ⟨k,t,m⟩ && cm l ⟨k,t,m⟩) then [.list ((ct l ⟨k,t,m⟩).map Trip.e),.bool true] else [.list [],.bool false]):=by
 rw[q_fc]
 simp (disch:=first|assumption|omega|(simp only[zL];omega)) only[F_fc,mQ,Int.reduceEq,reduceIte,zU,zT,aa]
 rcases Bool.eq_false_or_eq_true (dN l && (aD ⟨k,t,m⟩ && cm l ⟨k,t,m⟩))with h|h
 case inr=>simp[h]
 simp only[h,Bool.not_true,aI,aF,if_true]
 simp only[Bool.and_eq_true]at h
 obtain⟨ho,hr,hm⟩:=h
 have ht:=cy hr
 have hml:=dx hr
 have hT:=tripsOk_iff.1 ho
 have hl6:=hT.len
 simp only at ht hml
 have key:=ak (l:=l) (F:=fun ps=>sD (l.map Trip.e) k t (m.map eI) ((l.length:Nat):Int) ((aa ps 0).toInt) ((aa ps 1).toList)) (enc:=fun i (s:List Trip)=>[.int .i64 i,.list (s.map Trip.e)])
  (res:=fun xs _ s=>.ret [.list ((ct (s++xs) ⟨k,t,m⟩).map Trip.e),.bool true]) (fun i s=>s=l.take i) (s:=[]) (by simp) ?_ ?_
 ·have key:am _ [C.int .i64 0,C.list []]=_:=key
  rw[key];rfl
 ·intro i x xs s hx hs
  have hi:=(List.getElem?_eq_some_iff.1 hx).1
  have hi':(i:Int)<(l.length:Nat):=by omega
  have hxm:=hl.2 x (List.mem_of_getElem? hx)
  have hsl:s.length=i:=by rw[hs];simp;omega
  simp (disch:=first|assumption|omega|(simp only[zL];omega)) only[sD,xH hx,Trip.e,ap,hi',if_true,nR,Int.reduceEq,reduceIte,zU,zT,aa]
  refine .inl ⟨s++[x],?_,?_,by simp⟩
  ·simp[Trip.e]
  ·rw[hs,List.take_succ,hx];rfl
 ·intro s hs
  have hs:s=l:=by rw[hs,List.take_length]
  subst hs
  have h:¬ ((s.length:Int)<(s.length:Nat)):=by omega
  simp only[sD,aa,C.toInt_int,C.toList_list,aK,h,if_false,List.append_nil]
  rcases jE hr hm with ⟨h4,h⟩|⟨h1,h2,h⟩
  ·simp only at h4;subst h4
   have hml':m.length<=1099511627776:=by omega
   simp only[bo,if_true,nR hml',Dv,aa,C.toList_list]
   rw[bQ (by simp[cf];omega)]
   simp[jZ,ct,Trip.e]
  ·simp only at h1 h2 h
   have hx:=rB h1 h2
   have hw:IntKind.wrap .i64 (t-1)=t-1:=wrap64 (by omega) (by omega)
   have hb:(decide ((0:Int)<=t-1) && decide (t-1<((s.map Trip.e).length:Nat)))=true:=lt_B (by omega) (by simp;omega)
   have st:∀ z:Int,setRow 1 (s.map Trip.e) (t-1).toNat [C.int .i64 z]=(s.set (t-1).toNat ⟨(tAt s t).m,z⟩).map Trip.e:=fun z=>bR hx rfl
   simp only[hw,ct,bo,bQ hb,Dz h1 h2,Trip.e,aa,C.toInt_int,st]
   rcases h with ⟨h|h,_⟩|⟨h,hs⟩
   ·subst h;rfl
   ·subst h;rfl
   ·subst h
    rcases hs with hs|hs<;>simp[hs,upD]
theorem qw{rs:List Rec}(hL:rs.length<=2000000)(hm:∀ r∈rs,r.m.length<=1099511627776) :
  pJ [.list (rs.map Rec.e)]=some [.list (((aS rs).getD []).map Trip.e),.bool (aS rs).isSome]:=by
 rw[q_fo];unfold F_fo
 have key:=ak (l:=rs) (F:=fun ps=>oz (rs.map Rec.e) ((aa ps 0).toList) ((aa ps 1).toBool) ((aa ps 2).toInt)) (enc:=fun i (s:Option (List Trip))=>[.list ((s.getD []).map Trip.e),.bool s.isSome,.int .i64 i])
  (res:=fun xs _ s=>match s with
   | some l=>.ret [.list (((bL xs l).getD []).map Trip.e),.bool (bL xs l).isSome]
   | none=>.ret [.list [],.bool false]) (fun _ s=>∀ l,s=some l->TrOk l) (s:=some []) (fun l e=>by simp only[Option.some.injEq]at e;rw[<-e];exact TrOk.nil) ?_ ?_
 ·have key:am _ [C.list [],C.bool true,C.int .i64 0]=_:=key
  rw[key];rfl
 ·intro i x xs s hx hs
  have hi:=(List.getElem?_eq_some_iff.1 hx).1
  have hi':(i:Int)<(rs.length:Nat):=by omega
  have hxm:=hm x (List.mem_of_getElem? hx)
  cases s with
  | none=>exact .inr ⟨_,rfl,rfl⟩
  | some l =>
   have hT:=hs l rfl
   have hS:=hT.S
   simp (disch:=first|assumption|omega|(simp only[zL];omega)) only[oz,Option.isSome_some,Option.getD_some,fF hx,Rec.e,hi',if_true,BA,Int.reduceEq,reduceIte,zU,zT,aa]
   have e1:dN l=true:=tripsOk_iff.2 hT
   simp only[e1,Bool.true_and]
   rcases Bool.eq_false_or_eq_true (aD x && cm l x)with h|h
   ·simp only[h,if_true]
    refine .inl ⟨some (ct l x),?_,fun l' e=>?_,by simp[bL,h]⟩
    ·simp (disch:=first|assumption|omega|(simp only[zL];omega)) only[ap,Option.isSome_some,Option.getD_some,Int.reduceEq,reduceIte,zU,zT,aa]
    ·simp only[Option.some.injEq]at e;rw[<-e]
     simp only[Bool.and_eq_true]at h
     exact mq hT h.1 h.2
   ·simp only[h,Bool.false_eq_true,if_false]
    refine .inl ⟨none,?_,?_,?_⟩
    ·simp (disch:=first|assumption|omega|(simp only[zL];omega)) only[ap,Option.isSome_none,Option.getD_none,Int.reduceEq,reduceIte,zU,zT,aa]
     try simp
    ·intro l' e;cases e
    ·simp[bL,h]
 ·intro s hs
  have h:¬ ((rs.length:Int)<(rs.length:Nat)):=by omega
  cases s with
  | none=>simp[oz,aa]
  | some l=>simp[oz,aa,aK,bL]
end Dx
namespace Dx
open Go
theorem jM{k h t m:Int}:iL [.int .i64 k,.int .i64 h,.int .i64 t,.int .i64 m]=some [.bool (bj ⟨k,h,t,m⟩)]:=by
 rw[q_gh]
 simp (disch:=first|assumption|omega|(simp only[zL];omega)) only[F_gh,j8,cQ,nQ,bj,Int.reduceEq,reduceIte,zU,zT,aa]
 by_cases h1:k=1
 ·simp only[h1,if_true]
  cases in_ h 1 3<;>cases in_ t 1 6<;>cases in_ 1 1 7<;>simp
 ·simp only[h1,if_false]
  cases in_ h 1 3<;>cases in_ t 1 6<;>cases in_ k 1 7<;>simp
theorem gX{k h t m:Int}:gA [.int .i64 k,.int .i64 h,.int .i64 t,.int .i64 m]=some [.bool (decide (k>=4))]:=by
 rw[q_bg];simp (disch:=first|assumption|omega|(simp only[zL];omega)) only[F_bg,Int.reduceEq,reduceIte,zU,zT,aa]
theorem iW{td:List Word}(hL:td.length<=1099511627776){k h t m:Int}:lw [.list (td.map Word.e),.int .i64 k,.int .i64 h,.int .i64 t,.int .i64 m]=some [.bool (td.contains ⟨k,h,t,m⟩)]:=by
 rw[q_ap]
 have hi:wj [.list (td.map Word.e),.int .i64 k,.int .i64 h,.int .i64 t,.int .i64 m]=some [.int .i64 (lZ (fun x=>decide ((⟨k,h,t,m⟩:Word)=x)) 0 td)]:=by
  rw[q_at];unfold F_at
  simp only[List.length_map]
  rw[gp (l:=td) (fun x=>decide ((⟨k,h,t,m⟩:Word)=x))]
  ·rfl
  ·intro i x hx
   have hi:=(List.getElem?_eq_some_iff.1 hx).1
   have hi':(i:Int)<(td.length:Nat):=by omega
   have hw:=uA ⟨k,h,t,m⟩ x
   simp only at hw
   simp (disch:=first|assumption|omega|(simp only[zL];omega)) only[yQ,gH hx,Word.e,ap,hi',if_true,hw,decide_eq_true_eq,Int.reduceEq,reduceIte,zU,zT,aa]
  ·have h:¬ ((td.length:Int)<(td.length:Nat)):=by omega
   simp (disch:=first|assumption|omega|(simp only[zL];omega)) only[yQ,h,if_false,Int.reduceEq,reduceIte,zU,zT,aa]
 simp (disch:=first|assumption|omega|(simp only[zL];omega)) only[F_ap,hi,dQ,Bool.decide_eq_true,Int.reduceEq,reduceIte,zU,zT,aa]
 rw[List.contains_eq_any_beq]
 congr
theorem kU{k t:Int}{m:List Int}(hL:m.length<=1099511627776):pN [.int .i64 k,.int .i64 t,.list (m.map eI)]=some [.int .i64 k,.int .i64 t,.list (m.map eI)]:=by
 rw[q_bm];simp (disch:=first|assumption|omega|(simp only[zL];omega)) only[F_bm,nR,Int.reduceEq,reduceIte,zU,zT,aa]
theorem rD{rs:List Rec}{f many forced:Int}(hl:LgS ⟨rs,f⟩)(h1:0<=many)(h2:many<=rs.length) :
  lx [.list (rs.map Rec.e),.int .i64 f,.int .i64 many,.int .i64 forced]=some [.list ((rs.take many.toNat).map Rec.e),.int .i64 forced]:=by
 rw[q_ch]
 have e1:∀ n:Nat,(rs.map Rec.e).take n=(rs.take n).map Rec.e:=fun n=>by simp
 unfold F_ch
 simp only[e1,List.length_map]
 rw[cZ h1 h2]
 have hm:∀ r∈rs.take many.toNat,r.m.length<=1099511627776:=fun r hr=>hl.2 r (List.mem_of_mem_take hr)
 have hlen:(rs.take many.toNat).length<=2000000:=by simp;have:=hl.1;simp only at this;omega
 generalize rs.take many.toNat=l at hm hlen
 have key:=ak (l:=l) (F:=fun ps=>sK forced (l.map Rec.e) ((l.length:Nat):Int) ((aa ps 0).toInt) ((aa ps 1).toList)) (enc:=fun i (s:List Rec)=>[.int .i64 i,.list (s.map Rec.e)])
  (res:=fun xs _ s=>.ret [.list ((s++xs).map Rec.e),.int .i64 forced]) (fun i s=>s.length=i) (s:=[]) rfl ?_ ?_
 ·have key:am _ [C.int .i64 0,C.list []]=_:=key
  rw[key];rfl
 ·intro i x xs s hx hs
  have hi:=(List.getElem?_eq_some_iff.1 hx).1
  have hi':(i:Int)<(l.length:Nat):=by omega
  have hxm:=hm x (List.mem_of_getElem? hx)
  simp (disch:=first|assumption|omega|(simp only[zL];omega)) only[sK,fF hx,Rec.e,ap,hi',if_true,kU,Int.reduceEq,reduceIte,zU,zT,aa]
  refine .inl ⟨s++[x],?_,by simp[hs],by simp⟩
  simp[Rec.e]
 ·intro s hs
  have h:¬ ((l.length:Int)<(l.length:Nat)):=by omega
  simp (disch:=first|assumption|omega|(simp only[zL];omega)) only[sK,h,if_false,Int.reduceEq,reduceIte,zU,zT,aa]
  simp
theorem gR{rs:List Rec}{f:Int}(hl:LgS ⟨rs,f⟩):ly [.list (rs.map Rec.e),.int .i64 f]=some [.list (rs.map Rec.e),.int .i64 f]:=by
 rw[q_bv]
 have h:=rD hl (many:=((rs.length:Nat):Int)) (forced:=f) (by omega) (by omega)
 simp only[Int.toNat_natCast,List.take_length]at h
 simp (disch:=first|assumption|omega|(simp only[zL];omega)) only[F_bv,h,Int.reduceEq,reduceIte,zU,zT,aa]
theorem uI{m:List Word}(hL:m.length<=1099511627776):pO [.list (m.map Word.e)]=some [.list (m.map Word.e)]:=by
 rw[q_as]
 cases m with
 | nil=>simp[F_as,eJ,bQ,cf]
 | cons a l =>
  have:((a::l).map Word.e).isEmpty=false:=rfl
  simp only[F_as,this,aF,List.nil_append,mD,dP]
  rw[bQ (by simp[cf]at *;omega)]
  rfl
structure DkS (d:Desk):Prop where
 lg:LgS d.lg
 td:d.td.length<=2000000
theorem DkOk.S{d:Desk}(h:DkOk d):DkS d:=⟨h.lg.S,by have:=h.tdlen;omega⟩
theorem LgS.m{rs:List Rec}{f:Int}(h:LgS ⟨rs,f⟩):∀ r∈rs,r.m.length<=1099511627776:=h.2
theorem LgS.l{rs:List Rec}{f:Int}(h:LgS ⟨rs,f⟩):rs.length<=2000000:=h.1
section
variable {up b:Bool} {rs:List Rec} {f:Int} {td:List Word} {k h t m keep:Int} {ms:List Int}
theorem dh(hs:DkS ⟨up,⟨rs,f⟩,td⟩):gC [.bool up,.list (rs.map Rec.e),.int .i64 f,.list (td.map Word.e)]=some (Desk.e ⟨up,⟨rs,f⟩,td⟩):=by
 rw[q_bf]
 have h1:LgS ⟨rs,f⟩:=hs.lg
 have h2:td.length<=1099511627776:=by have:=hs.td;simp only at this;omega
 simp (disch:=first|assumption|omega|(simp only[zL];omega)) only[F_bf,gR,uI,Int.reduceEq,reduceIte,zU,zT,aa]
 rfl
theorem z4(hl:b=true->0<=f/\f<=rs.length):pQ [.list (rs.map Rec.e),.int .i64 f,.bool b]=some [.list ((aO ⟨rs,f⟩ b).map Rec.e)]:=by
 rw[q_cc]
 cases b with
 | false=>simp[F_cc,aO]
 | true =>
  obtain⟨h1,h2⟩:=hl rfl
  simp only[F_cc,aI,List.length_map]
  rw[cZ h1 h2]
  simp[aO]
theorem rE(hs:LgS ⟨rs,f⟩)(hl:b=true->0<=f/\f<=rs.length){tl:List (List C)}:eU [.bool up,.list (rs.map Rec.e),.int .i64 f,.list tl,.bool b]=some [.list ((aC ⟨rs,f⟩ b).map Trip.e)]:=by
 rw[q_bp]
 have h1:(aO ⟨rs,f⟩ b).length<=2000000:=by have:=hs.l;unfold aO;split<;>simp<;>omega
 have h2:∀ r∈aO ⟨rs,f⟩ b,r.m.length<=1099511627776:=fun r hr=>hs.2 r (by unfold aO at hr;split at hr;exact List.mem_of_mem_take hr;exact hr)
 simp (disch:=first|assumption|omega|(simp only[zL];omega)) only[F_bp,z4 hl,qw h1 h2,aC,Int.reduceEq,reduceIte,zU,zT,aa]
theorem jN(hs:LgS ⟨rs,f⟩){tl:List (List C)}:eU [.bool up,.list (rs.map Rec.e),.int .i64 f,.list tl,.bool false]=some [.list ((aC ⟨rs,f⟩ false).map Trip.e)]:=rE hs (fun h=>by cases h)
theorem CJ(hs:LgOk ⟨rs,f⟩){tl:List (List C)}:eU [.bool up,.list (rs.map Rec.e),.int .i64 f,.list tl,.bool true]=some [.list ((aC ⟨rs,f⟩ true).map Trip.e)]:=rE hs.S (fun _=>⟨hs.lo,hs.hi⟩)
theorem dq(hs:DkS ⟨up,⟨rs,f⟩,td⟩):fB [.bool up,.list (rs.map Rec.e),.int .i64 f,.list (td.map Word.e)]=some [.bool (dv ⟨up,⟨rs,f⟩,td⟩)]:=by
 rw[q_gs]
 have h1:LgS ⟨rs,f⟩:=hs.lg
 have h2:td.length<=2000000:=hs.td
 have hj:ah (yR (rs.map Rec.e) (td.map Word.e))=some [.bool (dl ((aS rs).getD []).length [] td && (aS rs).isSome)]:=by
  unfold yR
  have ht:=qw h1.l h1.m
  simp only[ht,Jv,aa,C.toBool_bool,C.toList_list,List.length_map]
  have key:=ak (l:=td) (F:=fun ps=>sG (td.map Word.e) (((aS rs).getD []).map Trip.e) (aS rs).isSome ((td.length:Nat):Int) ((aa ps 0).toInt)) (enc:=fun i (_:Unit)=>[.int .i64 i])
   (res:=fun xs i _=>.ret [.bool (dl ((aS rs).getD []).length (td.take i) xs && (aS rs).isSome)]) (fun _ _=>True) (s:=()) trivial ?_ ?_
  ·have key:am _ [C.int .i64 0]=_:=key
   rw[key];rfl
  ·intro i x xs s hx _
   have hi:=(List.getElem?_eq_some_iff.1 hx).1
   have hi':(i:Int)<(td.length:Nat):=by omega
   have e1:(td.map Word.e).take i=(td.take i).map Word.e:=by simp
   have c1:(0:Int)<=(i:Int):=by omega
   have c2:(i:Int)<=(td.length:Nat):=by omega
   have c3:(td.take i).length<=1099511627776:=by simp;omega
   have e2:td.take (i+1)=td.take i++[x]:=by rw[List.take_succ,hx];rfl
   have e3:∀ n:Nat,decide (x.t>(n:Int))=!decide (x.t<=(n:Int)):=fun n=>by rw[Bool.eq_iff_iff];simp
   simp (disch:=first|assumption|omega|(simp only[zL];omega)) only[sG,gH hx,Word.e,ap,hi',if_true,jM,gX,e1,Int.toNat_natCast,iW,cZ c1 c2,Int.reduceEq,reduceIte,zU,zT,aa]
   simp only[dl,e2]
   cases bj x with
   | false=>exact .inr ⟨_,rfl,by simp⟩
   | true =>
    by_cases h4:x.k>=4
    ·by_cases h5:x.t>((((aS rs).getD []).length:Nat):Int)
     ·have h5':¬ x.t<=((((aS rs).getD []).length:Nat):Int):=by omega
      exact .inr ⟨_,by simp only[h4,h5,if_true,aI,Bool.not_true,aF];rfl,by simp[h5']⟩
     ·have h5':x.t<=((((aS rs).getD []).length:Nat):Int):=by omega
      cases hc:(td.take i).contains x with
      | true =>
       refine .inr ⟨.ret [.bool false],?_,by simp⟩
       simp only[h4,h5,if_true,if_false,aI,Bool.not_true,aF]
       try rw[bQ (by simp;omega)]
      | false =>
       refine .inl ⟨(),?_,trivial,by simp[h4,h5']⟩
       simp only[h4,h5,if_true,if_false,aI,Bool.not_true,aF]
       try rw[bQ (by simp;omega)]
    ·exact .inr ⟨_,by simp only[h4,if_false,aI,Bool.not_true,aF];rfl,by simp[h4]⟩
  ·intro s _
   have h:¬ ((td.length:Int)<(td.length:Nat)):=by omega
   simp (disch:=first|assumption|omega|(simp only[zL];omega)) only[sG,h,if_false,Int.reduceEq,reduceIte,zU,zT,aa]
   rfl
 simp (disch:=first|assumption|omega|(simp only[zL];omega)) only[F_gs,ka,uG,hj,Int.reduceEq,reduceIte,zU,zT,aa]
 unfold dv
 cases fC ⟨rs,f⟩with
 | false=>simp
 | true =>
  simp only[Bool.not_true,aF,Bool.true_and]
  cases up with
  | true =>
   simp only[aI,aZ]
   rw[hj]
   cases aS rs<;>simp
  | false =>
   simp only[aF]
   by_cases hz:((td.length:Nat):Int)>0
   ·have:td.isEmpty=false:=by
     cases td with
     | nil=>simp at hz
     | cons a l=>rfl
    simp only[hz,if_true,uG,aI,aF,aG]
    cases aS rs<;>simp[this]
   ·have:td=[]:=by
     cases td with
     | nil=>rfl
     | cons a l=>simp at hz
    simp only[hz,if_false,aI,aF,aZ]
    rw[hj,this]
    cases aS rs<;>simp
end
end Dx
namespace Dx
open Go
def dz:Desk:=⟨false,⟨[],0⟩,[]⟩
section
variable {up b:Bool} {rs:List Rec} {f:Int} {td:List Word} {k h t m keep:Int} {ms:List Int}
theorem uJ(hl:LgS ⟨rs,f⟩)(hm:ms.length<=1099511627776) :
  pR [.list (rs.map Rec.e),.int .i64 f,.int .i64 k,.int .i64 t,.list (ms.map eI)] =
   some (if fC ⟨rs,f⟩ && aD ⟨k,t,ms⟩ then [.list ((de ⟨rs,f⟩ ⟨k,t,ms⟩).rs.map Rec.e),.int .i64 f,.bool (mn ⟨rs,f⟩)] else [.list [],.int .i64 0,.bool false]):=by
 rw[q_gf]
 simp (disch:=first|assumption|omega|(simp only[zL];omega)) only[F_gf,ka,j9,gR,kU,Int.reduceEq,reduceIte,zU,zT,aa]
 cases hlo:fC ⟨rs,f⟩with
 | false=>simp
 | true =>
  cases aD ⟨k,t,ms⟩with
  | false=>simp
  | true =>
   have hl40:rs.length<=40:=(logOk_iff.1 hlo).len
   simp only[aI,Bool.and_self,if_true]
   by_cases h40:((rs.length:Nat):Int)=40
   ·have h':rs.length>=40:=by omega
    simp[h40,de,mn,h']
   ·have h':¬ rs.length>=40:=by omega
    have hc:rs.length+1<=1099511627776:=by omega
    simp[h40,de,mn,h',hc,Rec.e]
theorem kb(hd:DkOk ⟨up,⟨rs,f⟩,td⟩)(hr:aD ⟨k,t,ms⟩=true) :
  gb [.bool up,.list (rs.map Rec.e),.int .i64 f,.list (td.map Word.e),.int .i64 k,.int .i64 t,.list (ms.map eI)] =
   some (.bool (dO ⟨up,⟨rs,f⟩,td⟩ ⟨k,t,ms⟩)::(aV ⟨up,⟨rs,f⟩,td⟩ ⟨k,t,ms⟩).e):=by
 rw[q_bw]
 have hlg:LgOk ⟨rs,f⟩:=hd.lg
 have hS:=hlg.S
 have hT:TrOk (aC ⟨rs,f⟩ false):=hd.trOk false
 have hTS:=hT.S
 have hml:=dx hr
 have hml':ms.length<=1099511627776:=by simp only at hml;omega
 have hto:dN (aC ⟨rs,f⟩ false)=true:=tripsOk_iff.2 hT
 have hlo:fC ⟨rs,f⟩=true:=logOk_iff.2 hlg
 simp (disch:=first|assumption|omega|(simp only[zL];omega)) only[F_bw,jN,mQ,uJ,hto,hr,hlo,Bool.true_and,Bool.and_self,if_true,aV,dO,aj,Int.reduceEq,reduceIte,zU,zT,aa]
 cases up with
 | false=>simp[Desk.e]
 | true =>
  simp only[aI,Bool.true_and]
  cases cm (aC ⟨rs,f⟩ false) ⟨k,t,ms⟩with
  | false=>simp[Desk.e]
  | true=>simp[Desk.e,zf]
theorem DB(hL:td.length<=1099511627776){r:List (List C)}:pS [.bool up,.list r,.int .i64 f,.list (td.map Word.e),.int .i64 k,.int .i64 h,.int .i64 t]=some [.bool (td.contains ⟨k,h,t,0⟩)]:=by
 rw[q_cd];simp (disch:=first|assumption|omega|(simp only[zL];omega)) only[F_cd,iW,Int.reduceEq,reduceIte,zU,zT,aa]
theorem FX(hL:td.length<=1099511627776)(hm:ms.length<=1000)(hn:∀ n∈ms,0<=n){r:List (List C)} :
  mj [.bool up,.list r,.int .i64 f,.list (td.map Word.e),.int .i64 k,.int .i64 t,.list (ms.map eI)]=some [.bool (aY td t k 1 ms),.bool (aB td t k 1 ms)]:=by
 rw[q_by];unfold F_by
 simp only[List.length_map]
 have key:=ak (l:=ms) (F:=fun ps=>sM up r f (td.map Word.e) k t (ms.map eI) ((ms.length:Nat):Int) ((aa ps 0).toBool) ((aa ps 1).toBool) ((aa ps 2).toInt)) (enc:=fun i (s:Bool×Bool)=>[.bool s.1,.bool s.2,.int .i64 i])
  (res:=fun xs i s=>.ret [.bool (s.1 || aY td t k ((i+1:Nat):Int) xs),.bool (s.2 && aB td t k ((i+1:Nat):Int) xs)]) (fun _ _=>True) (s:=(false,true)) trivial ?_ ?_
 ·have key:am _ [C.bool false,C.bool true,C.int .i64 0]=_:=key
  rw[key];simp
 ·rintro i x xs ⟨a,b⟩ hx _
  have hi:=(List.getElem?_eq_some_iff.1 hx).1
  have hi':(i:Int)<(ms.length:Nat):=by omega
  have hx0:=hn x (List.mem_of_getElem? hx)
  have e1:((i+1:Nat):Int)+1=((i+1+1:Nat):Int):=by omega
  simp (disch:=first|assumption|omega|(simp only[zL];omega)) only[sM,gG hx,eI,ap,hi',if_true,DB,Int.reduceEq,reduceIte,zU,zT,aa]
  by_cases h0:x=0
  ·have h0':¬ x>0:=by omega
   simp only[h0,if_true]
   refine .inl ⟨(a,b),?_,trivial,?_⟩
   ·rfl
   ·simp only[aY,aB,e1];simp
  ·have h0':x>0:=by omega
   simp only[h0,if_false]
   generalize hc:td.contains ⟨k,((i+1:Nat):Int),t,0⟩=c
   refine .inl ⟨(a || c,b && c),?_,trivial,?_⟩
   ·cases a<;>cases b<;>simp
   ·simp only[aY,aB,e1,hc,h0',decide_true,Bool.true_and,Bool.not_true,Bool.false_or]
    cases a<;>cases b<;>cases c<;>simp
 ·rintro⟨a,b⟩ _
  have h:¬ ((ms.length:Int)<(ms.length:Nat)):=by omega
  simp (disch:=first|assumption|omega|(simp only[zL];omega)) only[sM,h,if_false,Int.reduceEq,reduceIte,zU,zT,aa]
  simp[aY,aB]
def DC(d:Desk)(t K:Int):Desk:=if K>0 then aV d ⟨K,t,[]⟩ else d
theorem xM(d:Desk)(t:Int):cV d t=DC d t (lO (tAt (aj d false) t).s (lE d t) d.td t (tAt (aj d false) t).m):=rfl
theorem uK(Φ:Phi)(f:Nat)(args:List Cell)(ks:List CK)(t:Tree)(env:List C):den Φ (.call f args ks t) env=ac (Φ f (aL env args)) ks fun r=>den Φ t (env++r):=by rw[den]
theorem uL(hd:DkOk ⟨up,⟨rs,f⟩,td⟩)(h1:1<=t)(h2:t<=(aC ⟨rs,f⟩ false).length) :
  sN [.bool up,.list (rs.map Rec.e),.int .i64 f,.list (td.map Word.e),.int .i64 t]=some (cV ⟨up,⟨rs,f⟩,td⟩ t).e:=by
 have hlg:LgOk ⟨rs,f⟩:=hd.lg
 have hS:=hlg.S
 have tA:TrOk (aC ⟨rs,f⟩ false):=hd.trOk false
 have tF:TrOk (aC ⟨rs,f⟩ true):=hd.trOk true
 have lA:=tA.len
 have lF:=tF.len
 have hx:=tripOk_iff.1 (tA.ok _ (gn (t:=t) (by omega)))
 have hml:=bw hx.1
 have hml':(tAt (aC ⟨rs,f⟩ false) t).m.length<=1000:=by omega
 have hn:∀ n∈(tAt (aC ⟨rs,f⟩ false) t).m,0<=n:=fun n hn=>(gc hx.1 hn).1
 have htd:td.length<=1099511627776:=by have:=hd.tdlen;simp only at this;omega
 have w5:=kb hd (k:=5) (t:=t) (ms:=[]) (by simp[aD,in_iff];omega)
 have w6:=kb hd (k:=6) (t:=t) (ms:=[]) (by simp[aD,in_iff];omega)
 have w7:=kb hd (k:=7) (t:=t) (ms:=[]) (by simp[aD,in_iff];omega)
 simp only[List.map_nil,Desk.e]at w5 w6 w7
 unfold sN t_bh
 simp (disch:=first|assumption|omega|(simp only[zL];omega)) only[den,Fa,aL,Cell.den,At.den,jN,CJ,FX,qv,Dz,wrap64,Trip.e,Prim.den,List.cons_append,Int.reduceEq,reduceIte,zT,aa]
 rw[xM]
 have hsure:((if in_ t 1 ((aC ⟨rs,f⟩ true).length:Nat)=true then(tAt (aC ⟨rs,f⟩ true) t).s else 0)==(tAt (aC ⟨rs,f⟩ false) t).s)=lE ⟨up,⟨rs,f⟩,td⟩ t:=by
  have hs1:=hx.2.1
  unfold lE aj
  by_cases h:t<=((aC ⟨rs,f⟩ true).length:Nat)
  ·have hi:in_ t 1 ((aC ⟨rs,f⟩ true).length:Nat)=true:=in_iff.2 ⟨h1,h⟩
   simp[hi,h]
  ·have hi:in_ t 1 ((aC ⟨rs,f⟩ true).length:Nat)=false:=in_false.2 (by omega)
   simp[hi,h];omega
 simp only[hsure]
 dsimp only[aj]
 have hs:=hx.2
 generalize lE ⟨up,⟨rs,f⟩,td⟩ t=b
 generalize (tAt (aC ⟨rs,f⟩ false) t).s=s at hs ⊢
 generalize (tAt (aC ⟨rs,f⟩ false) t).m=m
 unfold lO
 generalize aY td t 5 1 m=a5
 generalize aB td t 4 1 m=a4
 generalize aB td t 6 1 m=a6
 generalize aB td t 7 1 m=a7
 rcases (by omega:s=1\/s=2\/s=3\/s=4\/s=5)with e|e|e|e|e<;>subst e
 ·cases a5<;>cases a4<;>simp[kh,CK.of,aa,w5,w6,w7,bo,jH,DC,Desk.e]
 ·cases b<;>cases a6<;>simp[kh,CK.of,aa,w5,w6,w7,bo,jH,DC,Desk.e]
 ·cases b<;>cases a7<;>simp[kh,CK.of,aa,w5,w6,w7,bo,jH,DC,Desk.e]
 ·simp[kh,CK.of,aa,bo,DC,Desk.e]
 ·simp[kh,CK.of,aa,bo,DC,Desk.e]
end
end Dx
namespace Dx
open Go
section
variable {up b:Bool} {rs:List Rec} {f:Int} {td:List Word} {k h t m keep:Int} {ms:List Int} {id room:Int}
theorem DD(hd:DkOk ⟨up,⟨rs,f⟩,td⟩) :
  lz [.bool up,.list (rs.map Rec.e),.int .i64 f,.list (td.map Word.e),.int .i64 k,.int .i64 h,.int .i64 t,.int .i64 m]=some (db ⟨up,⟨rs,f⟩,td⟩ ⟨k,h,t,m⟩).e:=by
 rw[q_cx]
 have hlg:LgOk ⟨rs,f⟩:=hd.lg
 have hS:=hlg.S
 have htd:td.length<=72:=hd.tdlen
 unfold db
 simp (disch:=first|assumption|omega|(simp only[zL];omega)) only[F_cx,jM,gX,jN,iW,Int.reduceEq,reduceIte,zU,zT,aa]
 have nh:cC ⟨up,⟨rs,f⟩,td⟩ ⟨k,h,t,m⟩=false->(if cC ⟨up,⟨rs,f⟩,td⟩ ⟨k,h,t,m⟩=true then cV (bI ⟨up,⟨rs,f⟩,td⟩ ⟨k,h,t,m⟩) t else⟨up,⟨rs,f⟩,td⟩)=⟨up,⟨rs,f⟩,td⟩:=fun e=>by rw[e];rfl
 cases up with
 | false=>rw[nh rfl];rfl
 | true =>
  cases hw:bj ⟨k,h,t,m⟩with
  | false=>rw[nh (by simp[cC,hw])];rfl
  | true =>
   have wt:=(wordOk_iff.1 hw).t
   simp only at wt
   simp only[aI,ky]
   by_cases h4:k>=4
   ·by_cases ht:t>((aC ⟨rs,f⟩ false).length:Nat)
    ·rw[nh (by rw[fJ,hw];simp only[Bool.true_and];rw[Bool.and_eq_false_iff];right;exact decide_eq_false (by omega))]
     simp only[h4,ht,if_true,if_false];rfl
    ·have c1:cC ⟨true,⟨rs,f⟩,td⟩ ⟨k,h,t,m⟩=true:=by rw[fJ,hw];simp only[Bool.true_and];rw[Bool.and_eq_true];exact⟨decide_eq_true (by omega),decide_eq_true (by omega)⟩
     rw[if_pos c1]
     simp only[h4,ht,if_false,if_true,bI]
     cases hc:td.contains ⟨k,h,t,m⟩with
     | true =>
      simp (disch:=first|assumption|omega|(simp only[zL];omega)) only[uL,Desk.e,aI,aF,aG,rz,aa,C.toInt_int,C.toBool_bool,C.toList_list,if_true]
     | false =>
      have hd2:DkOk ⟨true,⟨rs,f⟩,td++[⟨k,h,t,m⟩]⟩:=by
       have:=hd.tell (w:=⟨k,h,t,m⟩) c1
       unfold bI at this
       rw[if_neg (by rw[hc];simp)]at this
       exact this
      have e1:(td.map Word.e)++[[C.int .i64 k,C.int .i64 h,C.int .i64 t,C.int .i64 m]]=(td++[(⟨k,h,t,m⟩:Word)]).map Word.e:=by simp[Word.e]
      have hd3:=uL hd2 wt.1 (show t<=((aC ⟨rs,f⟩ false).length:Nat) by omega)
      simp only[aF,aI,e1,hd3]
      simp (disch:=first|assumption|omega|(simp only[zL];omega)) only[Desk.e,Bool.false_eq_true,if_false,Int.reduceEq,reduceIte,zU,zT,aa]
   ·rw[nh (by rw[fJ,hw];simp[h4])]
    simp only[h4,if_false];rfl
theorem qx(hl:LgOk ⟨rs,f⟩):pX [.list (rs.map Rec.e),.int .i64 f,.int .i64 keep]=some (fD ⟨rs,f⟩ keep).e:=by
 rw[q_fv]
 have hS:=hl.S
 have h1:=hl.lo
 have h2:=hl.hi
 have h3:=hl.len
 have hk:=hl.keep keep
 simp only at h1 h2 h3 hk
 have hlo:=logOk_iff.2 hl
 have e1:f+(if(0:Int)>(if((rs.length:Nat):Int)-f<keep then((rs.length:Nat):Int)-f else keep) then 0 else(if((rs.length:Nat):Int)-f<keep then((rs.length:Nat):Int)-f else keep))=eE ⟨rs,f⟩ keep:=by
  unfold eE
  simp only[Int.min_def]
  split<;>split<;>split<;>(try split)<;>omega
 have w1:IntKind.wrap .i64 (((rs.length:Nat):Int)-f)=((rs.length:Nat):Int)-f:=wrap64 (by omega) (by omega)
 simp (disch:=first|assumption|omega|(simp only[zL];omega)) only[F_fv,ka,hlo,Int.reduceEq,reduceIte,zU,zT,aa]
 rw[w1,wrap64 (by rw[e1];omega) (by rw[e1];omega),e1,rD hS (by omega) (by omega)]
 simp only[Jw,aa,C.toInt_int,C.toList_list,aG]
 rfl
theorem xN(hd:DkOk ⟨up,⟨rs,f⟩,td⟩) :
  wI [.bool up,.list (rs.map Rec.e),.int .i64 f,.list (td.map Word.e),.int .i64 keep]=some (dfall ⟨up,⟨rs,f⟩,td⟩ keep).e:=by
 rw[q_da]
 have hS:=hd.S
 have ho:=deskOk_iff.2 hd
 have hlg:LgOk ⟨rs,f⟩:=hd.lg
 simp (disch:=first|assumption|omega|(simp only[zL];omega)) only[F_da,dq,ho,qx hlg,Log.e,Int.reduceEq,reduceIte,zU,zT,aa]
 rfl
theorem mS(hl:LgOk ⟨rs,f⟩):pV [.list (rs.map Rec.e),.int .i64 f]=some (fk ⟨rs,f⟩).e:=by
 rw[q_dv]
 have hS:=hl.S
 have hlo:=logOk_iff.2 hl
 have hf:=rD hS (many:=((rs.length:Nat):Int)) (forced:=((rs.length:Nat):Int)) (by omega) (by omega)
 simp only[Int.toNat_natCast,List.take_length]at hf
 simp (disch:=first|assumption|omega|(simp only[zL];omega)) only[F_dv,ka,hlo,hf,Int.reduceEq,reduceIte,zU,zT,aa]
 rfl
theorem t8(hd:DkOk ⟨up,⟨rs,f⟩,td⟩):wG [.bool up,.list (rs.map Rec.e),.int .i64 f,.list (td.map Word.e)]=some (bd ⟨up,⟨rs,f⟩,td⟩).e:=by
 rw[q_ck]
 have hS:=hd.S
 have ho:=deskOk_iff.2 hd
 have hlg:LgOk ⟨rs,f⟩:=hd.lg
 simp (disch:=first|assumption|omega|(simp only[zL];omega)) only[F_ck,dq,ho,dh,mS hlg,Log.e,Desk.e,Int.reduceEq,reduceIte,zU,zT,aa]
 cases up<;>rfl
theorem xO(hd:DkOk ⟨up,⟨rs,f⟩,td⟩):wN [.bool up,.list (rs.map Rec.e),.int .i64 f,.list (td.map Word.e)]=some (dL ⟨up,⟨rs,f⟩,td⟩).e:=by
 rw[q_dm]
 have hS:=hd.S
 have ho:=deskOk_iff.2 hd
 simp (disch:=first|assumption|omega|(simp only[zL];omega)) only[F_dm,dq,ho,dh,Desk.e,Int.reduceEq,reduceIte,zU,zT,aa]
 rfl
theorem t9(hs:DkS ⟨up,⟨rs,f⟩,td⟩)(hm:ms.length<=1099511627776) :
  wC [.bool up,.list (rs.map Rec.e),.int .i64 f,.list (td.map Word.e),.list (ms.map eI)] =
   some (if dv ⟨up,⟨rs,f⟩,td⟩ && aD (eG ⟨up,⟨rs,f⟩,td⟩ ms) then(aV ⟨up,⟨rs,f⟩,td⟩ (eG ⟨up,⟨rs,f⟩,td⟩ ms)).e++[.bool (dO ⟨up,⟨rs,f⟩,td⟩ (eG ⟨up,⟨rs,f⟩,td⟩ ms))] else dz.e++[.bool false]):=by
 rw[q_cv]
 cases ho:dv ⟨up,⟨rs,f⟩,td⟩with
 | false=>simp (disch:=first|assumption|omega|(simp only[zL];omega)) only[F_cv,dq,ho,Int.reduceEq,reduceIte,zU,zT,aa];simp[Desk.e,dz]
 | true =>
  have hd:=deskOk_iff.1 ho
  have hlg:LgOk ⟨rs,f⟩:=hd.lg
  have hS:=hlg.S
  have hT:TrOk (aC ⟨rs,f⟩ false):=hd.trOk false
  have hl:=hT.len
  have eR:eG ⟨up,⟨rs,f⟩,td⟩ ms=⟨4,((aC ⟨rs,f⟩ false).length:Nat)+1,ms⟩:=rfl
  rw[eR]
  simp (disch:=first|assumption|omega|(simp only[zL];omega)) only[F_cv,dq,ho,dh,Desk.e,jN,wrap64,j9,Bool.true_and,Int.reduceEq,reduceIte,zU,zT,aa]
  rcases Bool.eq_false_or_eq_true (aD ⟨4,((aC ⟨rs,f⟩ false).length:Nat)+1,ms⟩)with hr|hr
  ·simp (disch:=first|assumption|omega|(simp only[zL];omega)) only[hr,kb,Desk.e,if_true,Int.reduceEq,reduceIte,zU,zT,aa]
   simp
  ·simp[hr,dz]
theorem xP(hs:DkS ⟨up,⟨rs,f⟩,td⟩) :
  wD [.bool up,.list (rs.map Rec.e),.int .i64 f,.list (td.map Word.e),.int .i64 t] =
   some (if dv ⟨up,⟨rs,f⟩,td⟩ && in_ t 1 6 then(aV ⟨up,⟨rs,f⟩,td⟩ ⟨6,t,[]⟩).e++[.bool (dO ⟨up,⟨rs,f⟩,td⟩ ⟨6,t,[]⟩)] else dz.e++[.bool false]):=by
 rw[q_dp]
 cases ho:dv ⟨up,⟨rs,f⟩,td⟩with
 | false=>simp (disch:=first|assumption|omega|(simp only[zL];omega)) only[F_dp,dq,ho,Int.reduceEq,reduceIte,zU,zT,aa];simp[Desk.e,dz]
 | true =>
  have hd:=deskOk_iff.1 ho
  simp (disch:=first|assumption|omega|(simp only[zL];omega)) only[F_dp,dq,ho,nQ,dh,Desk.e,Bool.true_and,Int.reduceEq,reduceIte,zU,zT,aa]
  cases ht:in_ t 1 6 with
  | false=>simp[dz]
  | true =>
   have hw:=kb hd (k:=6) (t:=t) (ms:=[]) (by simp[aD,in_iff,in_iff.1 ht])
   simp only[List.map_nil,Desk.e]at hw
   simp (disch:=first|assumption|omega|(simp only[zL];omega)) only[hw,Int.reduceEq,reduceIte,zU,zT,aa]
   simp
theorem Kh(s:Int):wn [.int .i64 m,.int .i64 s]=some [.bool (bf ⟨m,s⟩)]:=by
 rw[q_fw]
 simp (disch:=first|assumption|omega|(simp only[zL];omega)) only[F_fw,j8,bf,Int.reduceEq,reduceIte,zU,zT,aa]
 by_cases h0:s=0
 ·simp[h0]
 ·by_cases h1:s=1
  ·simp[h1]
  ·by_cases h2:s=2
   ·simp[h2]
   ·by_cases h3:s=3
    ·simp[h3]
    ·simp[h0,h1,h2,h3]
theorem DE{hs:List Hold}(hr:0<=room/\room<=9)(ho:∀ h∈hs,bf h=true)(hl:hs.length<=100) :
  pK [.int .i64 room,.list (hs.map Hold.e)]=some [.int .i64 (free ⟨room,hs⟩)]:=by
 rw[q_bs];unfold F_bs
 simp only[List.length_map]
 have key:=ak (l:=hs) (F:=fun ps=>sJ (hs.map Hold.e) ((hs.length:Nat):Int) ((aa ps 0).toInt) ((aa ps 1).toInt)) (enc:=fun i (s:Int)=>[.int .i64 s,.int .i64 i])
  (res:=fun xs _ s=>.ret [.int .i64 (s-(xs.map had).sum)]) (fun i s=>room-3*i<=s/\s<=room) (s:=room) (by simp) ?_ ?_
 ·have key:am _ [C.int .i64 room,C.int .i64 0]=_:=key
  rw[key];rfl
 ·intro i x xs s hx ⟨h1,h2⟩
  have hi:=(List.getElem?_eq_some_iff.1 hx).1
  have hi':(i:Int)<(hs.length:Nat):=by omega
  have hm:=uD (ho x (List.mem_of_getElem? hx))
  simp (disch:=first|assumption|omega|(simp only[zL];omega)) only[sJ,Fc hx,Hold.e,ap,hi',if_true,wrap64,Int.reduceEq,reduceIte,zU,zT,aa]
  refine .inl ⟨s-had x,?_,by omega,by simp[Int.sub_sub]⟩
  unfold had
  by_cases e1:x.s=1
  ·simp[e1]
  ·by_cases e2:x.s=2<;>simp[e1,e2]
 ·intro s _
  have h:¬ ((hs.length:Int)<(hs.length:Nat)):=by omega
  simp (disch:=first|assumption|omega|(simp only[zL];omega)) only[sJ,h,if_false,Int.reduceEq,reduceIte,zU,zT,aa]
  simp
theorem BB{hs:List Hold}(ho:StOk ⟨room,hs⟩):wv [.int .i64 room,.list (hs.map Hold.e)]=some [.bool true]:=by
 rw[q_fu]
 have hl:hs.length=6:=ho.len
 have hc:wu [.list (hs.map Hold.e)]=some [.bool (hs.any fun x=>!bf x)]:=by
  have hi:wq [.list (hs.map Hold.e)]=some [.int .i64 (lZ (fun x=>!bf x) 0 hs)]:=by
   rw[q_ag];unfold F_ag
   simp only[List.length_map]
   rw[gp (l:=hs) (fun x=>!bf x)]
   ·rfl
   ·intro i x hx
    have hi:=(List.getElem?_eq_some_iff.1 hx).1
    have hi':(i:Int)<(hs.length:Nat):=by omega
    have h1:wo [.int .i64 x.m,.int .i64 x.s]=some [.bool (!bf x)]:=by rw[q_cw];simp (disch:=first|assumption|omega|(simp only[zL];omega)) only[F_cw,Kh,Int.reduceEq,reduceIte,zU,zT,aa]
    simp (disch:=first|assumption|omega|(simp only[zL];omega)) only[yS,Fc hx,Hold.e,ap,hi',if_true,h1,Int.reduceEq,reduceIte,zU,zT,aa]
    cases bf x<;>rfl
   ·have h:¬ ((hs.length:Int)<(hs.length:Nat)):=by omega
    simp (disch:=first|assumption|omega|(simp only[zL];omega)) only[yS,h,if_false,Int.reduceEq,reduceIte,zU,zT,aa]
  rw[q_ae];simp (disch:=first|assumption|omega|(simp only[zL];omega)) only[F_ae,hi,dQ,Bool.decide_eq_true,Int.reduceEq,reduceIte,zU,zT,aa]
 have e1:hs.any (fun x=>!bf x)=false:=by rw[List.any_eq_false];intro x hx;simp[ho.hold x hx]
 have e2:in_ room 0 9=true:=in_iff.2 ho.room
 have e3:((hs.length:Nat):Int)=6:=by omega
 have e4:free ⟨room,hs⟩>=0:=ho.free
 simp (disch:=first|assumption|omega|(simp only[zL];omega)) only[F_fu,j8,e2,e3,hc,e1,DE ho.room ho.hold (show hs.length<=100 by omega),e4,decide_true,if_true,Int.reduceEq,reduceIte,zU,zT,aa]
theorem xQ:wl [.int .i64 room]=some ((if in_ room 0 9 then bU room else⟨0,[]⟩).e++[.bool (in_ room 0 9)]):=by
 rw[q_dc]
 simp (disch:=first|assumption|omega|(simp only[zL];omega)) only[F_dc,j8,Int.reduceEq,reduceIte,zU,zT,aa]
 cases in_ room 0 9<;>rfl
theorem mT{hs:List Hold}(ho:StOk ⟨room,hs⟩)(hL:ms.length<=1099511627776) :
  pL [.int .i64 room,.list (hs.map Hold.e),.int .i64 k,.int .i64 t,.list (ms.map eI)]=some [.bool (aD ⟨k,t,ms⟩ && may ⟨room,hs⟩ ⟨k,t,ms⟩)]:=by
 rw[q_dz]
 have hl:hs.length=6:=ho.len
 simp (disch:=first|assumption|omega|(simp only[zL];omega)) only[F_dz,BB ho,j9,Int.reduceEq,reduceIte,zU,zT,aa]
 cases hr:aD ⟨k,t,ms⟩with
 | false=>rfl
 | true =>
  have ht:=cy hr
  simp only at ht
  simp (disch:=first|assumption|omega|(simp only[zL];omega)) only[wrap64,FS,Hold.e,may,dY,DE ho.room ho.hold (show hs.length<=100 by omega),Bool.true_and,Int.reduceEq,reduceIte,zU,zT,aa]
  by_cases h1:k=1
  ·obtain⟨n,e,_⟩:=dw hr h1
   simp only at e;subst e
   simp only[h1,if_true,FU,eI,Int.reduceEq,reduceIte,zU,zT,aa]
   by_cases h0:(hAt hs t).s=0<;>simp[h0,aG]
  ·by_cases h2:k=2
   ·simp[h2,aG]
   ·by_cases h3:k=3
    ·by_cases h0:(hAt hs t).s=1<;>simp[h3,h0,aG]
    ·simp[h1,h2,h3,aG]
theorem FY(m:List Hold):(m.map Hold.e).all (ai [.int .i64,.int .i64])=true:=by simp[List.all_map,Hold.e,ai,fb,dX,Function.comp_def]
theorem CL{hs:List Hold}(hL:hs.length<=1099511627776):ww [.list (hs.map Hold.e)]=some [.list (hs.map Hold.e)]:=by
 rw[q_au]
 cases hs with
 | nil=>simp[F_au,eJ,bQ,cf]
 | cons a l =>
  have:((a::l).map Hold.e).isEmpty=false:=rfl
  simp only[F_au,this,aF,List.nil_append,FY,dP]
  rw[bQ (by simp[cf]at *;omega)]
  rfl
theorem BC{hs:List Hold}(ho:StOk ⟨room,hs⟩)(hL:ms.length<=1099511627776) :
  wy [.int .i64 room,.list (hs.map Hold.e),.int .i64 k,.int .i64 t,.list (ms.map eI)] =
   some (if aD ⟨k,t,ms⟩ && may ⟨room,hs⟩ ⟨k,t,ms⟩ then(act ⟨room,hs⟩ ⟨k,t,ms⟩).e++[.bool true] else [.int .i64 0,.list [],.bool false]):=by
 rw[q_fa]
 have hl:hs.length=6:=ho.len
 have hl':hs.length<=1099511627776:=by omega
 simp (disch:=first|assumption|omega|(simp only[zL];omega)) only[F_fa,mT ho hL,CL hl',Int.reduceEq,reduceIte,zU,zT,aa]
 cases hr:aD ⟨k,t,ms⟩with
 | false=>simp
 | true =>
  cases hm:may ⟨room,hs⟩ ⟨k,t,ms⟩with
  | false=>simp
  | true =>
   have ht:=cy hr
   simp only at ht
   have hx:=rC (l:=hs) ht.1 (by omega)
   have st:∀ a b:Int,setRow 0 (hs.map Hold.e) (t-1).toNat [C.int .i64 a,C.int .i64 b]=(hs.set (t-1).toNat ⟨a,b⟩).map Hold.e:=fun a b=>bR hx rfl
   have st1:∀ a:Int,setRow 1 (hs.map Hold.e) (t-1).toNat [C.int .i64 a]=(hs.set (t-1).toNat ⟨(hAt hs t).m,a⟩).map Hold.e:=fun a=>bR hx rfl
   simp (disch:=first|assumption|omega|(simp only[zL];omega)) only[Ds,wrap64,act,gV,st,st1,Bool.and_self,if_true,Int.reduceEq,reduceIte,zU,zT,aa]
   by_cases h1:k=1
   ·obtain⟨n,e,_⟩:=dw hr h1
    simp only at e;subst e
    simp only[h1,if_true,FU,eI,Int.reduceEq,reduceIte,zU,zT,aa]
    simp[Stock.e,st]
   ·by_cases h2:k=2
    ·simp[h2,Stock.e]
    ·by_cases h3:k=3
     ·simp[h3,Stock.e]
     ·exfalso;simp[may,h1,h2,h3]at hm
theorem qy(hL:rs.length<=2000000)(hm:∀ r∈rs,r.m.length<=1099511627776) :
  pM [.int .i64 room,.list (rs.map Rec.e)]=some (((bP room rs).getD ⟨0,[]⟩).e++[.bool (bP room rs).isSome]):=by
 rw[q_el]
 simp (disch:=first|assumption|omega|(simp only[zL];omega)) only[F_el,xQ,Stock.e,List.cons_append,Int.reduceEq,reduceIte,zU,zT,aa]
 have key:=ak (l:=rs) (F:=fun ps=>oA (rs.map Rec.e) ((aa ps 0).toBool) ((aa ps 1).toInt) ((aa ps 2).toInt) ((aa ps 3).toList)) (enc:=fun i (s:Option Stock)=>[.bool s.isSome,.int .i64 i,.int .i64 (s.getD ⟨0,[]⟩).room,.list ((s.getD ⟨0,[]⟩).hs.map Hold.e)])
  (res:=fun xs _ s=>match s with
   | some l=>.ret (((bD xs l).getD ⟨0,[]⟩).e++[.bool (bD xs l).isSome])
   | none=>.ret ((⟨0,[]⟩:Stock).e++[.bool false])) (fun _ s=>∀ l,s=some l->StOk l) (s:=if in_ room 0 9 then some (bU room) else none)
   (fun l e=>by
    cases hr:in_ room 0 9 with
    | false=>simp[hr]at e
    | true=>simp only[hr,if_true,Option.some.injEq]at e;rw[<-e];exact eW (in_iff.1 hr)) ?_ ?_
 ·cases hr:in_ room 0 9 with
  | false =>
   simp only[hr,Bool.false_eq_true,if_false]at key
   have key:am _ [C.bool false,C.int .i64 0,C.int .i64 0,C.list []]=_:=key
   simp only[Bool.false_eq_true,if_false,List.map_nil]
   rw[key];simp[bP,hr,Stock.e]
  | true =>
   simp only[hr,if_true]at key
   have key:am _ [C.bool true,C.int .i64 0,C.int .i64 (bU room).room,C.list ((bU room).hs.map Hold.e)]=_:=key
   simp only[if_true]
   rw[key];simp[bP,hr,Stock.e]
 ·intro i x xs s hx hs
  have hi:=(List.getElem?_eq_some_iff.1 hx).1
  have hi':(i:Int)<(rs.length:Nat):=by omega
  have hxm:=hm x (List.mem_of_getElem? hx)
  cases s with
  | none=>exact .inr ⟨_,rfl,rfl⟩
  | some l =>
   have hT:=hs l rfl
   have hT':StOk ⟨l.room,l.hs⟩:=hT
   simp (disch:=first|assumption|omega|(simp only[zL];omega)) only[oA,Option.isSome_some,Option.getD_some,fF hx,Rec.e,hi',if_true,BC hT' hxm,Int.reduceEq,reduceIte,zU,zT,aa]
   rcases Bool.eq_false_or_eq_true (aD x && may l x)with h|h
   ·simp only[h,if_true]
    refine .inl ⟨some (act l x),?_,fun l' e=>?_,by simp[bD,h]⟩
    ·simp (disch:=first|assumption|omega|(simp only[zL];omega)) only[ap,Option.isSome_some,Option.getD_some,Stock.e,List.cons_append,Int.reduceEq,reduceIte,zU,zT,aa]
    ·simp only[Option.some.injEq]at e;rw[<-e]
     simp only[Bool.and_eq_true]at h
     exact oJ hT h.1 h.2
   ·simp only[h,Bool.false_eq_true,if_false]
    refine .inl ⟨none,?_,?_,?_⟩
    ·simp (disch:=first|assumption|omega|(simp only[zL];omega)) only[ap,Option.isSome_none,Option.getD_none,Int.reduceEq,reduceIte,zU,zT,aa]
     try simp
    ·intro l' e;cases e
    ·simp[bD,h]
 ·intro s hs
  have h:¬ ((rs.length:Int)<(rs.length:Nat)):=by omega
  cases s with
  | none=>simp[oA,aa,Stock.e]
  | some l=>simp[oA,aa,aK,bD,Stock.e]
end
end Dx
namespace Dx
open Go
def hz:House:=⟨0,false,0,⟨[],0⟩⟩
section
variable {up b:Bool} {rs:List Rec} {f:Int} {td:List Word} {k h t m keep:Int} {ms:List Int} {id room:Int} {hs:List House} {ns:List Word}
theorem ej(hl:LgS ⟨rs,f⟩):gB [.int .i64 id,.bool up,.int .i64 room,.list (rs.map Rec.e),.int .i64 f]=some [.bool (cE ⟨id,up,room,⟨rs,f⟩⟩)]:=by
 rw[q_eh]
 simp (disch:=first|assumption|omega|(simp only[zL];omega)) only[F_eh,cQ,ka,qy hl.l hl.m,Stock.e,List.cons_append,cE,Int.reduceEq,reduceIte,zU,zT,aa]
 cases in_ id 1 3<;>cases fC ⟨rs,f⟩<;>simp
theorem dA(hl:LgS ⟨rs,f⟩):iM [.int .i64 id,.bool up,.int .i64 room,.list (rs.map Rec.e),.int .i64 f]=some (House.e ⟨id,up,room,⟨rs,f⟩⟩):=by
 rw[q_bc]
 simp (disch:=first|assumption|omega|(simp only[zL];omega)) only[F_bc,gR,Int.reduceEq,reduceIte,zU,zT,aa]
 rfl
theorem z5(hl:LgOk ⟨rs,f⟩):ml [.int .i64 id,.bool up,.int .i64 room,.list (rs.map Rec.e),.int .i64 f,.bool b]=some (aq ⟨id,up,room,⟨rs,f⟩⟩ b).e:=by
 rw[q_be]
 have hs:=hl.S
 have h1:(aO ⟨rs,f⟩ b).length<=2000000:=by have:=hs.l;unfold aO;split<;>simp<;>omega
 have h2:∀ r∈aO ⟨rs,f⟩ b,r.m.length<=1099511627776:=fun r hr=>hs.2 r (by unfold aO at hr;split at hr;exact List.mem_of_mem_take hr;exact hr)
 simp (disch:=first|assumption|omega|(simp only[zL];omega)) only[F_be,z4 (fun _=>⟨hl.lo,hl.hi⟩),qy h1 h2,Stock.e,List.cons_append,aq,Int.reduceEq,reduceIte,zU,zT,aa]
def Jx(w:Word)(all forced:Int):Int:=if w.k=1/\all=0 then 5 else(oW (answer 0 w forced)).k
theorem xR(ho:HsOk ⟨id,up,room,⟨rs,f⟩⟩)(ht:1<=t/\t<=6) :
  wE [.int .i64 id,.bool up,.int .i64 room,.list (rs.map Rec.e),.int .i64 f,.int .i64 k,.int .i64 h,.int .i64 t,.int .i64 m] =
   some [.int .i64 (Jx ⟨k,h,t,m⟩ (dY (aq ⟨id,up,room,⟨rs,f⟩⟩ false) t) (dY (aq ⟨id,up,room,⟨rs,f⟩⟩ true) t))]:=by
 rw[q_ay]
 have hlg:LgOk ⟨rs,f⟩:=ho.lg
 have lA:=(ho.stOk false).len
 have lF:=(ho.stOk true).len
 have j0:∀(st:Int) (c:Bool),ah (yV k st c)=some [.int .i64 (if c then 4 else if k=1/\st=3 then 5 else if k=2/\st=2 then 6 else if k=3/\st=3 then 7 else 0)]:=by
  intro st c
  unfold yV
  cases c with
  | true=>rfl
  | false =>
   simp only[aF,bo,Bool.false_eq_true,if_false]
   by_cases h1:k=1
   ·by_cases h3:st=3<;>simp[h1,h3]
   ·by_cases h2:k=2
    ·by_cases h3:st=2<;>simp[h2,h3]
    ·by_cases h3:k=3
     ·by_cases h4:st=3<;>simp[h3,h4]
     ·simp[h1,h2,h3]
 have j1:∀(st:Int) (c:Bool),ah (yW k st c)=some [.int .i64 (if c then 5 else if k=1/\(st=1\/st=2) then 4 else if k=1/\st=3 then 5 else if k=2/\st=2 then 6 else if k=3/\st=3 then 7 else 0)]:=by
  intro st c
  unfold yW
  cases c with
  | true=>rfl
  | false =>
   simp only[aF,bo,Bool.false_eq_true,if_false]
   by_cases h1:k=1
   ·by_cases h3:st=1
    ·simp[h1,h3,aa];rw[<-h1,j0];simp
    ·simp[h1,h3,aa];rw[<-h1,j0];simp[h1]
   ·simp only[h1,if_false,aZ,aa,C.toBool_bool];rw[j0];simp[h1]
 simp (disch:=first|assumption|omega|(simp only[zL];omega)) only[F_ay,z5 hlg,Stock.e,FS,wrap64,Hold.e,dY,Int.reduceEq,reduceIte,zT,aa]
 simp only[bo]
 by_cases h1:k=1
 ·simp only[h1,if_true,aZ,aa,C.toBool_bool]
  rw[<-h1,j1]
  unfold Jx answer oW
  by_cases h0:(hAt (aq ⟨id,up,room,⟨rs,f⟩⟩ false).hs t).s=0
  ·simp[h1,h0]
  ·generalize (hAt (aq ⟨id,up,room,⟨rs,f⟩⟩ true).hs t).s=st
   by_cases s1:st=1
   ·simp[h1,h0,s1]
   ·by_cases s2:st=2
    ·simp[h1,h0,s2]
    ·by_cases s3:st=3<;>simp[h1,h0,s1,s2,s3]
 ·simp only[h1,if_false,aZ,aa,C.toBool_bool]
  rw[j1]
  unfold Jx answer oW
  generalize (hAt (aq ⟨id,up,room,⟨rs,f⟩⟩ true).hs t).s=st
  by_cases h2:k=2
  ·by_cases s2:st=2<;>simp[h2,s2]
  ·by_cases h3:k=3
   ·by_cases s3:st=3<;>simp[h3,s3]
   ·simp[h1,h2,h3]
theorem DF{id:Int}{w:Word}{st:Int}:(oW (answer 0 w st)).k=0↔answer id w st=none:=by
 unfold answer oW
 split
 ·simp
 ·split
  ·simp
  ·split
   ·simp
   ·split<;>simp
theorem Ki{id:Int}{w x:Word}{st:Int}(h:answer id w st=some x):x=⟨(oW (answer 0 w st)).k,id,w.t,0⟩:=by
 unfold answer oW at *
 split at h
 ·rename_i c;simp only[Option.some.injEq]at h;subst h;simp[c]
 ·rename_i c1
  split at h
  ·rename_i c;simp only[Option.some.injEq]at h;subst h;simp[c]
  ·rename_i c2
   split at h
   ·rename_i c;simp only[Option.some.injEq]at h;subst h;simp[c]
   ·rename_i c3
    split at h
    ·rename_i c;simp only[Option.some.injEq]at h;subst h;simp[c]
    ·cases h
theorem ub(ho:HsOk ⟨id,up,room,⟨rs,f⟩⟩) :
  pU [.int .i64 id,.bool up,.int .i64 room,.list (rs.map Rec.e),.int .i64 f,.int .i64 k,.int .i64 h,.int .i64 t,.int .i64 m] =
   some ((b8 ⟨id,up,room,⟨rs,f⟩⟩ ⟨k,h,t,m⟩).1.e++((oW (b8 ⟨id,up,room,⟨rs,f⟩⟩ ⟨k,h,t,m⟩).2).e++[.bool (b8 ⟨id,up,room,⟨rs,f⟩⟩ ⟨k,h,t,m⟩).2.isSome])):=by
 rw[q_ct]
 have hlg:LgOk ⟨rs,f⟩:=ho.lg
 have hS:=hlg.S
 have hok:cE ⟨id,up,room,⟨rs,f⟩⟩=true:=houseOk_iff.2 ho
 have hlo:fC ⟨rs,f⟩=true:=logOk_iff.2 hlg
 simp (disch:=first|assumption|omega|(simp only[zL];omega)) only[F_ct,ej,hok,dA,House.e,jM,gX,b8,Int.reduceEq,reduceIte,zU,zT,aa]
 cases up with
 | false=>rfl
 | true =>
  cases hw:bj ⟨k,h,t,m⟩with
  | false=>rfl
  | true =>
   have wok:=wordOk_iff.1 hw
   have wt:=wok.t
   have wk:=wok.k
   simp only at wt wk
   simp only[aI,Bool.not_true,Bool.false_or]
   by_cases h4:k>=4
   ·have h3:k>3:=by omega
    simp[h4,h3,House.e,oW,Word.e]
   ·have h3:¬ k>3:=by omega
    by_cases e1:h=id
    ·subst e1
     have hms:(if k=1 then lN k h t m h true room (rs.map Rec.e) f [[C.int .i64 m]] else lN k h t m h true room (rs.map Rec.e) f [])=lN k h t m h true room (rs.map Rec.e) f ((bl ⟨k,h,t,m⟩).m.map eI):=by
      by_cases h1:k=1
      ·simp[h1,bl,eI]
      ·by_cases h2:k=2<;>simp[h1,h2,bl]
     have hr:=cz wok
     have er:bl ⟨k,h,t,m⟩=⟨k,t,(bl ⟨k,h,t,m⟩).m⟩:=by
      by_cases h1:k=1
      ·simp[h1,bl]
      ·by_cases h2:k=2
       ·simp[h2,bl]
       ·have:k=3:=by omega
        simp[this,bl]
     have sA:=ho.stOk false
     have sA':StOk ⟨(aq ⟨h,true,room,⟨rs,f⟩⟩ false).room,(aq ⟨h,true,room,⟨rs,f⟩⟩ false).hs⟩:=sA
     have hml:=dx hr
     have hml':(bl ⟨k,h,t,m⟩).m.length<=1099511627776:=by omega
     have hmay:=mT (k:=k) (t:=t) sA' hml'
     have hadd:=uJ (k:=k) (t:=t) hS hml'
     rw[<-er]at hmay hadd
     simp only[Dy,hr,hlo,Bool.true_and,Bool.and_self,if_true]at hmay hadd
     have hans:=xR (k:=k) (h:=h) (m:=m) ho wt
     have hj:ah (lN k h t m h true room (rs.map Rec.e) f ((bl ⟨k,h,t,m⟩).m.map eI))=some ((if may (aq ⟨h,true,room,⟨rs,f⟩⟩ false) (bl ⟨k,h,t,m⟩)=true then((⟨h,true,room,de ⟨rs,f⟩ (bl ⟨k,h,t,m⟩)⟩:House),(none:Option Word))
       else if k=1/\dY (aq ⟨h,true,room,⟨rs,f⟩⟩ false) t=0 then(⟨h,true,room,⟨rs,f⟩⟩,some ⟨5,h,t,0⟩)
       else(⟨h,true,room,⟨rs,f⟩⟩,answer h ⟨k,h,t,m⟩ (dY (aq ⟨h,true,room,⟨rs,f⟩⟩ true) t))).1.e++((oW (if may (aq ⟨h,true,room,⟨rs,f⟩⟩ false) (bl ⟨k,h,t,m⟩)=true then((⟨h,true,room,de ⟨rs,f⟩ (bl ⟨k,h,t,m⟩)⟩:House),(none:Option Word))
       else if k=1/\dY (aq ⟨h,true,room,⟨rs,f⟩⟩ false) t=0 then(⟨h,true,room,⟨rs,f⟩⟩,some ⟨5,h,t,0⟩)
       else(⟨h,true,room,⟨rs,f⟩⟩,answer h ⟨k,h,t,m⟩ (dY (aq ⟨h,true,room,⟨rs,f⟩⟩ true) t))).2).e++[.bool (if may (aq ⟨h,true,room,⟨rs,f⟩⟩ false) (bl ⟨k,h,t,m⟩)=true then((⟨h,true,room,de ⟨rs,f⟩ (bl ⟨k,h,t,m⟩)⟩:House),(none:Option Word))
       else if k=1/\dY (aq ⟨h,true,room,⟨rs,f⟩⟩ false) t=0 then(⟨h,true,room,⟨rs,f⟩⟩,some ⟨5,h,t,0⟩)
       else(⟨h,true,room,⟨rs,f⟩⟩,answer h ⟨k,h,t,m⟩ (dY (aq ⟨h,true,room,⟨rs,f⟩⟩ true) t))).2.isSome])):=by
      unfold lN
      simp (disch:=first|assumption|omega|(simp only[zL];omega)) only[z5 hlg,Stock.e,hmay,hadd,hans,Int.reduceEq,reduceIte,zT,aa]
      cases may (aq ⟨h,true,room,⟨rs,f⟩⟩ false) (bl ⟨k,h,t,m⟩)with
      | true=>simp[House.e,zf,oW,Word.e]
      | false =>
       simp only[aF,bo,Bool.false_eq_true,if_false,Jx]
       by_cases c:k=1/\dY (aq ⟨h,true,room,⟨rs,f⟩⟩ false) t=0
       ·simp[c,House.e,oW,Word.e]
       ·simp only[c,if_false]
        cases ha:answer h ⟨k,h,t,m⟩ (dY (aq ⟨h,true,room,⟨rs,f⟩⟩ true) t)with
        | none =>
         have:=(DF (id:=h)).2 ha
         simp only[this,if_true]
         simp[House.e,oW,Word.e]
        | some x =>
         have h0:¬ (oW (answer 0 ⟨k,h,t,m⟩ (dY (aq ⟨h,true,room,⟨rs,f⟩⟩ true) t))).k=0:=fun e=>by
          rw[(DF (id:=h)).1 e]at ha;cases ha
         have hx:=Ki ha
         simp only[h0,if_false]
         subst hx
         simp[House.e,oW,Word.e]
     simp only[h4,if_false,if_true,hms,hj,h3,decide_false,bne_self_eq_false,Bool.or_self,Bool.false_eq_true]
     rfl
    ·simp[h4,h3,e1,House.e,oW,Word.e]
end
end Dx
namespace Dx
open Go
theorem jO{l:List House}{i:Int}(h1:1<=i)(h2:i<=l.length)(id:Int)(up:Bool)(room:Int)(rs:List Rec)(f:Int) :
  setRow 0 (l.map House.e) (i-1).toNat [.int .i64 id,.bool up,.int .i64 room,.list (rs.map Rec.e),.int .i64 f]=(l.set (i-1).toNat ⟨id,up,room,⟨rs,f⟩⟩).map House.e :=
 bR (uE h1 h2) rfl
section
variable {up b:Bool} {rs:List Rec} {f:Int} {td:List Word} {k h t m keep:Int} {ms:List Int} {id room:Int} {hs:List House} {ns:List Word}
theorem rg(ho:HsOk ⟨id,up,room,⟨rs,f⟩⟩):wH [.int .i64 id,.bool up,.int .i64 room,.list (rs.map Rec.e),.int .i64 f]=some (bA ⟨id,up,room,⟨rs,f⟩⟩).e:=by
 rw[q_br]
 have hlg:LgOk ⟨rs,f⟩:=ho.lg
 have hS:=hlg.S
 have hok:=houseOk_iff.2 ho
 simp (disch:=first|assumption|omega|(simp only[zL];omega)) only[F_br,ej,hok,dA,House.e,mS hlg,Log.e,Int.reduceEq,reduceIte,zU,zT,aa]
 cases up<;>rfl
theorem uc(ho:HsOk ⟨id,up,room,⟨rs,f⟩⟩):wO [.int .i64 id,.bool up,.int .i64 room,.list (rs.map Rec.e),.int .i64 f]=some (eV ⟨id,up,room,⟨rs,f⟩⟩).e:=by
 rw[q_cm]
 have hlg:LgOk ⟨rs,f⟩:=ho.lg
 have hS:=hlg.S
 have hok:=houseOk_iff.2 ho
 simp (disch:=first|assumption|omega|(simp only[zL];omega)) only[F_cm,ej,hok,dA,House.e,Int.reduceEq,reduceIte,zU,zT,aa]
 rfl
theorem ud(ho:HsOk ⟨id,up,room,⟨rs,f⟩⟩) :
  wK [.int .i64 id,.bool up,.int .i64 room,.list (rs.map Rec.e),.int .i64 f,.int .i64 keep]=some (hfall ⟨id,up,room,⟨rs,f⟩⟩ keep).e:=by
 rw[q_cr]
 have hlg:LgOk ⟨rs,f⟩:=ho.lg
 have hS:=hlg.S
 have hok:=houseOk_iff.2 ho
 simp (disch:=first|assumption|omega|(simp only[zL];omega)) only[F_cr,ej,hok,qx hlg,Log.e,Int.reduceEq,reduceIte,zU,zT,aa]
 rfl
theorem zg(hL:ns.length<=1000) :
  iN [.bool up,.list (rs.map Rec.e),.int .i64 f,.list (td.map Word.e),.list (hs.map House.e),.list (ns.map Word.e),.int .i64 k,.int .i64 h,.int .i64 t,.int .i64 m]=some (mo ⟨⟨up,⟨rs,f⟩,td⟩,hs,ns⟩ ⟨k,h,t,m⟩).e:=by
 rw[q_bq]
 simp (disch:=first|assumption|omega|(simp only[zL];omega)) only[F_bq,mo,Int.reduceEq,reduceIte,zU,zT,aa]
 by_cases hn:ns.length<14
 ·have h':((ns.length:Nat):Int)<14:=by omega
  have hc:ns.length+1<=1099511627776:=by omega
  simp[hn,h',Wd.e,Word.e,cf,hc]
 ·have h':¬ (((ns.length:Nat):Int)<14):=by omega
  simp[hn,h',Wd.e]
theorem z6(ho:WOk ⟨⟨up,⟨rs,f⟩,td⟩,hs,ns⟩)(hx:WdOk ⟨k,h,t,m⟩) :
  sO [.bool up,.list (rs.map Rec.e),.int .i64 f,.list (td.map Word.e),.list (hs.map House.e),.list (ns.map Word.e),.int .i64 k,.int .i64 h,.int .i64 t,.int .i64 m] =
   some ((oW (ba ⟨⟨up,⟨rs,f⟩,td⟩,hs,ns⟩ ⟨k,h,t,m⟩).2).e++(.bool (ba ⟨⟨up,⟨rs,f⟩,td⟩,hs,ns⟩ ⟨k,h,t,m⟩).2.isSome::(ba ⟨⟨up,⟨rs,f⟩,td⟩,hs,ns⟩ ⟨k,h,t,m⟩).1.e)):=by
 rw[q_bd]
 have hd:DkOk ⟨up,⟨rs,f⟩,td⟩:=ho.dk
 have hl:hs.length=3:=ho.len
 have hh:=hx.h
 simp only at hh
 by_cases h4:k>=4
 ·simp (disch:=first|assumption|omega|(simp only[zL];omega)) only[F_bd,gX,DD,ba,h4,if_true,decide_true,Desk.e,Int.reduceEq,reduceIte,zU,zT,aa]
  simp[Wd.e,oW,Word.e]
 ·have hho:=(ho.houseAt (i:=h) hh).2.1
  rw[bp]at hho
  simp only at hho
  have hho':HsOk ⟨(dn hs h).id,(dn hs h).up,(dn hs h).room,⟨(dn hs h).lg.rs,(dn hs h).lg.f⟩⟩:=hho
  have h2:h<=hs.length:=by omega
  have hset:=fun id up room rs f=>jO (l:=hs) hh.1 h2 id up room rs f
  simp (disch:=first|assumption|omega|(simp only[zL];omega)) only[F_bd,gX,ba,h4,if_false,decide_false,wrap64,mM,House.e,ub,List.cons_append,Word.e,hset,lH,jz,eqD,List.set_set,bp,Int.reduceEq,reduceIte,zU,zT,aa]
  simp[Wd.e,setHouse]
theorem kV(ho:WOk ⟨⟨up,⟨rs,f⟩,td⟩,hs,ns⟩){i:Int} :
  pW [.bool up,.list (rs.map Rec.e),.int .i64 f,.list (td.map Word.e),.list (hs.map House.e),.list (ns.map Word.e),.int .i64 i]=some (cu ⟨⟨up,⟨rs,f⟩,td⟩,hs,ns⟩ i).e:=by
 rw[q_ab]
 have hd:DkOk ⟨up,⟨rs,f⟩,td⟩:=ho.dk
 have hl:hs.length=3:=ho.len
 by_cases h0:i=0
 ·subst h0
  simp (disch:=first|assumption|omega|(simp only[zL];omega)) only[Iu,cu,t8,Desk.e,Int.reduceEq,reduceIte,zU,zT,aa]
  simp[Wd.e]
 ·cases hi:in_ i 1 3 with
  | false=>simp (disch:=first|assumption|omega|(simp only[zL];omega)) only[Iu,cQ,cu,h0,hi,if_false,Int.reduceEq,reduceIte,zU,zT,aa];simp[Wd.e]
  | true =>
   have hi':=in_iff.1 hi
   have hho:=(ho.houseAt (i:=i) hi').2.1
   rw[bp]at hho
   simp only at hho
   have hho':HsOk ⟨(dn hs i).id,(dn hs i).up,(dn hs i).room,⟨(dn hs i).lg.rs,(dn hs i).lg.f⟩⟩:=hho
   have h2:i<=hs.length:=by omega
   have hset:=fun id up room rs f=>jO (l:=hs) hi'.1 h2 id up room rs f
   simp (disch:=first|assumption|omega|(simp only[zL];omega)) only[Iu,cQ,cu,h0,hi,if_false,if_true,wrap64,mM,House.e,rg,hset,lH,jz,eqD,List.set_set,bp,Int.reduceEq,reduceIte,zU,zT,aa]
   simp[Wd.e,setHouse]
theorem mU(ho:WOk ⟨⟨up,⟨rs,f⟩,td⟩,hs,ns⟩){i:Int} :
  pY [.bool up,.list (rs.map Rec.e),.int .i64 f,.list (td.map Word.e),.list (hs.map House.e),.list (ns.map Word.e),.int .i64 i]=some (ch ⟨⟨up,⟨rs,f⟩,td⟩,hs,ns⟩ ⟨9,i,0,[]⟩).e:=by
 rw[q_ac]
 have hd:DkOk ⟨up,⟨rs,f⟩,td⟩:=ho.dk
 have hl:hs.length=3:=ho.len
 by_cases h0:i=0
 ·subst h0
  have e0:in_ 0 0 3=true:=rfl
  simp (disch:=first|assumption|omega|(simp only[zL];omega)) only[IF,ch,e0,xO,Desk.e,Int.reduceEq,reduceIte,zU,zT,aa]
  simp[Wd.e]
 ·cases hi:in_ i 1 3 with
  | false =>
   have e0:in_ i 0 3=false:=by rw[in_false]at hi ⊢;omega
   simp (disch:=first|assumption|omega|(simp only[zL];omega)) only[IF,cQ,ch,e0,h0,hi,if_false,Int.reduceEq,reduceIte,zU,zT,aa];simp[Wd.e]
  | true =>
   have hi':=in_iff.1 hi
   have e0:in_ i 0 3=true:=in_iff.2 (by omega)
   have hho:=(ho.houseAt (i:=i) hi').2.1
   rw[bp]at hho
   simp only at hho
   have hho':HsOk ⟨(dn hs i).id,(dn hs i).up,(dn hs i).room,⟨(dn hs i).lg.rs,(dn hs i).lg.f⟩⟩:=hho
   have h2:i<=hs.length:=by omega
   have hset:=fun id up room rs f=>jO (l:=hs) hi'.1 h2 id up room rs f
   simp (disch:=first|assumption|omega|(simp only[zL];omega)) only[IF,cQ,ch,e0,h0,hi,if_false,if_true,wrap64,mM,House.e,uc,hset,lH,jz,eqD,List.set_set,bp,Int.reduceEq,reduceIte,zU,zT,aa]
   simp[Wd.e,setHouse]
theorem i_do1(hd:DkOk ⟨up,⟨rs,f⟩,td⟩){k a:Int}{mc:List (List C)} :
  wJ [.bool up,.list (rs.map Rec.e),.int .i64 f,.list (td.map Word.e),.int .i64 k,.int .i64 a,.int .i64 keep,.list mc]=some (dfall ⟨up,⟨rs,f⟩,td⟩ keep).e:=by
 rw[q_bj]
 simp (disch:=first|assumption|omega|(simp only[zL];omega)) only[F_bj,xN hd,Desk.e,Int.reduceEq,reduceIte,zU,zT,aa]
theorem i_do2(ho:HsOk ⟨id,up,room,⟨rs,f⟩⟩){k a:Int}{mc:List (List C)} :
  wL [.int .i64 id,.bool up,.int .i64 room,.list (rs.map Rec.e),.int .i64 f,.int .i64 k,.int .i64 a,.int .i64 keep,.list mc]=some (hfall ⟨id,up,room,⟨rs,f⟩⟩ keep).e:=by
 rw[q_bo]
 simp (disch:=first|assumption|omega|(simp only[zL];omega)) only[F_bo,ud ho,House.e,Int.reduceEq,reduceIte,zU,zT,aa]
theorem xS(ho:WOk ⟨⟨up,⟨rs,f⟩,td⟩,hs,ns⟩){i:Int}{k a k' a':Int}{mc mc':List (List C)} :
  wM [.bool up,.list (rs.map Rec.e),.int .i64 f,.list (td.map Word.e),.list (hs.map House.e),.list (ns.map Word.e),.int .i64 i,.int .i64 k,.int .i64 a,.int .i64 keep,.list mc,.int .i64 k',.int .i64 a',.int .i64 keep,.list mc']=some (ch ⟨⟨up,⟨rs,f⟩,td⟩,hs,ns⟩ ⟨8,i,keep,[]⟩).e:=by
 rw[q_aa]
 have hd:DkOk ⟨up,⟨rs,f⟩,td⟩:=ho.dk
 have hl:hs.length=3:=ho.len
 by_cases h0:i=0
 ·subst h0
  have e0:in_ 0 0 3=true:=rfl
  simp (disch:=first|assumption|omega|(simp only[zL];omega)) only[IB,ch,e0,i_do1 hd,Desk.e,Int.reduceEq,reduceIte,zU,zT,aa]
  simp[Wd.e]
 ·cases hi:in_ i 1 3 with
  | false =>
   have e0:in_ i 0 3=false:=by rw[in_false]at hi ⊢;omega
   simp (disch:=first|assumption|omega|(simp only[zL];omega)) only[IB,cQ,ch,e0,h0,hi,if_false,Int.reduceEq,reduceIte,zU,zT,aa];simp[Wd.e]
  | true =>
   have hi':=in_iff.1 hi
   have e0:in_ i 0 3=true:=in_iff.2 (by omega)
   have hho:=(ho.houseAt (i:=i) hi').2.1
   rw[bp]at hho
   simp only at hho
   have hho':HsOk ⟨(dn hs i).id,(dn hs i).up,(dn hs i).room,⟨(dn hs i).lg.rs,(dn hs i).lg.f⟩⟩:=hho
   have h2:i<=hs.length:=by omega
   have hset:=fun id up room rs f=>jO (l:=hs) hi'.1 h2 id up room rs f
   simp (disch:=first|assumption|omega|(simp only[zL];omega)) only[IB,cQ,ch,e0,h0,hi,if_false,if_true,wrap64,mM,House.e,i_do2 hho',hset,lH,jz,eqD,List.set_set,bp,Int.reduceEq,reduceIte,zU,zT,aa]
   simp[Wd.e,setHouse]
theorem BD:xm []=some deskNew.e:=by rw[q_ey];rfl
theorem xT:xn [.int .i64 id,.int .i64 room] =
  some (if in_ id 1 3 && in_ room 0 9 then(⟨id,true,room,⟨[],0⟩⟩:House).e++[.bool true] else(⟨0,false,0,⟨[],0⟩⟩:House).e++[.bool false]):=by
 rw[q_ed]
 simp (disch:=first|assumption|omega|(simp only[zL];omega)) only[F_ed,cQ,j8,Int.reduceEq,reduceIte,zU,zT,aa]
 cases in_ id 1 3<;>cases in_ room 0 9<;>rfl
theorem xU{rooms:List Int}(hL:rooms.length<=1099511627775):xo [.list (rooms.map eI)]=some (((bg rooms).getD wd0).e++[.bool (bg rooms).isSome]):=by
 rw[q_cz]
 simp (disch:=first|assumption|omega|(simp only[zL];omega)) only[F_cz,BD,Desk.e,deskNew,Int.reduceEq,reduceIte,zU,zT,aa]
 by_cases h3:((rooms.length:Nat):Int)=3
 case neg =>
  have:bg rooms=none:=by unfold bg;rw[if_neg];omega
  simp[h3,this,Wd.e,wd0]
 have h3':rooms.length=3:=by omega
 simp only[h3,if_true]
 have key:=ak (l:=rooms) (F:=fun ps=>s9 (rooms.map eI) true [] 0 [] 3 ((aa ps 0).toInt) ((aa ps 1).toList)) (enc:=fun i (s:List House)=>[.int .i64 i,.list (s.map House.e)])
  (res:=fun xs i s=>.ret (((if xs.all (fun n=>in_ n 0 9)=true then some (⟨deskNew,s++nh i xs,[]⟩:Wd) else none).getD wd0).e++[.bool (if xs.all (fun n=>in_ n 0 9)=true then some (⟨deskNew,s++nh i xs,[]⟩:Wd) else none).isSome])) (fun i s=>s.length=i) (s:=[]) (by simp) ?_ ?_
 ·have key:am _ [C.int .i64 0,C.list []]=_:=key
  simp only[List.map_nil]at key ⊢
  rw[key]
  have:(if rooms.all (fun n=>in_ n 0 9)=true then some (⟨deskNew,[]++nh 0 rooms,[]⟩:Wd) else none)=bg rooms:=by
   unfold bg c9
   rw[Fd];simp[h3']
  rw[this];rfl
 ·intro i x xs s hx hs
  have hi:=(List.getElem?_eq_some_iff.1 hx).1
  have hi':(i:Int)<3:=by omega
  simp only[s9,aa,C.toInt_int,C.toList_list,aK,hi',if_true,gG hx,eI]
  simp (disch:=first|assumption|omega|(simp only[zL];omega)) only[ap,xT]
  have hid:in_ ((i+1:Nat):Int) 1 3=true:=in_iff.2 (by omega)
  simp only[hid,Bool.true_and]
  cases hok:in_ x 0 9 with
  | true =>
   simp only[House.e,List.cons_append,List.nil_append,kx,aa,C.toInt_int,C.toList_list,C.toBool_bool,List.map_nil,Bool.not_true,aF,if_true]
   rw[bQ (by simp[cf];omega)]
   refine .inl ⟨s++[⟨((i+1:Nat):Int),true,x,⟨[],0⟩⟩],by simp[House.e],by simp[hs],?_⟩
   simp[nh,hok]
  | false =>
   refine .inr ⟨_,rfl,?_⟩
   simp only[List.all_cons,hok,Bool.false_and,Bool.false_eq_true,if_false];rfl
 ·intro s hs
  have h:¬ ((rooms.length:Int)<3):=by omega
  simp only[s9,aa,C.toInt_int,C.toList_list,aK,h,if_false]
  simp[upD,nh,Wd.e,deskNew]
end
end Dx
namespace Dx
open Go
section
variable {up b:Bool} {rs:List Rec} {f:Int} {td:List Word} {k h t m keep:Int} {ms:List Int} {id room:Int} {hs:List House} {ns:List Word}
theorem CM{r:List (List C)}{i:Nat}{x12 x13:Int}(hi:i<=100)(hm:ms.length<=3)(hL:td.length<=1099511627775)(h14:b=true->x13=lG x12){acc:List Word}(ha:acc.length<=300) :
  am (fun ps=>oC up r f (td.map Word.e) ((i:Nat):Int) (ms.map eI) x12 x13 b ((ms.length:Nat):Int) ((aa ps 0).toInt) ((aa ps 1).toList)) [.int .i64 0,.list (acc.map Word.e)] =
   some (.jump [.int .i64 ((i+1:Nat):Int),.list ((acc++if b then aT td x12 ((i+1:Nat):Int) 1 ms else []).map Word.e)]):=by
 have key:=ak (l:=ms) (F:=fun ps=>oC up r f (td.map Word.e) ((i:Nat):Int) (ms.map eI) x12 x13 b ((ms.length:Nat):Int) ((aa ps 0).toInt) ((aa ps 1).toList)) (enc:=fun j (s:List Word)=>[.int .i64 j,.list (s.map Word.e)])
  (res:=fun xs j s=>.jump [.int .i64 ((i+1:Nat):Int),.list ((s++if b then aT td x12 ((i+1:Nat):Int) ((j+1:Nat):Int) xs else []).map Word.e)]) (fun j s=>s.length<=300+j) (s:=acc) (by omega) ?_ ?_
 ·have key:am _ [C.int .i64 0,C.list (acc.map Word.e)]=_:=key
  rw[key];rfl
 ·intro j x xs s hx hs
  have hj:=(List.getElem?_eq_some_iff.1 hx).1
  have hj':(j:Int)<(ms.length:Nat):=by omega
  have e1:((j+1:Nat):Int)+1=((j+1+1:Nat):Int):=by omega
  have hc:s.length+1<=1099511627776:=by omega
  simp (disch:=first|assumption|omega|(simp only[zL];omega)) only[oC,gG hx,eI,ap,hj',if_true,DB,Int.reduceEq,reduceIte,zU,zT,aa]
  cases b with
  | false =>
   exact .inl ⟨s,by simp,by omega,by simp⟩
  | true =>
   have h13:=h14 rfl
   simp only[aT,fq,e1,if_true]
   rw[h13]
   by_cases h0:x=0
   ·simp only[h0,if_true,true_or,List.nil_append]
    exact .inl ⟨s,rfl,by omega,rfl⟩
   ·simp only[h0,if_false,false_or]
    cases hcn:td.contains ⟨lG x12,((j+1:Nat):Int),((i+1:Nat):Int),0⟩with
    | true =>
     simp only[aI,if_true,List.nil_append]
     exact .inl ⟨s,rfl,by omega,rfl⟩
    | false =>
     simp only[aF,Bool.false_eq_true,if_false]
     by_cases h1:x12=1
     ·subst h1
      simp only[if_true,aI]
      exact .inl ⟨s++[⟨1,((j+1:Nat):Int),((i+1:Nat):Int),x⟩],by simp[Word.e],by simp;omega,by simp⟩
     ·simp only[h1,if_false]
      simp only[aI]
      exact .inl ⟨s++[⟨x12,((j+1:Nat):Int),((i+1:Nat):Int),0⟩],by simp[Word.e],by simp;omega,by simp⟩
 ·intro s hs
  have h:¬ ((ms.length:Int)<(ms.length:Nat)):=by omega
  simp (disch:=first|assumption|omega|(simp only[zL];omega)) only[oC,h,if_false,ap,Int.reduceEq,reduceIte,zU,zT,aa]
  cases b<;>simp[upD,aT]
theorem z7(hd:DkOk ⟨up,⟨rs,f⟩,td⟩):pT [.bool up,.list (rs.map Rec.e),.int .i64 f,.list (td.map Word.e)]=some [.list ((aW ⟨up,⟨rs,f⟩,td⟩).map Word.e)]:=by
 rw[q_bl]
 have hS:=hd.lg.S
 have hS':LgS ⟨rs,f⟩:=hS
 have h1:0<=f:=hd.lg.lo
 have h2:f<=rs.length:=hd.lg.hi
 have hT:TrOk (aC ⟨rs,f⟩ true):=hd.trOk true
 have htl:td.length<=1099511627775:=by have:=hd.tdlen;simp only at this;omega
 cases up with
 | false=>simp[F_bl,aW]
 | true =>
  simp (disch:=first|assumption|omega|(simp only[zL];omega)) only[F_bl,rE hS' (fun _=>⟨h1,h2⟩),Int.reduceEq,reduceIte,zU,zT,aa]
  have ed:aW ⟨true,⟨rs,f⟩,td⟩=cD td 1 (aC ⟨rs,f⟩ true):=rfl
  rw[ed]
  generalize aC ⟨rs,f⟩ true=l at hT
  have hl6:=hT.len
  have key:=ak (l:=l) (F:=fun ps=>sL true (rs.map Rec.e) f (td.map Word.e) (l.map Trip.e) ((l.length:Nat):Int) ((aa ps 0).toInt) ((aa ps 1).toList)) (enc:=fun j (s:List Word)=>[.int .i64 j,.list (s.map Word.e)])
   (res:=fun xs j s=>.ret [.list ((s++cD td ((j+1:Nat):Int) xs).map Word.e)]) (fun j s=>s.length<=3*j) (s:=[]) (by simp) ?_ ?_
  ·have key:am _ [C.int .i64 0,C.list []]=_:=key
   rw[key];rfl
  ·intro j x xs s hx hs
   have hj:=(List.getElem?_eq_some_iff.1 hx).1
   have hj':(j:Int)<(l.length:Nat):=by omega
   have hxo:=tripOk_iff.1 (hT.ok x (List.mem_of_getElem? hx))
   have hm3:=bw hxo.1
   have e1:((j+1:Nat):Int)+1=((j+1+1:Nat):Int):=by omega
   obtain⟨hx1,hx2⟩:=hxo.2
   simp (disch:=first|assumption|omega|(simp only[zL];omega)) only[sL,xH hx,Trip.e,hj',if_true,Int.reduceEq,reduceIte,zU,zT,aa]
   rw[CM (hi:=by omega) (hm:=by omega) (hL:=htl) (ha:=by omega)]
   ·refine .inl ⟨s++(if(([1,2,3]:List Int).any fun k=>(x.s:Int)==k) then aT td (gI [(1,1),(2,2),(3,3)] x.s) ((j+1:Nat):Int) 1 x.m else []),rfl,?_,?_⟩
    ·rw[List.length_append]
     have:=d4 td (gI [(1,1),(2,2),(3,3)] x.s) ((j+1:Nat):Int) x.m 1
     split
     ·omega
     ·simp;omega
    ·simp only[cD,e1,List.append_assoc]
     have:(if(([1,2,3]:List Int).any fun k=>(x.s:Int)==k) then aT td (gI [(1,1),(2,2),(3,3)] x.s) ((j+1:Nat):Int) 1 x.m else [])=if x.s>3 then [] else aT td x.s ((j+1:Nat):Int) 1 x.m:=by
      have:x.s=1\/x.s=2\/x.s=3\/x.s=4\/x.s=5:=by omega
      rcases this with e|e|e|e|e<;>rw[e]<;>simp[gI]
     rw[this]
   ·intro hb
    have:x.s=1\/x.s=2\/x.s=3\/x.s=4\/x.s=5:=by omega
    rcases this with e|e|e|e|e<;>rw[e]at hb ⊢<;>simp[gI,lG]at hb ⊢
  ·intro s hs
   have h:¬ ((l.length:Int)<(l.length:Nat)):=by omega
   simp (disch:=first|assumption|omega|(simp only[zL];omega)) only[sL,h,if_false,Int.reduceEq,reduceIte,zU,zT,aa]
   simp[cD]
end
end Dx
namespace Dx
open Go
section
variable {up b:Bool} {rs:List Rec} {f:Int} {td:List Word} {k h t m keep:Int} {ms:List Int} {id room:Int} {hs:List House} {ns:List Word}
theorem i_net(ho:WOk ⟨⟨up,⟨rs,f⟩,td⟩,hs,ns⟩){k a b:Int}{mc:List (List C)}(hk:k=4\/k=5\/k=6) :
  wF [.bool up,.list (rs.map Rec.e),.int .i64 f,.list (td.map Word.e),.list (hs.map House.e),.list (ns.map Word.e),.int .i64 k,.int .i64 a,.int .i64 b,.list mc]=some (lY ⟨⟨up,⟨rs,f⟩,td⟩,hs,ns⟩ ⟨k,a,b,ms⟩).e:=by
 rw[q_cy]
 have hnl:ns.length<=14:=ho.nlen
 simp (disch:=first|assumption|omega|(simp only[zL];omega)) only[F_cy,j8,wrap64,Int.reduceEq,reduceIte,zU,zT,aa]
 cases hi:in_ a 0 ((ns.length:Nat)-1)with
 | false =>
  have hn:(if 0<=a then ns[a.toNat]? else none)=none:=by
   rw[in_false]at hi
   split
   ·rw[List.getElem?_eq_none];omega
   ·rfl
  unfold lY
  simp only[hn,aF,aI,Bool.not_false,aG]
  rfl
 | true =>
  have hi:=in_iff.1 hi
  have hlt:a.toNat<ns.length:=by omega
  have hx:ns[a.toNat]?=some ns[a.toNat]:=by simp
  have hn:(if 0<=a then ns[a.toNat]? else none)=some ns[a.toNat]:=by rw[if_pos hi.1,hx]
  have hxo:=ho.ns _ (List.getElem_mem hlt)
  have hrow:∀ f:List C->Option Out,aH (.list (ns.map Word.e)) (.int .i64 a) [.int .i64,.int .i64,.int .i64,.int .i64] f=f (ns[a.toNat]).e:=fun f=>ei hi.1 hx rfl
  have hdel:qi [.list (ns.map Word.e),.int .i64 a,.int .i64 (a+1)]=some [.list ((ns.eraseIdx a.toNat).map Word.e)]:=by
   have hc:(decide (0<=a) && (decide (a<a+1) && decide (a+1<=((ns.map Word.e).length:Nat))))=true:=by
    simp only[Bool.and_eq_true,decide_eq_true_eq,List.length_map];omega
   unfold qi
   simp only[hc]
   have e1:(a+1).toNat=a.toNat+1:=by omega
   rw[e1,List.eraseIdx_eq_take_drop_succ,List.map_append,List.map_take,List.map_drop]
  have hd:decide (0<=a) && decide (a<((ns.length:Nat):Int))=true:=by simp;omega
  have hto:=ho.take a
  unfold lY
  simp only[hn]
  generalize hxx:ns[a.toNat]=x at hrow hxo
  have hsn:iN [.bool up,.list (rs.map Rec.e),.int .i64 f,.list (td.map Word.e),.list (hs.map House.e),.list (ns.map Word.e),.int .i64 x.k,.int .i64 x.h,.int .i64 x.t,.int .i64 x.m]=some (mo ⟨⟨up,⟨rs,f⟩,td⟩,hs,ns⟩ x).e:=zg (by omega)
  have hto':WOk ⟨⟨up,⟨rs,f⟩,td⟩,hs,ns.eraseIdx a.toNat⟩:=hto
  have hh:=hto'.hear hxo
  have hhe:=z6 (k:=x.k) (h:=x.h) (t:=x.t) (m:=x.m) hto' hxo
  have etk:gD ⟨⟨up,⟨rs,f⟩,td⟩,hs,ns⟩ a=⟨⟨up,⟨rs,f⟩,td⟩,hs,ns.eraseIdx a.toNat⟩:=rfl
  simp only[etk]
  have hw:IntKind.wrap .i64 (a+1)=a+1:=wrap64 (by omega) (by omega)
  rcases hk with e|e|e
  ·subst e
   simp (disch:=first|assumption|omega|(simp only[zL];omega)) only[sP,hrow,hd,Word.e,Int.reduceEq,reduceIte,zU,zT,aa]
   rw[hw,hdel]
   simp only[Dv,aa,C.toList_list]
   rw[hhe]
   have ex:(⟨x.k,x.h,x.t,x.m⟩:Word)=x:=rfl
   rw[ex]
   generalize ba (⟨⟨up,⟨rs,f⟩,td⟩,hs,ns.eraseIdx a.toNat⟩:Wd) x=q at hh ⊢
   obtain⟨q1,q2⟩:=q
   cases q2 with
   | none =>
    simp only[oW,Word.e,Wd.e,List.cons_append,List.nil_append,Option.isSome_none]
    rw[bB rfl]
    rfl
   | some y =>
    have hq:WOk q1:=hh.1
    have hql:=hq.nlen
    have hsn2:iN [.bool q1.dk.up,.list (q1.dk.lg.rs.map Rec.e),.int .i64 q1.dk.lg.f,.list (q1.dk.td.map Word.e),.list (q1.hs.map House.e),.list (q1.ns.map Word.e),.int .i64 y.k,.int .i64 y.h,.int .i64 y.t,.int .i64 y.m]=some (mo q1 y).e:=zg (ns:=q1.ns) (by omega)
    simp only[oW,Word.e,Wd.e,List.cons_append,List.nil_append,Option.isSome_some,Option.getD_some]
    rw[bB rfl]
    simp only[aa,C.toBool_bool,C.toList_list,C.toInt_int,aI]
    rw[hsn2]
    simp only[Wd.e]
    rw[bB rfl]
    rfl
  ·subst e
   simp (disch:=first|assumption|omega|(simp only[zL];omega)) only[sP,hrow,hd,Word.e,Int.reduceEq,reduceIte,zU,zT,aa]
   rw[hw,hdel]
   rfl
  ·subst e
   simp (disch:=first|assumption|omega|(simp only[zL];omega)) only[sP,hrow,hd,Word.e,Int.reduceEq,reduceIte,zU,zT,aa]
   rw[hsn]
   simp only[Wd.e]
   rw[bB rfl]
   rfl
theorem zh{l:List Word}{i:Int}{x:Word}(h0:0<=i)(h:l[i.toNat]?=some x){kk:IntKind}{f:List C->Option Out}:aH (.list (l.map Word.e)) (.int kk i) [.int .i64,.int .i64,.int .i64,.int .i64] f=f x.e:=ei h0 h rfl
theorem qz{d:Desk}{r:Rec}(h:dO d r=false):aV d r=d:=by
 unfold dO at h
 unfold aV
 split
 ·rename_i hc
  simp only[Bool.and_eq_true]at hc
  simp only[hc.1,hc.2,Bool.true_and]at h
  have:d.lg.rs.length>=40:=by simpa [mn] using h
  simp[de,this]
 ·rfl
theorem i_do(ho:WOk ⟨⟨up,⟨rs,f⟩,td⟩,hs,ns⟩){k a b:Int}(hm:ms.length<=1099511627776) :
  mm [.bool up,.list (rs.map Rec.e),.int .i64 f,.list (td.map Word.e),.list (hs.map House.e),.list (ns.map Word.e),.int .i64 k,.int .i64 a,.int .i64 b,.list (ms.map eI)]=some (wdo ⟨⟨up,⟨rs,f⟩,td⟩,hs,ns⟩ ⟨k,a,b,ms⟩).e:=by
 rw[q_eb]
 have hd:DkOk ⟨up,⟨rs,f⟩,td⟩:=ho.dk
 have hdS:DkS ⟨up,⟨rs,f⟩,td⟩:=hd.S
 have hdo:=deskOk_iff.2 hd
 have hnl:ns.length<=14:=ho.nlen
 unfold F_eb
 by_cases h1:k=1
 ·subst h1
  simp only[BEq.rfl,aI,t9 hdS hm,hdo,Bool.true_and]
  have ew:wdo ⟨⟨up,⟨rs,f⟩,td⟩,hs,ns⟩ ⟨1,a,b,ms⟩=⟨fP ⟨up,⟨rs,f⟩,td⟩ ms,hs,ns⟩:=rfl
  rw[ew]
  unfold fP
  cases hr:aD (eG ⟨up,⟨rs,f⟩,td⟩ ms)with
  | false=>rfl
  | true =>
   simp only[if_true]
   cases hb:dO ⟨up,⟨rs,f⟩,td⟩ (eG ⟨up,⟨rs,f⟩,td⟩ ms)with
   | false=>rw[qz hb];rfl
   | true=>rfl
 by_cases h2:k=2
 ·subst h2
  simp only[Int.reduceBEq,aF,aI,xP hdS,hdo,Bool.true_and]
  have ew:wdo ⟨⟨up,⟨rs,f⟩,td⟩,hs,ns⟩ ⟨2,a,b,ms⟩=⟨jD ⟨up,⟨rs,f⟩,td⟩ a,hs,ns⟩:=rfl
  rw[ew]
  unfold jD
  cases hr:in_ a 1 6 with
  | false=>rfl
  | true =>
   simp only[if_true]
   cases hb:dO ⟨up,⟨rs,f⟩,td⟩ ⟨6,a,[]⟩with
   | false=>rw[qz hb];rfl
   | true=>rfl
 by_cases h3:k=3
 ·subst h3
  have hwl:(aW ⟨up,⟨rs,f⟩,td⟩).length<=18:=gf hd
  simp (disch:=first|assumption|omega|(simp only[zL];omega)) only[Int.reduceBEq,z7 hd,j8,wrap64,Int.reduceEq,reduceIte,zU,zT,aa]
  have ew:wdo ⟨⟨up,⟨rs,f⟩,td⟩,hs,ns⟩ ⟨3,a,b,ms⟩=iP ⟨⟨up,⟨rs,f⟩,td⟩,hs,ns⟩ ⟨3,a,b,ms⟩:=rfl
  rw[ew]
  unfold iP
  simp only[Int.reduceEq,if_false,if_true]
  generalize aW ⟨up,⟨rs,f⟩,td⟩=l at hwl
  cases hi:in_ a 0 ((l.length:Nat)-1)with
  | false =>
   have hn:(if 0<=a then l[a.toNat]? else none)=none:=by
    rw[in_false]at hi
    split
    ·rw[List.getElem?_eq_none];omega
    ·rfl
   rw[hn];rfl
  | true =>
   have hi:=in_iff.1 hi
   have hlt:a.toNat<l.length:=by omega
   have hx:l[a.toNat]?=some l[a.toNat]:=by simp
   have hn:(if 0<=a then l[a.toNat]? else none)=some l[a.toNat]:=by rw[if_pos hi.1,hx]
   rw[hn]
   simp only[aI]
   rw[zh hi.1 hx]
   generalize l[a.toNat]=x
   simp only[Word.e,aa,C.toInt_int]
   have hsn:iN [.bool up,.list (rs.map Rec.e),.int .i64 f,.list (td.map Word.e),.list (hs.map House.e),.list (ns.map Word.e),.int .i64 x.k,.int .i64 x.h,.int .i64 x.t,.int .i64 x.m]=some (mo ⟨⟨up,⟨rs,f⟩,td⟩,hs,ns⟩ x).e:=zg (by omega)
   rw[hsn]
   simp only[Wd.e]
   rw[bB rfl]
   rfl
 have e1:(k==1)=false:=by simpa using h1
 have e2:(k==2)=false:=by simpa using h2
 have e3:(k==3)=false:=by simpa using h3
 have ew:wdo ⟨⟨up,⟨rs,f⟩,td⟩,hs,ns⟩ ⟨k,a,b,ms⟩=if k=4\/k=5\/k=6 then lY ⟨⟨up,⟨rs,f⟩,td⟩,hs,ns⟩ ⟨k,a,b,ms⟩ else if k=7\/k=8\/k=9 then ch ⟨⟨up,⟨rs,f⟩,td⟩,hs,ns⟩ ⟨k,a,b,ms⟩ else⟨⟨up,⟨rs,f⟩,td⟩,hs,ns⟩:=by
  unfold wdo;simp only[h1,h2,h3,false_or,if_false]
 rw[ew]
 simp only[e1,e2,e3,aF]
 by_cases h4:k=4\/k=5\/k=6
 ·rw[if_pos h4]
  have hn:=i_net (ms:=ms) ho (k:=k) (a:=a) (b:=b) (mc:=ms.map eI) h4
  have:bH (ae (k==4) (some (.jump [.bool true])) (ae (k==5) (some (.jump [.bool true])) (some (.jump [.bool (k==6)])))) (fun ps=>oF up (rs.map Rec.e) f (td.map Word.e) (hs.map House.e) (ns.map Word.e) k a b (ms.map eI) (aa ps 0).toBool) =
    oF up (rs.map Rec.e) f (td.map Word.e) (hs.map House.e) (ns.map Word.e) k a b (ms.map eI) true:=by
   rcases h4 with e|e|e<;>subst e<;>rfl
  rw[this]
  unfold oF
  simp only[aI]
  rw[hn]
  simp only[Wd.e]
  rw[bB rfl]
  rfl
 ·rw[if_neg h4]
  simp only[not_or]at h4
  have f4:(k==4)=false:=by simpa using h4.1
  have f5:(k==5)=false:=by simpa using h4.2.1
  have f6:(k==6)=false:=by simpa using h4.2.2
  simp only[f4,f5,f6,aF,aZ,aa,C.toBool_bool]
  unfold oF
  simp only[aF]
  by_cases h7:k=7
  ·subst h7
   have hn:ch ⟨⟨up,⟨rs,f⟩,td⟩,hs,ns⟩ ⟨7,a,b,ms⟩=cu ⟨⟨up,⟨rs,f⟩,td⟩,hs,ns⟩ a:=by
    unfold ch cu
    cases hi:in_ a 0 3 with
    | true=>simp
    | false =>
     rw[in_false]at hi
     have h0:a≠0:=by omega
     have h1:in_ a 1 3=false:=by rw[in_false];omega
     simp[h0,h1]
   simp only[BEq.rfl,aI,kV ho,Int.reduceEq,true_or,if_true,hn]
   simp only[Wd.e]
   rw[bB rfl]
   rfl
  by_cases h8:k=8
  ·subst h8
   have hn:ch ⟨⟨up,⟨rs,f⟩,td⟩,hs,ns⟩ ⟨8,a,b,ms⟩=ch ⟨⟨up,⟨rs,f⟩,td⟩,hs,ns⟩ ⟨8,a,b,[]⟩:=rfl
   simp only[Int.reduceBEq,aF,aI,xS ho,Int.reduceEq,true_or,or_true,if_true,hn]
   simp only[Wd.e]
   rw[bB rfl]
   rfl
  by_cases h9:k=9
  ·subst h9
   have hn:ch ⟨⟨up,⟨rs,f⟩,td⟩,hs,ns⟩ ⟨9,a,b,ms⟩=ch ⟨⟨up,⟨rs,f⟩,td⟩,hs,ns⟩ ⟨9,a,0,[]⟩:=rfl
   simp only[Int.reduceBEq,aF,aI,mU ho,Int.reduceEq,or_true,if_true,hn]
   simp only[Wd.e]
   rw[bB rfl]
   rfl
  have g7:(k==7)=false:=by simpa using h7
  have g8:(k==8)=false:=by simpa using h8
  have g9:(k==9)=false:=by simpa using h9
  simp only[g7,g8,g9,aF,h7,h8,h9,or_false,if_false,aG]
  rfl
theorem Jy{w:Wd}(ho:WOk w){e:Ev}(hm:e.m.length<=1099511627776) :
  mm [.bool w.dk.up,.list (w.dk.lg.rs.map Rec.e),.int .i64 w.dk.lg.f,.list (w.dk.td.map Word.e),.list (w.hs.map House.e),.list (w.ns.map Word.e),.int .i64 e.k,.int .i64 e.a,.int .i64 e.b,.list (e.m.map eI)]=some (wdo w e).e :=
 i_do (up:=w.dk.up) (rs:=w.dk.lg.rs) (f:=w.dk.lg.f) (td:=w.dk.td) (hs:=w.hs) (ns:=w.ns) ho hm
def Wd.eD(w:Wd):List C:=[.bool w.dk.up,.int .i64 w.dk.lg.f,.list (w.dk.lg.rs.map Rec.e),.list (w.dk.td.map Word.e),.list (w.hs.map House.e),.list (w.ns.map Word.e)]
theorem ue{rooms:List Int}{es:List Ev}(hr:rooms.length<=1099511627775)(hl:es.length<=1099511627776)(hs:∀ e∈es,EvS e) :
  xp [.list (rooms.map eI),.list (es.map Ev.e)]=some (((bN rooms es).getD wd0).e++[.bool (bN rooms es).isSome]):=by
 rw[q_cb]
 have hwn:=xU (rooms:=rooms) hr
 simp only[Wd.e,Wd.eD,List.cons_append,List.nil_append]at hwn
 simp (disch:=first|assumption|omega|(simp only[zL];omega)) only[F_cb,hwn,Int.reduceEq,reduceIte,zU,zT,aa]
 unfold bN
 cases hw:bg rooms with
 | none=>simp[Wd.e,wd0]
 | some w0 =>
  have ok0:=dI hw
  simp only[Option.isSome_some,Bool.not_true,aI,aF,Option.getD_some,Option.map_some]
  by_cases h80:((es.length:Nat):Int)>80
  ·have h80':es.length>80:=by omega
   simp[h80,h80',Wd.e,wd0]
  ·have h80':¬ es.length>80:=by omega
   simp only[h80,h80',if_false]
   have key:=ak (l:=es) (F:=fun ps=>ta (es.map Ev.e) ((es.length:Nat):Int) ((aa ps 0).toInt) ((aa ps 1).toBool) ((aa ps 2).toInt) ((aa ps 3).toList) ((aa ps 4).toList) ((aa ps 5).toList) ((aa ps 6).toList))
    (enc:=fun i (w:Wd)=>.int .i64 i::w.eD)
    (res:=fun xs _ w=>.ret ((gF w xs).e++[.bool true])) (fun _ w=>WOk w) (s:=w0) ok0 ?_ ?_
   ·have key:am _ (C.int .i64 0::w0.eD)=_:=key
    simp only[Wd.eD]at key
    rw[key];rfl
   ·intro i x xs w hx ow
    have hi:=(List.getElem?_eq_some_iff.1 hx).1
    have hi':(i:Int)<(es.length:Nat):=by omega
    have hx3:=hs x (List.mem_of_getElem? hx)
    have hxm:x.m.length<=1099511627776:=by unfold EvS at hx3;omega
    simp only[Wd.e,Wd.eD,aa,C.toInt_int,C.toBool_bool,C.toList_list]
    unfold ta
    simp only[aK,hi',if_true,mO hx,Ev.e,aa,C.toInt_int,C.toList_list,Jy ow hxm]
    simp only[Wd.e,Wd.eD,bE,aa,C.toInt_int,C.toList_list,C.toBool_bool]
    rw[ap (by omega)]
    exact .inl ⟨wdo w x,rfl,ow.do_ x,rfl⟩
   ·intro w ow
    have h:¬ ((es.length:Int)<(es.length:Nat)):=by omega
    simp only[Wd.e,Wd.eD,aa,C.toInt_int,C.toBool_bool,C.toList_list]
    unfold ta
    simp only[aK,h,if_false]
    rfl
end
end Dx
namespace Dx
open Go
section
variable {a b:List Int} {up up':Bool} {rs rs':List Rec} {f f':Int} {td td':List Word} {k k' t t' id id' room room' h m:Int} {hs hs':List House} {ns ns':List Word}
end
end Dx
namespace Dx
open Go
theorem CN(Φ:Phi)(p:Prim)(args:List Cell)(t:Tree)(env:List C):den Φ (.letp p args t) env=den Φ t (env++[p.den (aL env args)]):=by rw[den]
theorem z8(Φ:Phi)(a:At)(t e:Tree)(env:List C):den Φ (.ite a t e) env=ae (a.den env).toBool (den Φ t env) (den Φ e env):=by rw[den]
theorem FZ(Φ:Phi)(xs:List Cell)(env:List C):den Φ (.ret xs) env=some (.ret (aL env xs)):=by rw[den]
end Dx
namespace Dx
open Go
theorem CO(Φ:Phi)(xs:List Cell)(env:List C):den Φ (.jump xs) env=some (.jump (aL env xs)):=by rw[den]
theorem CP(Φ:Phi)(ks:List CK)(body k:Tree)(env:List C):den Φ (.join ks body k) env=bH (den Φ body env) fun ps=>den Φ k (env++kh ps 0 ks):=by rw[den]
theorem F0{α:Type}{F:List C->Option Out}{l:List α}{o:Out}(hs:∀(i:Nat) (x:α),l[i]?=some x->F [.int .i64 (i:Nat)]=some (.jump [.int .i64 ((i+1:Nat):Int)]))
  (hf:F [.int .i64 ((l.length:Nat):Int)]=some (.up o)):am F [.int .i64 0]=some o :=
 ak (l:=l) (F:=F) (enc:=fun i (_:Unit)=>[.int .i64 i]) (res:=fun _ _ _=>o) (fun _ _=>True) (s:=()) trivial (fun i x _ _ hx _=>.inl ⟨(),hs i x hx,trivial,rfl⟩) (fun _ _=>hf)
section
variable {code:List Int}
end
end Dx
namespace Dx
open Go
section
variable {code:List Int}
end
end Dx
namespace Dx
open Go
section
variable {code:List Int}
end
end Dx
namespace Dx
open Go
section
variable {room:Int} {hs:List Hold} {k h t m:Int} {ns:List Word} {w:Wd}
theorem qA(hL:ns.length<=1000):wB [.list (ns.map Word.e)]=some [.bool (ns.any fun x=>!bj x)]:=by
 have h1:∀ x:Word,wz [.int .i64 x.k,.int .i64 x.h,.int .i64 x.t,.int .i64 x.m]=some [.bool (!bj x)]:=fun x=>by
  rw[q_cs];simp (disch:=first|assumption|omega|(simp only[zL];omega)) only[F_cs,jM,Int.reduceEq,reduceIte,zU,zT,aa]
 have hi:wA [.list (ns.map Word.e)]=some [.int .i64 (lZ (fun x=>!bj x) 0 ns)]:=by
  rw[q_aj];unfold F_aj
  simp only[List.length_map]
  rw[gp (l:=ns) (fun x=>!bj x)]
  ·rfl
  ·intro i x hx
   have hi:=(List.getElem?_eq_some_iff.1 hx).1
   have hi':(i:Int)<(ns.length:Nat):=by omega
   simp (disch:=first|assumption|omega|(simp only[zL];omega)) only[yT,gH hx,Word.e,h1,ap,hi',if_true,Int.reduceEq,reduceIte,zT,aa]
   cases bj x<;>simp[hi']
  ·have h:¬ ((ns.length:Int)<(ns.length:Nat)):=by omega
   simp (disch:=first|assumption|omega|(simp only[zL];omega)) only[yT,h,if_false,Int.reduceEq,reduceIte,zU,zT,aa]
 rw[q_af]
 simp (disch:=first|assumption|omega|(simp only[zL];omega)) only[F_af,hi,dQ,Bool.decide_eq_true,Int.reduceEq,reduceIte,zU,zT,aa]
theorem WOk.cells(ho:WOk w){i:Nat}{x:House}(hx:w.hs[i]?=some x):LgOk ⟨x.lg.rs,x.lg.f⟩/\cE ⟨x.id,x.up,x.room,⟨x.lg.rs,x.lg.f⟩⟩=true/\x.id=((i+1:Nat):Int) :=
 ⟨(ho.hs i x hx).1.lg,houseOk_iff.2 (ho.hs i x hx).1,by have:=(ho.hs i x hx).2;omega⟩
theorem qB(ho:WOk w):mi [.bool w.dk.up,.list (w.dk.lg.rs.map Rec.e),.int .i64 w.dk.lg.f,.list (w.dk.td.map Word.e),.list (w.hs.map House.e),.list (w.ns.map Word.e)]=some [.bool true]:=by
 rw[q_fs]
 have hdS:DkS ⟨w.dk.up,⟨w.dk.lg.rs,w.dk.lg.f⟩,w.dk.td⟩:=ho.dk.S
 have hdo:dv ⟨w.dk.up,⟨w.dk.lg.rs,w.dk.lg.f⟩,w.dk.td⟩=true:=deskOk_iff.2 ho.dk
 have h3:=ho.len
 have hn:=ho.nlen
 have h3':((w.hs.length:Nat):Int)=3:=by omega
 have hn':¬ (((w.ns.length:Nat):Int)>14):=by omega
 have hw:(w.ns.any fun x=>!bj x)=false:=by
  rw[List.any_eq_false]
  intro x hx
  rw[wordOk_iff.2 (ho.ns x hx)];simp
 simp (disch:=first|assumption|omega|(simp only[zL];omega)) only[F_fs,dq,hdo,h3',hn',if_true,if_false,Int.reduceEq,reduceIte,zU,zT,aa]
 rw[F0 (l:=w.hs) (o:=.ret [.bool true])]
 ·rfl
 ·intro i x hx
  have hi:=(List.getElem?_eq_some_iff.1 hx).1
  have hi':(i:Int)<3:=by omega
  obtain⟨c1,c2,c3⟩:=ho.cells hx
  have c2':cE ⟨((i+1:Nat):Int),x.up,x.room,x.lg⟩=true:=by rw[<-c3];exact c2
  simp (disch:=first|assumption|omega|(simp only[zL];omega)) only[lM,dV hx,House.e,ej c1.S,c2',c3,ap,hi',if_true,Int.reduceEq,reduceIte,zU,zT,aa]
 ·have h:¬ ((3:Int)<3):=by omega
  simp (disch:=first|assumption|omega|(simp only[zL];omega)) only[lM,h3',if_false,qA,hw,Int.lt_irrefl,Int.reduceEq,reduceIte,zU,zT,aa]
  try rfl
theorem iw(ho:WOk w):pP [.bool w.dk.up,.list (w.dk.lg.rs.map Rec.e),.int .i64 w.dk.lg.f,.list (w.dk.td.map Word.e),.list (w.hs.map House.e),.list (w.ns.map Word.e)]=some w.e:=by
 rw[q_bb]
 have hdS:DkS ⟨w.dk.up,⟨w.dk.lg.rs,w.dk.lg.f⟩,w.dk.td⟩:=ho.dk.S
 have h3:=ho.len
 have hn:=ho.nlen
 simp (disch:=first|assumption|omega|(simp only[zL];omega)) only[F_bb,dh hdS,Desk.e,uI,Dt,Int.reduceEq,reduceIte,zU,zT,aa]
 refine Eq.trans (congrArg ah (ak (l:=w.hs) (enc:=fun i (s:List House)=>[.int .i64 i,.list (s.map House.e)])
  (res:=fun xs _ s=>.ret [.bool w.dk.up,.list (w.dk.lg.rs.map Rec.e),.int .i64 w.dk.lg.f,.list (w.dk.td.map Word.e),.list ((s++xs).map House.e),.list (w.ns.map Word.e)]) (fun i s=>s.length=i) (s:=[]) rfl ?_ ?_)) rfl
 ·intro i x xs s hx hs
  have hi:=(List.getElem?_eq_some_iff.1 hx).1
  have hi':(i:Int)<(w.hs.length:Nat):=by omega
  obtain⟨c1,c2,c3⟩:=ho.cells hx
  have hc:s.length+1<=1099511627776:=by omega
  simp (disch:=first|assumption|omega|(simp only[zL];omega)) only[yU,dV hx,House.e,dA c1.S,ap,hi',hc,if_true,Int.reduceEq,reduceIte,zU,zT,aa]
  exact .inl ⟨s++[x],by simp[House.e],by simp[hs],by simp⟩
 ·intro s hs
  have h:¬ ((w.hs.length:Int)<(w.hs.length:Nat)):=by omega
  simp (disch:=first|assumption|omega|(simp only[zL];omega)) only[yU,h,if_false,Int.reduceEq,reduceIte,zU,zT,aa]
  simp
theorem BE(ho:WOk w){e:Ev}(hm:e.m.length<=1099511627776) :
  sQ [.bool w.dk.up,.list (w.dk.lg.rs.map Rec.e),.int .i64 w.dk.lg.f,.list (w.dk.td.map Word.e),.list (w.hs.map House.e),.list (w.ns.map Word.e),.int .i64 e.k,.int .i64 e.a,.int .i64 e.b,.list (e.m.map eI)]=some (wdo w e).e:=by
 rw[q_ex]
 unfold F_ex
 rw[qB ho]
 simp only[ry,aa,C.toBool_bool,Bool.not_true,aF]
 rw[iw ho]
 simp only[Wd.e,bE,aa,C.toInt_int,C.toList_list,C.toBool_bool]
 rw[Jy ho hm]
 simp only[Wd.e,bE,aa,C.toInt_int,C.toList_list,C.toBool_bool]
 rfl
end
end Dx
namespace Dx
open Go
section
variable {code:List Int}
end
end Dx
namespace Dx
open Go
section
variable {code more:List Int}
end
end Dx
namespace Dx
open Go
section
variable {code:List Int}
end
end Dx
namespace Dx
open Go
section
variable {code more:List Int}
end
end Dx
namespace Dx
open Go
section
variable {w:Wd}
end
end Dx
namespace Dx
open Go
theorem F3:xe=sO:=rfl
theorem qC:∀(xs:List Word) (w:Wd) (ns:List Word),cg {w with ns:=ns} xs={cg w xs with ns:=ns}
 | [],_,_=>rfl
 | x::xs,w,ns=>by
  show cg (aX {w with ns:=ns} x) xs={cg (aX w x) xs with ns:=ns}
  rw[Bh];exact qC xs _ ns
section
variable {w:Wd}
theorem hs3(ho:WOk w):∃ a b c,w.hs=[a,b,c]:=by
 have h:=ho.len
 match w.hs,h with
 | [a,b,c],_=>exact⟨a,b,c,rfl⟩
theorem CQ(ho:WOk w):([0,1,2,3]:List Int).foldl (fun w i=>ch w ⟨9,i,0,[]⟩) w=dZ w:=by
 obtain⟨a,b,c,h⟩:=hs3 ho
 obtain⟨d,hs,ns⟩:=w
 simp only at h
 subst h
 rfl
theorem qD(ho:WOk w):([0,1,2,3]:List Int).foldl cu w=aQ w:=by
 obtain⟨a,b,c,h⟩:=hs3 ho
 obtain⟨d,hs,ns⟩:=w
 simp only at h
 subst h
 rfl
theorem ij{F:List C->Option Out}{p q:List C}(h:F p=some (.jump q)):am F p=am F q:=by rw[jU,h];rfl
theorem z9{F:List C->Option Out}{p:List C}{o:Out}(h:F p=some (.up o)):am F p=some o:=by rw[jU,h];rfl
theorem DG(a b:List Word)(f:List C->Option Out):aH (.list [[.list (a.map Word.e)],[.list (b.map Word.e)]]) (.int .i64 0) [.list] f=f [.list (a.map Word.e)]:=rfl
theorem Aa(a b:List Word)(f:List C->Option Out):aH (.list [[.list (a.map Word.e)],[.list (b.map Word.e)]]) (.int .i64 1) [.list] f=f [.list (b.map Word.e)]:=rfl
theorem CR{a b:List Word}(ha:a.length<=1000)(hb:b.length<=1000):xd [.list [[.list (a.map Word.e)],[.list (b.map Word.e)]]]=some [.list ((a++b).map Word.e)]:=by
 rw[q_ar]
 have hg:nJ [.list [],.int .i64 ((a.length:Int)+(b.length:Nat))]=some [.list []]:=by
  have hc:(decide ((0:Int)<=(a.length:Int)+(b.length:Nat)) && decide ((a.length:Int)+(b.length:Nat)<=1099511627776))=true:=by simp;omega
  unfold nJ
  simp only[hc]
 have h1:¬ ((a.length:Int)<0):=by omega
 have h2:¬ ((a.length:Int)+(b.length:Nat)<0):=by omega
 have hA:¬ ((0:Int)+(a.length:Int)<0):=by omega
 unfold F_ar
 refine Eq.trans (congrArg ah (ij (q:=[.int .i64 a.length,.int .i64 1]) ?_)) ?_
 ·show jx _ 2 0 0=_
  unfold jx
  simp (disch:=first|assumption|omega|(simp only[zL];omega)) only[DG,wrap64,h1,if_false,Int.zero_add,Int.reduceAdd,Int.reduceLT,if_true,Int.reduceEq,reduceIte,zU,zT,aa]
 refine Eq.trans (congrArg ah (ij (q:=[.int .i64 ((a.length:Int)+(b.length:Nat)),.int .i64 2]) ?_)) ?_
 ·show jx _ 2 _ 1=_
  unfold jx
  simp (disch:=first|assumption|omega|(simp only[zL];omega)) only[Aa,wrap64,h2,if_false,Int.reduceAdd,Int.reduceLT,if_true,C.toInt_int,Int.reduceEq,reduceIte,zU,zT,aa]
 refine Eq.trans (congrArg ah (z9 (o:=.ret [.list ((a++b).map Word.e)]) ?_)) rfl
 show jx _ 2 ((a.length:Int)+(b.length:Nat)) 2=_
 unfold jx
 simp only[Int.lt_irrefl,decide_false,aF,hg,Dv,aa,C.toList_list]
 have key:am (fun ps=>ir [[C.list (a.map Word.e)],[C.list (b.map Word.e)]] 2 ((aa ps 0).toInt) ((aa ps 1).toList)) [C.int .i64 0,C.list []]=some (.ret [.list ((a++b).map Word.e)]):=by
  refine Eq.trans (ij (q:=[.int .i64 1,.list (a.map Word.e)]) ?_) ?_
  ·show ir _ 2 0 []=_
   unfold ir
   simp (disch:=first|assumption|omega|(simp only[zL];omega)) only[DG,mD,wrap64,Int.zero_add,Int.reduceAdd,Int.reduceLT,if_true,cf,Int.reduceEq,reduceIte,zU,zT,aa]
  refine Eq.trans (ij (q:=[.int .i64 2,.list ((a++b).map Word.e)]) ?_) ?_
  ·show ir _ 2 1 (a.map Word.e)=_
   unfold ir
   simp (disch:=first|assumption|omega|(simp only[zL];omega)) only[Aa,mD,wrap64,Int.reduceAdd,Int.reduceLT,if_true,cf,List.map_append,Int.reduceEq,reduceIte,zU,zT,aa]
  refine z9 ?_
  show ir _ 2 2 ((a++b).map Word.e)=_
  unfold ir
  simp only[Int.lt_irrefl,decide_false,aF]
  rfl
 exact congrArg upD key
theorem xV(ho:WOk w):∀ x∈w.ns++aW w.dk,WdOk x:=fun x hx=>by
 rcases List.mem_append.1 hx with h|h
 ·exact ho.ns x h
 ·exact(dy ho.dk h).1
theorem Kj(ho:WOk w) :
  xf [.bool w.dk.up,.list (w.dk.lg.rs.map Rec.e),.int .i64 w.dk.lg.f,.list (w.dk.td.map Word.e),.list (w.hs.map House.e),.list (w.ns.map Word.e)]=some (c7 w).e:=by
 rw[q_bk]
 unfold F_bk
 have L0:∀ w:Wd,WOk w->am (fun ps=>sY ((aa ps 0).toInt) ((aa ps 1).toBool) ((aa ps 2).toInt) ((aa ps 3).toList) ((aa ps 4).toList) ((aa ps 5).toList) ((aa ps 6).toList)) (.int .i64 0::w.eD)=some (.ret (aQ w).e):=by
  intro w ow
  rw[<-qD ow]
  refine ak (l:=([0,1,2,3]:List Int)) (enc:=fun i (w:Wd)=>.int .i64 i::w.eD) (res:=fun xs _ w=>.ret (xs.foldl cu w).e) (fun _ w=>WOk w) (s:=w) ow ?_ ?_
  ·intro i x xs w hx ow
   have hi:(i:Int)<4/\x=(i:Int):=by
    have:=(List.getElem?_eq_some_iff.1 hx).1
    simp at this
    have h4:i=0\/i=1\/i=2\/i=3:=by omega
    rcases h4 with e|e|e|e<;>subst e<;>simp at hx<;>subst hx<;>simp
   obtain⟨hi,rfl⟩:=hi
   have he:=kV (up:=w.dk.up) (rs:=w.dk.lg.rs) (f:=w.dk.lg.f) (td:=w.dk.td) (hs:=w.hs) (ns:=w.ns) ow (i:=(i:Int))
   refine .inl ⟨cu w i,?_,ow.forceEv _,rfl⟩
   simp only[Wd.e,Wd.eD,aa,C.toInt_int,C.toBool_bool,C.toList_list]
   unfold sY
   simp only[aK,hi,if_true,he]
   simp only[jI,jJ,iv]
   simp only[Wd.e,Wd.eD,bE,aa,C.toInt_int,C.toList_list,C.toBool_bool]
   rw[ap (by omega)]
  ·intro w ow
   have h:¬ (((4:Nat):Int)<4):=by omega
   simp only[List.length_cons,List.length_nil,Wd.e,Wd.eD,aa,C.toInt_int,C.toBool_bool,C.toList_list]
   unfold sY
   simp only[aK,h,if_false]
   rfl
 have L1:∀(l:List Word) (w:Wd),l.length<=1000->WOk w->(∀ x∈l,WdOk x)->am (fun ps=>sZ (l.map Word.e) ((l.length:Nat):Int) ((aa ps 0).toInt) ((aa ps 1).toBool) ((aa ps 2).toInt) ((aa ps 3).toList) ((aa ps 4).toList) ((aa ps 5).toList) ((aa ps 6).toList))
   [.int .i64 0,.bool w.dk.up,.int .i64 w.dk.lg.f,.list (w.ns.map Word.e),.list (w.dk.lg.rs.map Rec.e),.list (w.dk.td.map Word.e),.list (w.hs.map House.e)]=some (.ret (aQ {cg w l with ns:=[]}).e):=by
  intro l w hl ow hw
  refine ak (l:=l) (enc:=fun i (w:Wd)=>[.int .i64 i,.bool w.dk.up,.int .i64 w.dk.lg.f,.list (w.ns.map Word.e),.list (w.dk.lg.rs.map Rec.e),.list (w.dk.td.map Word.e),.list (w.hs.map House.e)]) (res:=fun xs _ w=>.ret (aQ {cg w xs with ns:=[]}).e) (fun _ w=>WOk w) (s:=w) ow ?_ ?_
  ·intro i x xs w hx ow
   have hi:=(List.getElem?_eq_some_iff.1 hx).1
   have hi':(i:Int)<(l.length:Nat):=by omega
   have hxo:=hw x (List.mem_of_getElem? hx)
   have hhe:=z6 (up:=w.dk.up) (rs:=w.dk.lg.rs) (f:=w.dk.lg.f) (td:=w.dk.td) (hs:=w.hs) (ns:=w.ns) (k:=x.k) (h:=x.h) (t:=x.t) (m:=x.m) ow hxo
   have o2:=ow.hear hxo
   refine .inl ⟨aX w x,?_,ow.hear2 hxo,rfl⟩
   simp only[aa,C.toInt_int,C.toBool_bool,C.toList_list]
   unfold sZ
   have hd:(decide ((0:Int)<=(i:Int)) && decide ((i:Int)<(((l.map Word.e).length:Nat):Int)))=true:=by simp;omega
   rw[zh (by omega) (by simpa using hx)]
   simp only[aK,hi',if_true,hd,dP,Word.e,aa,C.toInt_int,F3,hhe]
   simp only[jI,jJ,iv,th]
   unfold aX
   generalize ba w x=q at o2 ⊢
   obtain⟨q1,q2⟩:=q
   rw[ap (by omega)]
   cases q2 with
   | none =>
    simp only[oW,Word.e,Wd.e,List.cons_append,List.nil_append,Option.isSome_none]
    rw[bB rfl]
    rfl
   | some y =>
    have hq:WOk q1:=o2.1
    have hy:=DD (up:=q1.dk.up) (rs:=q1.dk.lg.rs) (f:=q1.dk.lg.f) (td:=q1.dk.td) (k:=y.k) (h:=y.h) (t:=y.t) (m:=y.m) hq.dk
    have h4:=(o2.2 y rfl).2
    simp only[oW,Word.e,Wd.e,List.cons_append,List.nil_append,Option.isSome_some,Option.getD_some]
    rw[bB rfl]
    simp only[aa,C.toBool_bool,C.toList_list,C.toInt_int,aI,hy]
    simp only[jI,jJ,th]
    rw[ig h4]
    simp only[Desk.e]
    rw[bB rfl]
    rfl
  ·intro w ow
   have h:¬ ((l.length:Int)<(l.length:Nat)):=by omega
   simp only[aa,C.toInt_int,C.toBool_bool,C.toList_list]
   unfold sZ
   simp only[aK,h,if_false]
   have:=L0 {w with ns:=[]} ⟨ow.dk,ow.len,ow.hs,by simp,by simp⟩
   simp only[Wd.e,Wd.eD,List.map_nil]at this
   rw[this];rfl
 refine Eq.trans (congrArg ah (ak (l:=([0,1,2,3]:List Int)) (enc:=fun i (w:Wd)=>.int .i64 i::w.eD) (res:=fun xs _ v=>.ret (aQ (cg {xs.foldl (fun w i=>ch w ⟨9,i,0,[]⟩) v with ns:=[]} ((xs.foldl (fun w i=>ch w ⟨9,i,0,[]⟩) v).ns++aW (xs.foldl (fun w i=>ch w ⟨9,i,0,[]⟩) v).dk))).e) (fun _ v=>WOk v) (s:=w) ho ?_ ?_)) ?_
 ·intro i x xs w hx ow
  have hi:(i:Int)<4/\x=(i:Int):=by
   have:=(List.getElem?_eq_some_iff.1 hx).1
   simp at this
   have h4:i=0\/i=1\/i=2\/i=3:=by omega
   rcases h4 with e|e|e|e<;>subst e<;>simp at hx<;>subst hx<;>simp
  obtain⟨hi,rfl⟩:=hi
  have he:=mU (up:=w.dk.up) (rs:=w.dk.lg.rs) (f:=w.dk.lg.f) (td:=w.dk.td) (hs:=w.hs) (ns:=w.ns) ow (i:=(i:Int))
  refine .inl ⟨ch w ⟨9,i,0,[]⟩,?_,ow.node _,rfl⟩
  simp only[Wd.e,Wd.eD,aa,C.toInt_int,C.toBool_bool,C.toList_list]
  unfold za
  simp only[aK,hi,if_true,he]
  simp only[jI,jJ,iv]
  simp only[Wd.e,Wd.eD,bE,aa,C.toInt_int,C.toList_list,C.toBool_bool]
  rw[ap (by omega)]
 ·intro v ow
  have h:¬ (((4:Nat):Int)<4):=by omega
  have hdw:=gf ow.dk
  have hnl:=ow.nlen
  simp only[List.length_cons,List.length_nil,Wd.e,Wd.eD,aa,C.toInt_int,C.toBool_bool,C.toList_list]
  unfold za
  have hwd:=z7 (up:=v.dk.up) (rs:=v.dk.lg.rs) (f:=v.dk.lg.f) (td:=v.dk.td) ow.dk
  simp only[aK,h,if_false,hwd,Dv,aa,C.toList_list]
  simp only[jI,jJ]
  rw[CR (by omega) (by omega)]
  simp only[Dv,aa,C.toList_list,List.length_map]
  have:=L1 (v.ns++aW v.dk) v (by rw[List.length_append];omega) ow (xV ow)
  refine(congrArg upD this).trans ?_
  show _=some (Out.up (.ret (aQ (cg {v with ns:=[]} (v.ns++aW v.dk))).e))
  rw[qC (v.ns++aW v.dk) v []]
  rfl
 ·rw[CQ ho]
  rfl
theorem uf(ho:WOk w){r:Int}(hr:0<=r/\r<=9) :
  s5 [.bool w.dk.up,.list (w.dk.lg.rs.map Rec.e),.int .i64 w.dk.lg.f,.list (w.dk.td.map Word.e),.list (w.hs.map House.e),.list (w.ns.map Word.e),.int .i64 r]=some (iQ w r.toNat).e:=by
 rw[q_cf]
 unfold Jj
 rw[qB ho]
 have hin:in_ r 0 9=true:=in_iff.2 hr
 simp only[ry,aa,C.toBool_bool,Bool.not_true,aF,j8,hin]
 rw[iw ho]
 obtain⟨n,rfl⟩:∃ n:Nat,r=n:=⟨r.toNat,by omega⟩
 simp only[Wd.e,Wd.eD,bE,aa,C.toInt_int,C.toList_list,C.toBool_bool]
 refine Eq.trans (congrArg ah (ak (l:=List.replicate n ()) (enc:=fun i (w:Wd)=>.int .i64 i::w.eD) (res:=fun xs _ v=>.ret (iQ v xs.length).e) (fun _ v=>WOk v) (s:=w) ho ?_ ?_)) ?_
 ·intro i x xs w hx ow
  have hi:=(List.getElem?_eq_some_iff.1 hx).1
  rw[List.length_replicate]at hi
  have hi':(i:Int)<(n:Nat):=by omega
  refine .inl ⟨c7 w,?_,ow.round,rfl⟩
  simp only[Wd.e,Wd.eD,aa,C.toInt_int,C.toBool_bool,C.toList_list]
  unfold zb
  simp only[aK,hi',if_true,Kj ow]
  simp only[Wd.e,Wd.eD,bE,aa,C.toInt_int,C.toList_list,C.toBool_bool]
  rw[ap (by omega)]
 ·intro v ow
  have h:¬ ((n:Int)<(n:Nat)):=by omega
  simp only[List.length_replicate,Wd.e,Wd.eD,aa,C.toInt_int,C.toBool_bool,C.toList_list]
  unfold zb
  simp only[aK,h,if_false]
  rfl
 ·rw[List.length_replicate];rfl
end
end Dx
namespace Dx
open Go
end Dx
