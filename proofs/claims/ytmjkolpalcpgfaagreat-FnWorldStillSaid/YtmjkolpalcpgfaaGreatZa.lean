import Derived.Test.YtmjkolpalcpgfaaGreatTa
import Derived.Test.YtmjkolpalcpgfaaGreatYq1
import Derived.Test.YtmjkolpalcpgfaaGreatYq2
import Derived.Test.YtmjkolpalcpgfaaGreatYq3
set_option linter.all false
namespace Dx
open Go
theorem wrap64{x:Int}(h1:-9223372036854775808<=x)(h2:x<=9223372036854775807):IntKind.wrap .i64 x=x:=by
 have e:IntKind.wrap .i64 x=if x % 18446744073709551616>=9223372036854775808 then x % 18446744073709551616-18446744073709551616 else x % 18446744073709551616:=by
  simp[IntKind.wrap,IntKind.bits,IntKind.signed]
 rw[e]
 split<;>omega
theorem BK{i:Nat}(h:i<=bf):IntKind.wrap .i64 ((i:Int)+1)=((i+1:Nat):Int):=by
 rw[wrap64]<;>(simp[bf]at h;omega)
theorem ba{cs:List C}{ks:List CK}{f:List C->Option Out}(hk:aj ks cs=true):ac (some cs) ks f=f cs:=by
 simp only[ac,af,hk,iz hk]
theorem AB(x0:List (List C))(f:List C->Option Out):ac (some [.list x0]) [.list] f=f [.list x0]:=rfl
theorem nt(x0:Bool)(f:List C->Option Out):ac (some [.bool x0]) [.bool] f=f [.bool x0]:=rfl
theorem cd_i(x0:Int)(f:List C->Option Out):ac (some [.int .i64 x0]) [(.int .i64)] f=f [.int .i64 x0]:=rfl
theorem IT(x0:List (List C))(x1:Bool)(f:List C->Option Out):ac (some [.list x0,.bool x1]) [.list,.bool] f=f [.list x0,.bool x1]:=rfl
theorem cd_bb(x0:Bool)(x1:Bool)(f:List C->Option Out):ac (some [.bool x0,.bool x1]) [.bool,.bool] f=f [.bool x0,.bool x1]:=rfl
theorem IU(x0:List (List C))(x1:Int)(f:List C->Option Out):ac (some [.list x0,.int .i64 x1]) [.list,(.int .i64)] f=f [.list x0,.int .i64 x1]:=rfl
theorem cd_il(x0:Int)(x1:List (List C))(f:List C->Option Out):ac (some [.int .i64 x0,.list x1]) [(.int .i64),.list] f=f [.int .i64 x0,.list x1]:=rfl
theorem JH(x0:List (List C))(x1:Int)(x2:Bool)(f:List C->Option Out):ac (some [.list x0,.int .i64 x1,.bool x2]) [.list,(.int .i64),.bool] f=f [.list x0,.int .i64 x1,.bool x2]:=rfl
theorem JI(x0:List (List C))(x1:List (List C))(x2:Int)(f:List C->Option Out):ac (some [.list x0,.list x1,.int .i64 x2]) [.list,.list,(.int .i64)] f=f [.list x0,.list x1,.int .i64 x2]:=rfl
theorem JJ(x0:Int)(x1:List (List C))(x2:Bool)(f:List C->Option Out):ac (some [.int .i64 x0,.list x1,.bool x2]) [(.int .i64),.list,.bool] f=f [.int .i64 x0,.list x1,.bool x2]:=rfl
theorem JK(x0:Int)(x1:List (List C))(x2:Int)(f:List C->Option Out):ac (some [.int .i64 x0,.list x1,.int .i64 x2]) [(.int .i64),.list,(.int .i64)] f=f [.int .i64 x0,.list x1,.int .i64 x2]:=rfl
theorem JL(x0:Int)(x1:Int)(x2:List (List C))(f:List C->Option Out):ac (some [.int .i64 x0,.int .i64 x1,.list x2]) [(.int .i64),(.int .i64),.list] f=f [.int .i64 x0,.int .i64 x1,.list x2]:=rfl
theorem tp(x0:Bool)(x1:List (List C))(x2:Int)(x3:List (List C))(f:List C->Option Out):ac (some [.bool x0,.list x1,.int .i64 x2,.list x3]) [.bool,.list,(.int .i64),.list] f=f [.bool x0,.list x1,.int .i64 x2,.list x3]:=rfl
theorem jb(x0:Bool)(x1:List (List C))(x2:Int)(x3:List (List C))(x4:Bool)(f:List C->Option Out):ac (some [.bool x0,.list x1,.int .i64 x2,.list x3,.bool x4]) [.bool,.list,(.int .i64),.list,.bool] f=f [.bool x0,.list x1,.int .i64 x2,.list x3,.bool x4]:=rfl
theorem kY(x0:Bool)(x1:Bool)(x2:List (List C))(x3:Int)(x4:List (List C))(f:List C->Option Out):ac (some [.bool x0,.bool x1,.list x2,.int .i64 x3,.list x4]) [.bool,.bool,.list,(.int .i64),.list] f=f [.bool x0,.bool x1,.list x2,.int .i64 x3,.list x4]:=rfl
theorem bO(x0:Bool)(x1:List (List C))(x2:Int)(x3:List (List C))(x4:List (List C))(x5:List (List C))(f:List C->Option Out):ac (some [.bool x0,.list x1,.int .i64 x2,.list x3,.list x4,.list x5]) [.bool,.list,(.int .i64),.list,.list,.list] f=f [.bool x0,.list x1,.int .i64 x2,.list x3,.list x4,.list x5]:=rfl
theorem C1(x0:Int)(x1:Bool)(x2:Int)(x3:List (List C))(x4:Int)(f:List C->Option Out):ac (some [.int .i64 x0,.bool x1,.int .i64 x2,.list x3,.int .i64 x4]) [(.int .i64),.bool,(.int .i64),.list,(.int .i64)] f=f [.int .i64 x0,.bool x1,.int .i64 x2,.list x3,.int .i64 x4]:=rfl
theorem yy(x0:Bool)(x1:List (List C))(x2:Int)(x3:List (List C))(x4:List (List C))(x5:List (List C))(x6:Bool)(f:List C->Option Out):ac (some [.bool x0,.list x1,.int .i64 x2,.list x3,.list x4,.list x5,.bool x6]) [.bool,.list,(.int .i64),.list,.list,.list,.bool] f=f [.bool x0,.list x1,.int .i64 x2,.list x3,.list x4,.list x5,.bool x6]:=rfl
theorem C2(x0:Int)(x1:Int)(x2:Int)(x3:Int)(x4:Bool)(f:List C->Option Out):ac (some [.int .i64 x0,.int .i64 x1,.int .i64 x2,.int .i64 x3,.bool x4]) [(.int .i64),(.int .i64),(.int .i64),(.int .i64),.bool] f=f [.int .i64 x0,.int .i64 x1,.int .i64 x2,.int .i64 x3,.bool x4]:=rfl
theorem lQ(x0:Int)(x1:Bool)(x2:Int)(x3:List (List C))(x4:Int)(x5:Bool)(f:List C->Option Out):ac (some [.int .i64 x0,.bool x1,.int .i64 x2,.list x3,.int .i64 x4,.bool x5]) [(.int .i64),.bool,(.int .i64),.list,(.int .i64),.bool] f=f [.int .i64 x0,.bool x1,.int .i64 x2,.list x3,.int .i64 x4,.bool x5]:=rfl
theorem rT(x0:Int)(x1:Int)(x2:Int)(x3:List (List C))(x4:List (List C))(x5:Int)(f:List C->Option Out):ac (some [.int .i64 x0,.int .i64 x1,.int .i64 x2,.list x3,.list x4,.int .i64 x5]) [(.int .i64),(.int .i64),(.int .i64),.list,.list,(.int .i64)] f=f [.int .i64 x0,.int .i64 x1,.int .i64 x2,.list x3,.list x4,.int .i64 x5]:=rfl
theorem qj(x0:List (List C))(x1:List (List C))(x2:Bool)(x3:List (List C))(x4:Int)(x5:List (List C))(x6:List (List C))(x7:List (List C))(x8:List (List C))(x9:Int)(f:List C->Option Out):ac (some [.list x0,.list x1,.bool x2,.list x3,.int .i64 x4,.list x5,.list x6,.list x7,.list x8,.int .i64 x9]) [.list,.list,.bool,.list,(.int .i64),.list,.list,.list,.list,(.int .i64)] f=f [.list x0,.list x1,.bool x2,.list x3,.int .i64 x4,.list x5,.list x6,.list x7,.list x8,.int .i64 x9]:=rfl
theorem nA(x0:Bool)(x1:List (List C))(x2:Int)(x3:List (List C))(x4:List (List C))(x5:List (List C))(x6:Int)(x7:Int)(x8:Int)(x9:Int)(x10:Bool)(f:List C->Option Out):ac (some [.bool x0,.list x1,.int .i64 x2,.list x3,.list x4,.list x5,.int .i64 x6,.int .i64 x7,.int .i64 x8,.int .i64 x9,.bool x10]) [.bool,.list,(.int .i64),.list,.list,.list,(.int .i64),(.int .i64),(.int .i64),(.int .i64),.bool] f=f [.bool x0,.list x1,.int .i64 x2,.list x3,.list x4,.list x5,.int .i64 x6,.int .i64 x7,.int .i64 x8,.int .i64 x9,.bool x10]:=rfl
theorem qk(x0:Int)(x1:Bool)(x2:Int)(x3:List (List C))(x4:Int)(x5:Int)(x6:Int)(x7:Int)(x8:Int)(x9:Bool)(f:List C->Option Out):ac (some [.int .i64 x0,.bool x1,.int .i64 x2,.list x3,.int .i64 x4,.int .i64 x5,.int .i64 x6,.int .i64 x7,.int .i64 x8,.bool x9]) [(.int .i64),.bool,(.int .i64),.list,(.int .i64),(.int .i64),(.int .i64),(.int .i64),(.int .i64),.bool] f=f [.int .i64 x0,.bool x1,.int .i64 x2,.list x3,.int .i64 x4,.int .i64 x5,.int .i64 x6,.int .i64 x7,.int .i64 x8,.bool x9]:=rfl
theorem od{es:List (List C)}{i:Int}{r:List C}(h0:0<=i)(hx:es[i.toNat]?=some r){kk:IntKind}{ks:List CK}{f:List C->Option Out}(hk:aj ks r=true):aI (.list es) (.int kk i) ks f=f r:=by
 obtain⟨n,rfl⟩:=Int.eq_ofNat_of_zero_le h0
 unfold aI
 simp only[C.toInt,C.toList]
 show (match es[n]? with|some r=>af (aj ks r) (f (bU r 0 ks))|none=>none)=f r
 rw[show es[n]?=some r from hx]
 simp only[af,hk,iz hk]
theorem fV{α:Type}{e:α->List C}{l:List α}{i:Nat}{x:α}(hx:l[i]?=some x){kk:IntKind}{ks:List CK}{f:List C->Option Out}(hk:aj ks (e x)=true):aI (.list (l.map e)) (.int kk i) ks f=f (e x) :=
 od (by omega) (by simp[hx]) hk
theorem dx{α:Type}{e:α->List C}{l:List α}{i:Int}{x:α}(h0:0<=i)(hx:l[i.toNat]?=some x){kk:IntKind}{ks:List CK}{f:List C->Option Out}(hk:aj ks (e x)=true):aI (.list (l.map e)) (.int kk i) ks f=f (e x) :=
 od h0 (by simp[hx]) hk
theorem rU{α σ:Type}{F:List C->Option Out}{l:List α}{enc:Nat->σ->List C}{res:List α->Nat->σ->Out}{P:Nat->σ->Prop}
  (hs:∀(i:Nat) (x:α) (xs:List α) (s:σ),l[i]?=some x->P i s->(∃ s',F (enc i s)=some (.jump (enc (i+1) s'))/\P (i+1) s'/\res (x::xs) i s=res xs (i+1) s')\/(∃ o,F (enc i s)=some (.up o)/\res (x::xs) i s=o))
  (hf:∀ s,P l.length s->F (enc l.length s)=some (.up (res [] l.length s))):∀(n i:Nat) (s:σ),n+i=l.length->P i s->aJ F (enc i s)=some (res (l.drop i) i s)
 | 0,i,s,hn,h=>by
  have:i=l.length:=by omega
  subst this
  rw[gI,hf s h,List.drop_of_length_le (Nat.le_refl _)]
  rfl
 | n+1,i,s,hn,h=>by
  have hi:i<l.length:=by omega
  have hx:l[i]?=some l[i]:=by simp[hi]
  rw[gI,List.drop_eq_getElem_cons hi]
  rcases hs i _ (l.drop (i+1)) s hx h with ⟨s',h1,h2,h3⟩|⟨o,h1,h2⟩
  ·rw[h1,h3]
   simp only[bw]
   exact rU hs hf n (i+1) s' (by omega) h2
  ·rw[h1,h2]
   rfl
theorem ar{α σ:Type}{F:List C->Option Out}{l:List α}{enc:Nat->σ->List C}{res:List α->Nat->σ->Out}(P:Nat->σ->Prop){s:σ}(h:P 0 s)
  (hs:∀(i:Nat) (x:α) (xs:List α) (s:σ),l[i]?=some x->P i s->(∃ s',F (enc i s)=some (.jump (enc (i+1) s'))/\P (i+1) s'/\res (x::xs) i s=res xs (i+1) s')\/(∃ o,F (enc i s)=some (.up o)/\res (x::xs) i s=o))
  (hf:∀ s,P l.length s->F (enc l.length s)=some (.up (res [] l.length s))):aJ F (enc 0 s)=some (res l 0 s):=by
 have:=rU hs hf l.length 0 s (by omega) h
 simpa using this
def eI(n:Int):List C:=[.int .i64 n]
def eB(n:Int):List C:=[.int .u8 n]
def Rec.e(r:Rec):List C:=[.int .i64 r.k,.int .i64 r.t,.list (r.m.map eI)]
def Log.e(l:Log):List C:=[.list (l.rs.map Rec.e),.int .i64 l.f]
def Hold.e(h:Hold):List C:=[.int .i64 h.m,.int .i64 h.s]
def Stock.e(s:Stock):List C:=[.int .i64 s.room,.list (s.hs.map Hold.e)]
def Word.e(w:Word):List C:=[.int .i64 w.k,.int .i64 w.h,.int .i64 w.t,.int .i64 w.m]
def House.e(h:House):List C:=[.int .i64 h.id,.bool h.up,.int .i64 h.room,.list (h.lg.rs.map Rec.e),.int .i64 h.lg.f]
def Trip.e(t:Trip):List C:=[.list (t.m.map eI),.int .i64 t.s]
def Desk.e(d:Desk):List C:=[.bool d.up,.list (d.lg.rs.map Rec.e),.int .i64 d.lg.f,.list (d.td.map Word.e)]
def Wd.e(w:Wd):List C:=[.bool w.dk.up,.list (w.dk.lg.rs.map Rec.e),.int .i64 w.dk.lg.f,.list (w.dk.td.map Word.e),.list (w.hs.map House.e),.list (w.ns.map Word.e)]
def Ev.e(e:Ev):List C:=[.int .i64 e.k,.int .i64 e.a,.int .i64 e.b,.list (e.m.map eI)]
section
variable {kk:IntKind} {i:Nat} {f:List C->Option Out}
theorem ig{l:List Int}{x:Int}(h:l[i]?=some x):aI (.list (l.map eI)) (.int kk i) [.int .i64] f=f (eI x):=fV h rfl
theorem kZ{l:List Rec}{x:Rec}(h:l[i]?=some x):aI (.list (l.map Rec.e)) (.int kk i) [.int .i64,.int .i64,.list] f=f x.e:=fV h rfl
theorem rD{l:List Hold}{x:Hold}(h:l[i]?=some x):aI (.list (l.map Hold.e)) (.int kk i) [.int .i64,.int .i64] f=f x.e:=fV h rfl
theorem js{l:List Word}{x:Word}(h:l[i]?=some x):aI (.list (l.map Word.e)) (.int kk i) [.int .i64,.int .i64,.int .i64,.int .i64] f=f x.e:=fV h rfl
theorem dS{l:List Trip}{x:Trip}(h:l[i]?=some x):aI (.list (l.map Trip.e)) (.int kk i) [.list,.int .i64] f=f x.e:=fV h rfl
theorem fB{l:List House}{x:House}(h:l[i]?=some x):aI (.list (l.map House.e)) (.int kk i) [.int .i64,.bool,.int .i64,.list,.int .i64] f=f x.e:=fV h rfl
end
end Dx
namespace Dx
open Go
@[simp] theorem aB (t e:Option Out):ae true t e=t:=rfl
@[simp] theorem ay (t e:Option Out):ae false t e=e:=rfl
theorem C3(b:Bool)(t e:Option Out):ae (!b) t e=ae b e t:=by cases b<;>rfl
theorem aP(p:Prop)[Decidable p](t e:Option Out):ae (decide p) t e=if p then t else e:=by by_cases h:p<;>simp[h,ae]
theorem DP(b:Bool)(t e:Option Out):ae b t e=if b=true then t else e:=by cases b<;>rfl
theorem bD(a b:Int)(t e:Option Out):ae (a==b) t e=if a=b then t else e:=by rw[DP];simp
theorem AC(a b:Int)(t e:Option Out):ae (a != b) t e=if a=b then e else t:=by rw[DP];by_cases h:a=b<;>simp[h]
theorem bE{b:Bool}{k:Option Out}(h:b=true):af b k=k:=by subst h;rfl
@[simp] theorem aF (cs:List C):ah (some (.ret cs))=some cs:=rfl
theorem C4(o:Out):ah (some (.up o))=none:=rfl
@[simp] theorem lx (o:Out):upD (some o)=some (.up o):=rfl
theorem eG(p:Prop)[Decidable p](a b:Option Out):ah (if p then a else b)=if p then ah a else ah b:=by split<;>rfl
theorem al{i:Nat}(h:i<=1099511627776):IntKind.wrap .i64 ((i:Int)+1)=((i+1:Nat):Int):=BK h
theorem dK(t:Option Out):cE t t=t:=by unfold cE;rw[if_pos rfl]
theorem pw(x w:Word):(([x.k,x.h,x.t,x.m]:List Int)==[w.k,w.h,w.t,w.m])=decide (x=w):=by
 obtain⟨a,b,c,d⟩:=x;obtain⟨a',b',c',d'⟩:=w
 rw[Bool.eq_iff_iff];simp
theorem DQ(s:Stock):(⟨s.room,s.hs⟩:Stock)=s:=rfl
theorem eta_R(s:Rec):(⟨s.k,s.t,s.m⟩:Rec)=s:=rfl
theorem uH(s:Word):(⟨s.k,s.h,s.t,s.m⟩:Word)=s:=rfl
theorem la(s:Log):(⟨s.rs,s.f⟩:Log)=s:=rfl
theorem lb(s:Desk):(⟨s.up,s.lg,s.td⟩:Desk)=s:=rfl
theorem eta_H(s:House):(⟨s.id,s.up,s.room,s.lg⟩:House)=s:=rfl
theorem eta_T(s:Trip):(⟨s.m,s.s⟩:Trip)=s:=rfl
theorem jB(s:Wd):(⟨s.dk,s.hs,s.ns⟩:Wd)=s:=rfl
theorem JM(s:Ev):(⟨s.k,s.a,s.b,s.m⟩:Ev)=s:=rfl
@[simp] theorem du (k:Option Out):af true k=k:=rfl
theorem BL{p:Prop}[Decidable p](h:p)(k:Option Out):af (decide p) k=k:=by simp[h,af]
theorem de{p q:Prop}[Decidable p][Decidable q](h1:p)(h2:q)(k:Option Out):af (decide p && decide q) k=k:=by simp[h1,h2,af]
@[simp] theorem bc (ps:List C) (k:List C->Option Out):bw (some (.jump ps)) k=k ps:=rfl
theorem fC(p:Prop)[Decidable p](a b:Option Out)(k:List C->Option Out):bw (if p then a else b) k=if p then bw a k else bw b k:=by split<;>rfl
theorem FQ{b:Bool}{k:Option Out}(h:b=true):ah (af b k)=ah k:=by subst h;rfl
theorem le_B{i n:Int}(h1:0<=i)(h2:i<=n):(decide ((0:Int)<=i) && decide (i<=n))=true:=by simp[h1,h2]
theorem lt_B{i n:Int}(h1:0<=i)(h2:i<n):(decide ((0:Int)<=i) && decide (i<n))=true:=by simp[h1,h2]
theorem cg:bf=1099511627776:=rfl
theorem tq(m:List Int):(m.map eI).all (aj [.int .i64])=true:=by simp[List.all_map,eI,aj,gg,fb,Function.comp_def]
theorem oe(m:List Word):(m.map Word.e).all (aj [.int .i64,.int .i64,.int .i64,.int .i64])=true:=by simp[List.all_map,Word.e,aj,gg,fb,Function.comp_def]
theorem FR(m:List Rec):(m.map Rec.e).all (aj [.int .i64,.int .i64,.list])=true:=by simp[List.all_map,Rec.e,aj,gg,fb,Function.comp_def]
theorem dL{α:Type}{e:α->List C}{l:List α}{off j:Nat}{cs:List C}{x y:α}(hx:l[j]?=some x)(hy:wq (e x) off cs=e y):setRow off (l.map e) j cs=(l.set j y).map e:=by
 unfold setRow
 simp only[List.getElem?_map,hx,Option.map_some,hy,List.map_set]
theorem b8(n lo hi:Int):cv [.int .i64 n,.int .i64 lo,.int .i64 hi]=some [.bool (in_ n lo hi)]:=by
 rw[q_gw]
 simp only[F_gw,ge_iff_le,in_]
 cases decide (lo<=n)<;>rfl
theorem ts{l:List Trip}{t:Int}(h1:1<=t)(h2:t<=l.length):l[(t-1).toNat]?=some (tAt l t):=by rw[qf (by omega)];exact List.getElem?_eq_getElem (by omega)
theorem tu{l:List Hold}{t:Int}(h1:1<=t)(h2:t<=l.length):l[(t-1).toNat]?=some (hAt l t):=by rw[uD (by omega)];exact List.getElem?_eq_getElem (by omega)
theorem og{l:List Trip}{t:Int}(h1:1<=t)(h2:t<=l.length){kk:IntKind}{f:List C->Option Out}:aI (.list (l.map Trip.e)) (.int kk (t-1)) [.list,.int .i64] f=f (tAt l t).e :=
 dx (by omega) (ts h1 h2) rfl
theorem DR{l:List Hold}{t:Int}(h1:1<=t)(h2:t<=l.length){kk:IntKind}{f:List C->Option Out}:aI (.list (l.map Hold.e)) (.int kk (t-1)) [.int .i64,.int .i64] f=f (hAt l t).e :=
 dx (by omega) (tu h1 h2) rfl
def zL:=And.intro @List.length_append.{0}<|And.intro @List.length_map.{0,0}<|And.intro @List.length_cons.{0}<|@List.length_nil.{0}
def zS:=And.intro @Bool.and_true<|And.intro @List.length_map.{0,0}<|And.intro @List.length_nil.{0}<|And.intro @List.length_cons.{0}<|@List.nil_append.{0}
def zT:=And.intro zS<|And.intro @C3<|And.intro @aB<|And.intro @ay<|And.intro @DQ<|And.intro @eta_R<|And.intro @uH<|And.intro @la<|And.intro @lb<|And.intro @eta_H<|And.intro @eta_T<|And.intro @jB<|And.intro @JM<|And.intro @cg<|And.intro @du<|And.intro @BL<|And.intro @de<|And.intro @tq<|And.intro @oe<|And.intro @FR<|And.intro @aF<|And.intro @C4<|And.intro @lx<|And.intro @FQ<|And.intro @bc<|And.intro @AB<|And.intro @nt<|And.intro @cd_i<|And.intro @IT<|And.intro @cd_bb<|And.intro @IU<|And.intro @cd_il<|And.intro @JH<|And.intro @JI<|And.intro @JJ<|And.intro @JK<|And.intro @JL<|And.intro @tp<|And.intro @jb<|And.intro @kY<|And.intro @bO<|And.intro @C1<|And.intro @yy<|And.intro @C2<|And.intro @lQ<|And.intro @rT<|And.intro @qj<|And.intro @nA<|And.intro @qk<|And.intro @C.toInt_int<|And.intro @C.toBool_bool<|And.intro @C.toList_list<|@C.toStr_str
def zU:=And.intro @bD<|And.intro @AC<|And.intro @aP<|And.intro @eG<|@fC
theorem vT{l:List Trip}(hl:l.length<=1099511627776){k t:Int}{m:List Int}(hr:aL ⟨k,t,m⟩=true) :
  qK [.list (l.map Trip.e),.int .i64 k,.int .i64 t,.list (m.map eI)]=some [.bool (cG l ⟨k,t,m⟩)]:=by
 have ht:=cU hr
 simp only at ht
 rw[q_ga]
 simp (disch:=first|assumption|omega|(simp only[zL];omega)) only[F_ga,cG,wrap64,Int.reduceEq,reduceIte,zU,zT,aa]
 split
 ·rfl
 ·split
  ·rfl
  ·simp (disch:=first|assumption|omega|(simp only[zL];omega)) only[og,Trip.e,Int.reduceEq,reduceIte,zU,zT,aa]
   grind
theorem FS{l:List Trip}(hl:l.length<=1099511627775){k t:Int}{m:List Int}(hr:aL ⟨k,t,m⟩=true)(hm:cG l ⟨k,t,m⟩=true)(hT:TrOk l) :
  dC [.list (l.map Trip.e),.int .i64 k,.int .i64 t,.list (m.map eI)]=some [.list ((cQ l ⟨k,t,m⟩).map Trip.e)]:=by
 have ht:=cU hr
 have hml:=fN hr
 simp only at ht hml
 rw[sT]
 rcases kU hr hm with ⟨h4,h⟩|⟨h1,h2,h⟩
 ·simp only at h4;subst h4
  have c1:decide (([]:List (List C)).length+(m.map eI).length<=bf)=true:=by simp[cg];omega
  have c2:decide ((l.map Trip.e).length+[[C.list (m.map eI),C.int .i64 1]].length<=bf)=true:=by simp[cg];omega
  simp only[gP,cQ,bD,if_true,bE (tq m),bE c1,List.nil_append,bE c2]
  simp[aF,Trip.e]
 ·simp only at h1 h2 h
  have hx:=ts h1 h2
  have hw:IntKind.wrap .i64 (t-1)=t-1:=wrap64 (by omega) (by omega)
  have hb:(decide ((0:Int)<=t-1) && decide (t-1<((l.map Trip.e).length:Nat)))=true:=lt_B (by omega) (by simp;omega)
  have st:∀ s:Int,setRow 1 (l.map Trip.e) (t-1).toNat [C.int .i64 s]=(l.set (t-1).toNat ⟨(tAt l t).m,s⟩).map Trip.e:=fun s=>dL hx rfl
  simp only[gP,hw,cQ,bD,bE hb,og h1 h2,Trip.e,aa,C.toInt,st]
  rcases h with ⟨h|h,_⟩|⟨h,hs⟩
  ·subst h;rfl
  ·subst h;rfl
  ·subst h;rw[wrap64 (by omega) (by omega)];rfl
end Dx
namespace Dx
open Go
theorem C5(m:List Int)(hL:m.length<=1099511627776):w8 [.list (m.map eI)]=some [.bool (cZ m)]:=by
 rw[q_gf];unfold F_gf
 have key:=ar (l:=m) (F:=fun ps=>tX (m.map eI) ((aa ps 0).toInt) ((aa ps 1).toInt)) (enc:=fun i (s:Int)=>[.int .i64 s,.int .i64 i])
  (res:=fun xs _ s=>.ret [.bool (xs.all (fun n=>in_ n 0 3) && (m.length==3 && decide (s+xs.sum>0)))]) (fun i s=>0<=s/\s<=3*i) (s:=0) (by simp) ?_ ?_
 ·have key:aJ _ [C.int .i64 0,C.int .i64 0]=_:=key
  rw[key];simp[ah,cZ]
 ·intro i x xs s hx ⟨h1,h2⟩
  have hi:=(List.getElem?_eq_some_iff.1 hx).1
  have hi':(i:Int)<(m.length:Nat):=by omega
  simp (disch:=first|assumption|omega|(simp only[zL];omega)) only[tX,ig hx,b8,eI,al,hi',if_true,Int.reduceEq,reduceIte,zU,zT,aa]
  cases hin:in_ x 0 3 with
  | true =>
   have:=in_iff.1 hin
   refine .inl ⟨s+x,?_,by omega,by simp[hin,Int.add_assoc]⟩
   simp (disch:=first|assumption|omega|(simp only[zL];omega)) only[aB,wrap64]
  | false=>exact .inr ⟨_,rfl,by simp[hin]⟩
 ·intro s _
  have h:¬ ((m.length:Int)<(m.length:Nat)):=by omega
  simp only[tX,h,if_false,Int.reduceEq,reduceIte,zU,zT,aa]
  by_cases h3:m.length=3
  ·have h3':((m.length:Nat):Int)=3:=by omega
   simp[h3,upD]
  ·have h3':¬ ((m.length:Nat):Int)=3:=by omega
   simp[h3,h3',upD]
theorem ol{k t:Int}{m:List Int}(hL:m.length<=1099511627776):jP [.int .i64 k,.int .i64 t,.list (m.map eI)]=some [.bool (aL ⟨k,t,m⟩)]:=by
 rw[q_gm]
 simp (disch:=first|assumption|omega|(simp only[zL];omega)) only[F_gm,b8,C5,aL,Int.reduceEq,reduceIte,zU,zT,aa]
 cases in_ t 1 6 with
 | false=>rfl
 | true =>
  simp only[Bool.true_and]
  by_cases h1:k=1
  ·simp only[h1,if_true]
   match m with
   | []=>rfl
   | [n]=>have hr:∀ f,aI (.list ([n].map eI)) (.int .i64 0) [.int .i64] f=f (eI n):=fun f=>rfl
          simp (disch:=first|assumption|omega|(simp only[zL];omega)) only[hr,eI,b8,Int.reduceEq,reduceIte,zU,zT,aa];rfl
   | a::b::l=>have:¬ ((((a::b::l).length:Nat):Int)=1):=by simp;omega
              simp only[List.length_map,this,if_false];rfl
  ·by_cases h4:k=4
   ·simp[h4,ah]
   ·simp only[h1,h4,if_false]
    cases in_ k 2 7 with
    | false=>rfl
    | true=>cases m with
     | nil=>rfl
     | cons a l=>simp;omega
theorem AD{rs:List Rec}{f k t:Int}{m:List Int}(hL:rs.length<=1099511627775) :
  qL [.list (rs.map Rec.e),.int .i64 f,.int .i64 k,.int .i64 t,.list (m.map eI)]=some [.list ((dJ ⟨rs,f⟩ ⟨k,t,m⟩).rs.map Rec.e),.int .i64 f,.bool (nO ⟨rs,f⟩)]:=by
 rw[q_gk]
 simp (disch:=first|assumption|omega|(simp only[zL];omega)) only[F_gk,dJ,nO,Int.reduceEq,reduceIte,zU,zT,aa]
 by_cases h:rs.length>=40
 ·have h':((rs.length:Nat):Int)>=40:=by omega
  simp only[h,h',if_true];simp
 ·have h':¬ (((rs.length:Nat):Int)>=40):=by omega
  simp only[h,h',if_false];simp[Rec.e]
theorem AE{rs:List Rec}(hL:rs.length<=2000000)(hm:∀ r∈rs,r.m.length<=1099511627776) :
  mE [.list (rs.map Rec.e)]=some [.list (((bj rs).getD []).map Trip.e),.bool (bj rs).isSome]:=by
 rw[q_gu];unfold F_gu
 have key:=ar (l:=rs) (F:=fun ps=>tY (rs.map Rec.e) ((aa ps 0).toInt) ((aa ps 1).toList)) (enc:=fun i (s:List Trip)=>[.int .i64 i,.list (s.map Trip.e)])
  (res:=fun xs _ s=>.ret [.list (((cj xs s).getD []).map Trip.e),.bool (cj xs s).isSome]) (fun _ s=>TrOk s) (s:=[]) TrOk.nil ?_ ?_
 ·have key:aJ _ [C.int .i64 0,C.list []]=_:=key
  rw[key];rfl
 ·intro i x xs s hx hs
  have hi:=(List.getElem?_eq_some_iff.1 hx).1
  have hi':(i:Int)<(rs.length:Nat):=by omega
  have hxm:=hm x (List.mem_of_getElem? hx)
  have hsl:=hs.len
  simp (disch:=first|assumption|omega|(simp only[zL];omega)) only[tY,kZ hx,Rec.e,ol,al,hi',if_true,Int.reduceEq,reduceIte,zU,zT,aa]
  cases hr:aL ⟨x.k,x.t,x.m⟩with
  | false=>exact .inr ⟨_,rfl,by simp[cj,hr]⟩
  | true =>
   simp (disch:=first|assumption|omega|(simp only[zL];omega)) only[vT,Int.reduceEq,reduceIte,zU,zT,aa]
   cases hmay:cG s ⟨x.k,x.t,x.m⟩with
   | false=>exact .inr ⟨_,rfl,by simp[cj,hr,hmay]⟩
   | true =>
    simp (disch:=first|assumption|omega|(simp only[zL];omega)) only[FS,Int.reduceEq,reduceIte,zU,zT,aa]
    exact .inl ⟨cQ s x,rfl,nQ hs hr hmay,by simp[cj,hr,hmay]⟩
 ·intro s _
  have h:¬ ((rs.length:Int)<(rs.length:Nat)):=by omega
  simp only[tY,h,if_false,Int.reduceEq,reduceIte,zU,zT,aa]
  rfl
def LgS(l:Log):Prop:=l.rs.length<=2000000/\∀ r∈l.rs,r.m.length<=1099511627776
theorem LgOk.S{l:Log}(h:LgOk l):LgS l:=⟨by have:=h.len;omega,fun r hr=>by have:=fN (h.ok r hr);omega⟩
theorem om{up:Bool}{rs:List Rec}{f:Int}{b:Bool}(hl:LgS ⟨rs,f⟩)(hf:b=true->0<=f/\f<=rs.length){tl:List (List C)} :
  ff [.bool up,.list (rs.map Rec.e),.int .i64 f,.list tl,.bool b]=some [.list ((ai ⟨rs,f⟩ b).map Trip.e)]:=by
 rw[q_ea]
 have ht:∀ n:Nat,(rs.map Rec.e).take n=(rs.take n).map Rec.e:=fun n=>by simp
 have h1:∀ n:Nat,mE [.list ((rs.take n).map Rec.e)]=_:=fun n=>AE (by simp;have:=hl.1;simp only at this;omega) (fun r hr=>hl.2 r (List.mem_of_mem_take hr))
 cases b with
 | true =>
  obtain⟨h2,h3⟩:=hf rfl
  simp only[F_ea,List.length_map,bE (le_B h2 h3),ht,h1,ai,aW]
  simp (disch:=first|assumption|omega|(simp only[zL];omega)) only[Int.reduceEq,reduceIte,zU,zT,aa]
 | false =>
  have h2:(0:Int)<=(rs.length:Nat):=by omega
  simp only[F_ea,List.length_map,bE (le_B h2 (Int.le_refl _)),ht,h1,ai,aW]
  simp (disch:=first|assumption|omega|(simp only[zL];omega)) only[Int.reduceEq,reduceIte,zU,zT,aa]
  simp only[Bool.false_eq_true,if_false,List.take_length,Int.toNat_natCast]
theorem jc{up:Bool}{rs:List Rec}{f:Int}(hl:LgS ⟨rs,f⟩){tl:List (List C)} :
  ff [.bool up,.list (rs.map Rec.e),.int .i64 f,.list tl,.bool false]=some [.list ((ai ⟨rs,f⟩ false).map Trip.e)]:=om hl (fun h=>by cases h)
theorem vU{up:Bool}{rs:List Rec}{f:Int}(hl:LgOk ⟨rs,f⟩){tl:List (List C)} :
  ff [.bool up,.list (rs.map Rec.e),.int .i64 f,.list tl,.bool true]=some [.list ((ai ⟨rs,f⟩ true).map Trip.e)]:=om hl.S (fun _=>⟨hl.lo,hl.hi⟩)
theorem fP{up:Bool}{rs:List Rec}{f:Int}{td:List Word}(hd:DkOk ⟨up,⟨rs,f⟩,td⟩){k t:Int}{m:List Int}(hr:aL ⟨k,t,m⟩=true) :
  ec [.bool up,.list (rs.map Rec.e),.int .i64 f,.list (td.map Word.e),.int .i64 k,.int .i64 t,.list (m.map eI)]=some ((bh ⟨up,⟨rs,f⟩,td⟩ ⟨k,t,m⟩).e++[.bool (eS ⟨up,⟨rs,f⟩,td⟩ ⟨k,t,m⟩)]):=by
 rw[q_dm]
 have h1:=hd.lg.S
 have h2:=hd.trOk false
 have hl2:=h2.len
 have h3:=hd.lg.len
 simp only[ak]at h2 hl2 h3
 simp (disch:=first|assumption|omega|(simp only[zL];omega)) only[F_dm,jc,vT,AD,bh,eS,ak,Int.reduceEq,reduceIte,zU,zT,aa]
 cases up with
 | false=>rfl
 | true =>
  simp only[Bool.true_and]
  cases cG (ai ⟨rs,f⟩ false) ⟨k,t,m⟩with
  | false=>rfl
  | true=>simp only[dJ,nO];by_cases h:rs.length>=40<;>simp[h,Desk.e,aF]
theorem gy{td:List Word}(hL:td.length<=1099511627775){k h t m:Int} :
  iB [.list (td.map Word.e),.int .i64 k,.int .i64 h,.int .i64 t,.int .i64 m]=some [.bool (td.contains ⟨k,h,t,m⟩)]:=by
 rw[q_eo];unfold F_eo
 have key:=ar (l:=td) (F:=fun ps=>tZ (td.map Word.e) k h t m ((aa ps 0).toInt)) (enc:=fun i (_:Unit)=>[.int .i64 i])
  (res:=fun xs _ _=>.ret [.bool (xs.contains ⟨k,h,t,m⟩)]) (fun _ _=>True) (s:=()) trivial ?_ ?_
 ·have key:aJ _ [C.int .i64 0]=_:=key
  rw[key];rfl
 ·intro i x xs s hx _
  have hi:=(List.getElem?_eq_some_iff.1 hx).1
  have hi':(i:Int)<(td.length:Nat):=by omega
  have hw:=pw x ⟨k,h,t,m⟩
  simp only at hw
  simp (disch:=first|assumption|omega|(simp only[zL];omega)) only[tZ,js hx,Word.e,al,hi',if_true,hw,Int.reduceEq,reduceIte,zU,zT,aa]
  by_cases e:x=⟨k,h,t,m⟩
  ·exact .inr ⟨_,by rw[if_pos e],by simp[e]⟩
  ·exact .inl ⟨(),by rw[if_neg e],trivial,by simp[Ne.symm e]⟩
 ·intro s _
  have h:¬ ((td.length:Int)<(td.length:Nat)):=by omega
  simp only[tZ,h,if_false,Int.reduceEq,reduceIte,zU,zT,aa]
  rfl
theorem lc{k h t m:Int}:jQ [.int .i64 k,.int .i64 h,.int .i64 t,.int .i64 m]=some [.bool (bG ⟨k,h,t,m⟩)]:=by
 rw[q_fv]
 simp (disch:=first|assumption|omega|(simp only[zL];omega)) only[F_fv,b8,bG,Int.reduceEq,reduceIte,zU,zT,aa]
 cases in_ h 1 3<;>cases in_ t 1 6<;>cases in_ k 1 7<;>simp only[aB,ay,Bool.true_and,Bool.false_and,aF]
 split<;>rfl
theorem C6{up:Bool}{rs:List (List C)}{f:Int}{td:List Word}(hL:td.length<=1099511627775){t k:Int}{m:List Int}(hm:m.length<=1000) :
  xa [.bool up,.list rs,.int .i64 f,.list (td.map Word.e),.int .i64 t,.list (m.map eI),.int .i64 k]=some [.bool (br td t k 1 m)]:=by
 rw[q_gd];unfold F_gd
 have key:=ar (l:=m) (F:=fun ps=>t8 (td.map Word.e) t (m.map eI) k ((aa ps 0).toInt)) (enc:=fun i (_:Unit)=>[.int .i64 i])
  (res:=fun xs i _=>.ret [.bool (br td t k ((i+1:Nat):Int) xs)]) (fun _ _=>True) (s:=()) trivial ?_ ?_
 ·have key:aJ _ [C.int .i64 0]=_:=key
  rw[key];rfl
 ·intro i x xs s hx _
  have hi:=(List.getElem?_eq_some_iff.1 hx).1
  have hi':(i:Int)<(m.length:Nat):=by omega
  simp (disch:=first|assumption|omega|(simp only[zL];omega)) only[t8,ig hx,eI,al,hi',if_true,gy,Int.reduceEq,reduceIte,zU,zT,aa]
  have e1:((i+1:Nat):Int)+1=((i+1+1:Nat):Int):=by omega
  by_cases hx0:x>0
  ·simp only[hx0,if_true]
   cases hc:td.contains ⟨k,((i+1:Nat):Int),t,0⟩with
   | true=>exact .inr ⟨_,rfl,by simp only[br,hx0,hc,decide_true,Bool.and_self,Bool.true_or]⟩
   | false=>exact .inl ⟨(),rfl,trivial,by simp only[br,hx0,hc,e1,Bool.and_false,Bool.false_or]⟩
  ·simp only[hx0,if_false]
   exact .inl ⟨(),by first|rfl|trivial,trivial,by simp only[br,hx0,e1,decide_false,Bool.false_and,Bool.false_or]⟩
 ·intro s _
  have h:¬ ((m.length:Int)<(m.length:Nat)):=by omega
  simp only[t8,h,if_false,Int.reduceEq,reduceIte,zU,zT,aa]
  rfl
theorem py{up:Bool}{rs:List (List C)}{f:Int}{td:List Word}(hL:td.length<=1099511627775){t k:Int}{m:List Int}(hm:m.length<=1000) :
  mG [.bool up,.list rs,.int .i64 f,.list (td.map Word.e),.int .i64 t,.list (m.map eI),.int .i64 k]=some [.bool (aH td t k 1 m)]:=by
 rw[q_fq];unfold F_fq
 have key:=ar (l:=m) (F:=fun ps=>t9 (td.map Word.e) t (m.map eI) k ((aa ps 0).toInt)) (enc:=fun i (_:Unit)=>[.int .i64 i])
  (res:=fun xs i _=>.ret [.bool (aH td t k ((i+1:Nat):Int) xs)]) (fun _ _=>True) (s:=()) trivial ?_ ?_
 ·have key:aJ _ [C.int .i64 0]=_:=key
  rw[key];rfl
 ·intro i x xs s hx _
  have hi:=(List.getElem?_eq_some_iff.1 hx).1
  have hi':(i:Int)<(m.length:Nat):=by omega
  simp (disch:=first|assumption|omega|(simp only[zL];omega)) only[t9,ig hx,eI,al,hi',if_true,gy,Int.reduceEq,reduceIte,zU,zT,aa]
  have e1:((i+1:Nat):Int)+1=((i+1+1:Nat):Int):=by omega
  by_cases hx0:x>0
  ·simp only[hx0,if_true]
   cases hc:td.contains ⟨k,((i+1:Nat):Int),t,0⟩with
   | true=>exact .inl ⟨(),rfl,trivial,by simp only[aH,hx0,hc,e1,Bool.or_true,Bool.true_and]⟩
   | false=>exact .inr ⟨_,rfl,by simp only[aH,hx0,hc,decide_true,Bool.not_true,Bool.or_self,Bool.false_and]⟩
  ·simp only[hx0,if_false]
   exact .inl ⟨(),by first|rfl|trivial,trivial,by simp only[aH,hx0,e1,decide_false,Bool.not_false,Bool.true_or,Bool.true_and]⟩
 ·intro s _
  have h:¬ ((m.length:Int)<(m.length:Nat)):=by omega
  simp only[t9,h,if_false,Int.reduceEq,reduceIte,zU,zT,aa]
  rfl
end Dx
namespace Dx
open Go
theorem oo{room:Int}:qI [.int .i64 room]=some ((if in_ room 0 9 then cq room else⟨0,[]⟩).e++[.bool (in_ room 0 9)]):=by
 rw[q_dl]
 simp (disch:=first|assumption|omega|(simp only[zL];omega)) only[F_dl,b8,Int.reduceEq,reduceIte,zU,zT,aa]
 cases in_ room 0 9<;>rfl
theorem vV{h:Hold}(ho:bz h=true):0<=had h/\had h<=3/\(h.s=1\/h.s=2->had h=h.m)/\0<=h.m/\h.m<=3:=by
 unfold bz at ho
 unfold had
 split at ho
 ·rename_i e;simp at ho;simp[e];omega
 ·split at ho
  ·rename_i e;have h1:=in_iff.1 ho;simp only[e,if_true];exact⟨by omega,by omega,by simp,by omega,by omega⟩
  ·rename_i e;simp only[e,if_false]
   split at ho
   ·have h1:=in_iff.1 ho;exact⟨by omega,by omega,by simp,by omega,by omega⟩
   ·cases ho
theorem C7{room:Int}{hs:List Hold}(hr:0<=room/\room<=9)(ho:∀ h∈hs,bz h=true)(hl:hs.length<=100) :
  xc [.int .i64 room,.list (hs.map Hold.e)]=some [.int .i64 (free ⟨room,hs⟩)]:=by
 rw[q_gh];unfold F_gh
 have key:=ar (l:=hs) (F:=fun ps=>uc (hs.map Hold.e) ((aa ps 0).toInt) ((aa ps 1).toInt)) (enc:=fun i (s:Int)=>[.int .i64 s,.int .i64 i])
  (res:=fun xs _ s=>.ret [.int .i64 (s-(xs.map had).sum)]) (fun i s=>room-3*i<=s/\s<=room) (s:=room) (by simp) ?_ ?_
 ·have key:aJ _ [C.int .i64 room,C.int .i64 0]=_:=key
  rw[key];rfl
 ·intro i x xs s hx ⟨h1,h2⟩
  have hi:=(List.getElem?_eq_some_iff.1 hx).1
  have hi':(i:Int)<(hs.length:Nat):=by omega
  have hm:=vV (ho x (List.mem_of_getElem? hx))
  simp (disch:=first|assumption|omega|(simp only[zL];omega)) only[uc,rD hx,Hold.e,al,hi',if_true,wrap64,Int.reduceEq,reduceIte,zU,zT,aa]
  refine .inl ⟨s-had x,?_,by omega,by simp[Int.sub_sub]⟩
  unfold had
  by_cases e1:x.s=1
  ·simp[e1]
  ·by_cases e2:x.s=2<;>simp[e1,e2]
 ·intro s _
  have h:¬ ((hs.length:Int)<(hs.length:Nat)):=by omega
  simp only[uc,h,if_false,Int.reduceEq,reduceIte,zU,zT,aa]
  simp
theorem FT{n:Int}{f:List C->Option Out}:aI (.list ([n].map eI)) (.int .i64 0) [.int .i64] f=f (eI n):=rfl
theorem AF{room:Int}{hs:List Hold}(ho:StOk ⟨room,hs⟩){k t:Int}{m:List Int}(hr:aL ⟨k,t,m⟩=true) :
  qM [.int .i64 room,.list (hs.map Hold.e),.int .i64 k,.int .i64 t,.list (m.map eI)]=some [.bool (may ⟨room,hs⟩ ⟨k,t,m⟩)]:=by
 have ht:=cU hr
 have hl:=ho.len
 simp only at ht hl
 rw[q_gn]
 simp (disch:=first|assumption|omega|(simp only[zL];omega)) only[F_gn,wrap64,DR,Hold.e,may,fe,C7 ho.room ho.hold (show hs.length<=100 by omega),Int.reduceEq,reduceIte,zU,zT,aa]
 by_cases h1:k=1
 ·obtain⟨n,e,_⟩:=el hr h1
  simp only at e;subst e
  simp only[h1,if_true,FT,eI,Int.reduceEq,reduceIte,zU,zT,aa]
  by_cases h0:(hAt hs t).s=0<;>simp[h0,aF]
 ·by_cases h2:k=2
  ·simp[h2,aF]
  ·by_cases h3:k=3
   ·by_cases h0:(hAt hs t).s=1<;>simp[h3,h0,aF]
   ·simp[h1,h2,h3,aF]
theorem JN{room:Int}{hs:List Hold}(ho:StOk ⟨room,hs⟩){k t:Int}{m:List Int}(hr:aL ⟨k,t,m⟩=true) :
  dU [.int .i64 room,.list (hs.map Hold.e),.int .i64 k,.int .i64 t,.list (m.map eI)]=some (act ⟨room,hs⟩ ⟨k,t,m⟩).e:=by
 have ht:=cU hr
 have hl:=ho.len
 simp only at ht hl
 have hx:=tu (l:=hs) ht.1 (by omega)
 have st:∀ a b:Int,setRow 0 (hs.map Hold.e) (t-1).toNat [C.int .i64 a,C.int .i64 b]=(hs.set (t-1).toNat ⟨a,b⟩).map Hold.e:=fun a b=>dL hx rfl
 rw[vh]
 simp (disch:=first|assumption|omega|(simp only[zL];omega)) only[l7,wrap64,DR,Hold.e,act,i7,st,Int.reduceEq,reduceIte,zU,zT,aa]
 by_cases h1:k=1
 ·obtain⟨n,e,_⟩:=el hr h1
  simp only at e;subst e
  simp only[h1,if_true,FT,eI,Int.reduceEq,reduceIte,zU,zT,aa]
  rfl
 ·by_cases h2:k=2
  ·simp only[h2,if_true];rfl
  ·by_cases h3:k=3
   ·simp only[h3,if_true];rfl
   ·simp only[h1,h2,h3,if_false];rfl
theorem DS{room:Int}{rs:List Rec}(hL:rs.length<=2000000)(hm:∀ r∈rs,r.m.length<=1099511627776) :
  mH [.int .i64 room,.list (rs.map Rec.e)]=some (((co room rs).getD ⟨0,[]⟩).e++[.bool (co room rs).isSome]):=by
 rw[q_gv]
 simp (disch:=first|assumption|omega|(simp only[zL];omega)) only[F_gv,oo,Stock.e,List.cons_append,Int.reduceEq,reduceIte,zU,zT,aa]
 cases hr:in_ room 0 9 with
 | false=>simp[co,hr,aF]
 | true =>
  simp only[if_true]
  have key:=ar (l:=rs) (F:=fun ps=>ud (rs.map Rec.e) ((aa ps 0).toInt) ((aa ps 1).toInt) ((aa ps 2).toList)) (enc:=fun i (s:Stock)=>[.int .i64 i,.int .i64 s.room,.list (s.hs.map Hold.e)])
   (res:=fun xs _ s=>.ret (((b9 xs s).getD ⟨0,[]⟩).e++[.bool (b9 xs s).isSome])) (fun _ s=>StOk s) (s:=cq room) (fZ (in_iff.1 hr)) ?_ ?_
  ·have key:aJ _ [C.int .i64 0,C.int .i64 (cq room).room,C.list ((cq room).hs.map Hold.e)]=_:=key
   rw[key];simp[co,hr,aF,Stock.e]
  ·intro i x xs s hx hs
   have hi:=(List.getElem?_eq_some_iff.1 hx).1
   have hi':(i:Int)<(rs.length:Nat):=by omega
   have hxm:=hm x (List.mem_of_getElem? hx)
   simp (disch:=first|assumption|omega|(simp only[zL];omega)) only[ud,kZ hx,Rec.e,ol,al,hi',if_true,Int.reduceEq,reduceIte,zU,zT,aa]
   cases hr:aL x with
   | false=>exact .inr ⟨_,rfl,by simp[b9,hr];rfl⟩
   | true =>
    have hs':StOk ⟨s.room,s.hs⟩:=hs
    have hr':aL ⟨x.k,x.t,x.m⟩=true:=hr
    simp (disch:=first|assumption|omega|(simp only[zL];omega)) only[AF,Int.reduceEq,reduceIte,zU,zT,aa]
    cases hmay:may s x with
    | false=>exact .inr ⟨_,rfl,by simp[b9,hr,hmay];rfl⟩
    | true =>
     simp (disch:=first|assumption|omega|(simp only[zL];omega)) only[JN,Stock.e,Int.reduceEq,reduceIte,zU,zT,aa]
     exact .inl ⟨act s x,rfl,qe hs hr hmay,by simp[b9,hr,hmay]⟩
  ·intro s _
   have h:¬ ((rs.length:Int)<(rs.length:Nat)):=by omega
   simp only[ud,h,if_false,Int.reduceEq,reduceIte,zU,zT,aa]
   rfl
theorem yz{id room f:Int}{up b:Bool}{rs:List Rec}(ho:LgOk ⟨rs,f⟩) :
  qN [.int .i64 id,.bool up,.int .i64 room,.list (rs.map Rec.e),.int .i64 f,.bool b]=some (am ⟨id,up,room,⟨rs,f⟩⟩ b).e:=by
 rw[q_dt]
 have hl:=ho.S
 have h2:=ho.lo
 have h3:=ho.hi
 simp only at h2 h3
 have ht:∀ n:Nat,(rs.map Rec.e).take n=(rs.take n).map Rec.e:=fun n=>by simp
 have h1:∀ n:Nat,mH [.int .i64 room,.list ((rs.take n).map Rec.e)]=_:=fun n=>DS (by simp;have:=hl.1;simp only at this;omega) (fun r hr=>hl.2 r (List.mem_of_mem_take hr))
 cases b with
 | true =>
  simp (disch:=first|assumption|omega|(simp only[zL];omega)) only[F_dt,ht,h1,am,aW,Stock.e,List.cons_append,if_true,Int.reduceEq,reduceIte,zU,zT,aa]
 | false =>
  simp (disch:=first|assumption|omega|(simp only[zL];omega)) only[F_dt,ht,h1,am,aW,Stock.e,List.cons_append,Int.reduceEq,reduceIte,zU,zT,aa]
  simp
theorem C8{k h t m:Int}:xd [.int .i64 k,.int .i64 h,.int .i64 t,.int .i64 m]=some (bI ⟨k,h,t,m⟩).e:=by
 rw[q_fw]
 simp (disch:=first|assumption|omega|(simp only[zL];omega)) only[F_fw,bI,Int.reduceEq,reduceIte,zU,zT,aa]
 split
 ·rfl
 ·split<;>rfl
theorem z2(l:Log)(r:Rec):(dJ l r).f=l.f:=by unfold dJ;split<;>rfl
def oW(o:Option Word):Word:=o.getD ⟨0,0,0,0⟩
theorem vp{id room f:Int}{up:Bool}{rs:List (List C)}{k h t m st:Int} :
  ue [.int .i64 id,.bool up,.int .i64 room,.list rs,.int .i64 f,.int .i64 k,.int .i64 h,.int .i64 t,.int .i64 m,.int .i64 st]=some ((oW (answer id ⟨k,h,t,m⟩ st)).e++[.bool (answer id ⟨k,h,t,m⟩ st).isSome]):=by
 rw[q_dd]
 by_cases h1:k=1
 ·subst h1
  by_cases s1:st=1
  ·subst s1;rfl
  ·by_cases s2:st=2
   ·subst s2;rfl
   ·by_cases s3:st=3
    ·subst s3;rfl
    ·simp[Fx,pW,pX,answer,s1,s2,s3,bD,aB,ay,bc,fC,C.toBool_bool,aa,aF,oW,Word.e]
 ·by_cases h2:k=2
  ·subst h2
   by_cases s2:st=2
   ·subst s2;rfl
   ·simp[Fx,pW,pX,answer,s2,bD,aB,ay,bc,fC,C.toBool_bool,aa,aF,oW,Word.e]
  ·by_cases h3:k=3
   ·subst h3
    by_cases s3:st=3
    ·subst s3;rfl
    ·simp[Fx,pW,pX,answer,s3,bD,aB,ay,bc,fC,C.toBool_bool,aa,aF,oW,Word.e]
   ·simp[Fx,pW,pX,answer,h1,h2,h3,bD,aB,ay,bc,fC,C.toBool_bool,aa,aF,oW,Word.e]
theorem BM{id room f:Int}{up:Bool}{rs:List Rec}(ho:HsOk ⟨id,up,room,⟨rs,f⟩⟩){k h t m:Int} :
  xe [.int .i64 id,.bool up,.int .i64 room,.list (rs.map Rec.e),.int .i64 f,.int .i64 k,.int .i64 h,.int .i64 t,.int .i64 m] =
   some ((hhear ⟨id,up,room,⟨rs,f⟩⟩ ⟨k,h,t,m⟩).1.e++((oW (hhear ⟨id,up,room,⟨rs,f⟩⟩ ⟨k,h,t,m⟩).2).e++[.bool (hhear ⟨id,up,room,⟨rs,f⟩⟩ ⟨k,h,t,m⟩).2.isSome])):=by
 rw[q_fg]
 have hlg:LgOk ⟨rs,f⟩:=ho.lg
 have hlen:rs.length<=40:=ho.lg.len
 have sA:=ho.stOk false
 have sF:=ho.stOk true
 have lA:=sA.len
 have lF:=sF.len
 simp (disch:=first|assumption|omega|(simp only[zL];omega)) only[F_fg,lc,hhear,Int.reduceEq,reduceIte,zU,zT,aa]
 cases up with
 | false=>rfl
 | true =>
  cases hw:bG ⟨k,h,t,m⟩with
  | false=>rfl
  | true =>
   have wok:=wordOk_iff.1 hw
   have wt:=wok.t
   simp only at wt
   have hr:=cW wok
   have sA':StOk ⟨(am ⟨id,true,room,⟨rs,f⟩⟩ false).room,(am ⟨id,true,room,⟨rs,f⟩⟩ false).hs⟩:=sA
   have hr':aL ⟨(bI ⟨k,h,t,m⟩).k,(bI ⟨k,h,t,m⟩).t,(bI ⟨k,h,t,m⟩).m⟩=true:=hr
   simp (disch:=first|assumption|omega|(simp only[zL];omega)) only[yz,C8,Stock.e,Rec.e,AF,AD,vp,DR,wrap64,Hold.e,Word.e,List.cons_append,Int.reduceEq,reduceIte,zU,zT,aa]
   by_cases e1:h=id
   ·by_cases e2:k>3
    ·simp[e1,e2,aF,House.e,oW,Word.e]
    ·simp only[e1,e2,if_true,if_false,fe]
     cases may (am ⟨id,true,room,⟨rs,f⟩⟩ false) (bI ⟨k,id,t,m⟩)with
     | true=>simp[aF,House.e,oW,Word.e,z2]
     | false =>
      by_cases e3:k=1
      ·by_cases e4:(hAt (am ⟨id,true,room,⟨rs,f⟩⟩ false).hs t).s=0
       ·simp[e3,e4,aF,House.e,oW,Word.e]
       ·simp[e3,e4,aF,House.e,oW,Word.e]
      ·simp[e3,aF,House.e,oW,Word.e]
   ·simp[e1,aF,House.e,oW,Word.e]
end Dx
namespace Dx
open Go
def na(s:Int)(sure:Bool)(td:List Word)(t:Int)(m:List Int):Int :=
 if s=1/\br td t 5 1 m then 6
 else if s=1/\aH td t 4 1 m then 5
 else if s=2/\sure/\aH td t 6 1 m then 7
 else if s=3/\sure/\aH td t 7 1 m then 7
 else 0
theorem C9(d:Desk)(t:Int):gw d t=na (tAt (ak d false) t).s (mS d t) d.td t (tAt (ak d false) t).m:=rfl
section
variable {up:Bool} {rs:List Rec} {f:Int} {td:List Word} {t:Int} {m:List Int} {s:Int} {b:Bool}
theorem jD0(hL:td.length<=1099511627775)(hm:m.length<=1000){d5 d7:Desk}{b5 b7:Bool}
  (w5:ec [.bool up,.list (rs.map Rec.e),.int .i64 f,.list (td.map Word.e),.int .i64 5,.int .i64 t,.list []]=some (d5.e++[.bool b5]))
  (w7:ec [.bool up,.list (rs.map Rec.e),.int .i64 f,.list (td.map Word.e),.int .i64 7,.int .i64 t,.list []]=some (d7.e++[.bool b7])) (c:Bool) :
  ah (zg up (rs.map Rec.e) f (td.map Word.e) t (m.map eI) s b c)=some (if c then d5 else if s=2/\b/\aH td t 6 1 m then d7 else if s=3/\b/\aH td t 7 1 m then d7 else⟨up,⟨rs,f⟩,td⟩).e:=by
 simp only[Desk.e,List.cons_append,List.nil_append]at w5 w7
 unfold zg
 cases c with
 | true=>simp only[aB,w5,jb,aF,aa,C.toInt_int,C.toBool_bool,C.toList_list,if_true];rfl
 | false =>
  simp only[ay,bD,Bool.false_eq_true,if_false]
  by_cases h2:s=2
  ·subst h2
   simp (disch:=first|assumption|omega|(simp only[zL];omega)) only[if_true,py,w7,nt,jb,aa,C.toInt_int,C.toBool_bool,C.toList_list]
   cases b<;>cases aH td t 6 1 m<;>simp[Desk.e]
  ·simp only[h2,if_false,false_and]
   by_cases h3:s=3
   ·subst h3
    simp (disch:=first|assumption|omega|(simp only[zL];omega)) only[if_true,py,w7,nt,jb,aa,C.toInt_int,C.toBool_bool,C.toList_list]
    cases b<;>cases aH td t 7 1 m<;>simp[Desk.e]
   ·simp only[h3,if_false,false_and];rfl
theorem jD1(hL:td.length<=1099511627775)(hm:m.length<=1000){d5 d6 d7:Desk}{b5 b6 b7:Bool}
  (w5:ec [.bool up,.list (rs.map Rec.e),.int .i64 f,.list (td.map Word.e),.int .i64 5,.int .i64 t,.list []]=some (d5.e++[.bool b5]))
  (w6:ec [.bool up,.list (rs.map Rec.e),.int .i64 f,.list (td.map Word.e),.int .i64 6,.int .i64 t,.list []]=some (d6.e++[.bool b6]))
  (w7:ec [.bool up,.list (rs.map Rec.e),.int .i64 f,.list (td.map Word.e),.int .i64 7,.int .i64 t,.list []]=some (d7.e++[.bool b7])) (c:Bool) :
  ah (zh up (rs.map Rec.e) f (td.map Word.e) t (m.map eI) s b c)=some (if c then d6 else if s=1/\aH td t 4 1 m then d5 else if s=2/\b/\aH td t 6 1 m then d7 else if s=3/\b/\aH td t 7 1 m then d7 else⟨up,⟨rs,f⟩,td⟩).e:=by
 have j0:=fun c=>jD0 (s:=s) (b:=b) hL hm w5 w7 c
 simp only[Desk.e,List.cons_append,List.nil_append]at w6
 unfold zh
 cases c with
 | true=>simp only[aB,w6,jb,aF,aa,C.toInt_int,C.toBool_bool,C.toList_list,if_true];rfl
 | false =>
  simp only[ay,bD,Bool.false_eq_true,if_false]
  by_cases h1:s=1
  ·simp (disch:=first|assumption|omega|(simp only[zL];omega)) only[h1,if_true,py,nt,aa,C.toBool_bool,bc]
   rw[<-h1,j0]
   simp[h1]
  ·simp only[h1,if_false,bc,aa,C.toBool_bool]
   rw[j0];simp
theorem jD2(hL:td.length<=1099511627775)(hm:m.length<=1000){d5 d6 d7:Desk}{b5 b6 b7:Bool}
  (w5:ec [.bool up,.list (rs.map Rec.e),.int .i64 f,.list (td.map Word.e),.int .i64 5,.int .i64 t,.list []]=some (d5.e++[.bool b5]))
  (w6:ec [.bool up,.list (rs.map Rec.e),.int .i64 f,.list (td.map Word.e),.int .i64 6,.int .i64 t,.list []]=some (d6.e++[.bool b6]))
  (w7:ec [.bool up,.list (rs.map Rec.e),.int .i64 f,.list (td.map Word.e),.int .i64 7,.int .i64 t,.list []]=some (d7.e++[.bool b7])) :
  ah (zi up (rs.map Rec.e) f (td.map Word.e) t (m.map eI) s b) =
   some (if s=1/\br td t 5 1 m then d6 else if s=1/\aH td t 4 1 m then d5 else if s=2/\b/\aH td t 6 1 m then d7 else if s=3/\b/\aH td t 7 1 m then d7 else⟨up,⟨rs,f⟩,td⟩).e:=by
 have j1:=fun c=>jD1 (s:=s) (b:=b) hL hm w5 w6 w7 c
 unfold zi
 simp only[bD]
 by_cases h1:s=1
 ·simp (disch:=first|assumption|omega|(simp only[zL];omega)) only[h1,if_true,C6,nt,aa,C.toBool_bool,bc]
  rw[<-h1,j1]
  simp[h1]
 ·simp only[h1,if_false,bc,aa,C.toBool_bool]
  rw[j1];simp[h1]
end
theorem ma{up:Bool}{rs:List Rec}{f:Int}{td:List Word}(hd:DkOk ⟨up,⟨rs,f⟩,td⟩)(hL:td.length<=1099511627775){t:Int}(h1:1<=t)(h2:t<=(ai ⟨rs,f⟩ false).length) :
  ub [.bool up,.list (rs.map Rec.e),.int .i64 f,.list (td.map Word.e),.int .i64 t]=some (dd ⟨up,⟨rs,f⟩,td⟩ t).e:=by
 rw[q_dc]
 have hlg:LgOk ⟨rs,f⟩:=hd.lg
 have hS:=hlg.S
 have tA:TrOk (ai ⟨rs,f⟩ false):=hd.trOk false
 have tF:TrOk (ai ⟨rs,f⟩ true):=hd.trOk true
 have lA:=tA.len
 have lF:=tF.len
 have hml:=bt (tripOk_iff.1 (tA.ok _ (eT (t:=t) (by omega)))).1
 have w5:=fP hd (k:=5) (t:=t) (m:=[]) (by simp[aL,in_iff];omega)
 have w6:=fP hd (k:=6) (t:=t) (m:=[]) (by simp[aL,in_iff];omega)
 have w7:=fP hd (k:=7) (t:=t) (m:=[]) (by simp[aL,in_iff];omega)
 have j:=fun s b=>jD2 (s:=s) (b:=b) hL (by omega:(tAt (ai ⟨rs,f⟩ false) t).m.length<=1000) w5 w6 w7
 simp (disch:=first|assumption|omega|(simp only[zL];omega)) only[F_dc,jc,vU,og,wrap64,Trip.e,Int.reduceEq,reduceIte,zU,zT,aa]
 rw[j,j]
 unfold dd
 rw[C9]
 unfold mS ak
 have fin:∀ b:Bool,(if na (tAt (ai ⟨rs,f⟩ false) t).s b td t (tAt (ai ⟨rs,f⟩ false) t).m>0 then bh ⟨up,⟨rs,f⟩,td⟩ ⟨na (tAt (ai ⟨rs,f⟩ false) t).s b td t (tAt (ai ⟨rs,f⟩ false) t).m,t,[]⟩ else⟨up,⟨rs,f⟩,td⟩) =
   (if(tAt (ai ⟨rs,f⟩ false) t).s=1/\br td t 5 1 (tAt (ai ⟨rs,f⟩ false) t).m then bh ⟨up,⟨rs,f⟩,td⟩ ⟨6,t,[]⟩ else if(tAt (ai ⟨rs,f⟩ false) t).s=1/\aH td t 4 1 (tAt (ai ⟨rs,f⟩ false) t).m then bh ⟨up,⟨rs,f⟩,td⟩ ⟨5,t,[]⟩ else if(tAt (ai ⟨rs,f⟩ false) t).s=2/\b/\aH td t 6 1 (tAt (ai ⟨rs,f⟩ false) t).m then bh ⟨up,⟨rs,f⟩,td⟩ ⟨7,t,[]⟩ else if(tAt (ai ⟨rs,f⟩ false) t).s=3/\b/\aH td t 7 1 (tAt (ai ⟨rs,f⟩ false) t).m then bh ⟨up,⟨rs,f⟩,td⟩ ⟨7,t,[]⟩ else⟨up,⟨rs,f⟩,td⟩):=by
  intro b
  unfold na
  split
  ·rfl
  ·split
   ·rfl
   ·split
    ·rfl
    ·split<;>rfl
 dsimp only
 rw[fin]
 by_cases h:t<=((ai ⟨rs,f⟩ true).length:Nat)
 ·simp only[h,if_true,decide_true,Bool.true_and]
 ·simp only[h,if_false,decide_false,Bool.false_and]
theorem gz(up:Bool)(l:Log)(td:List Word)(k h t m:Int):c7 ⟨up,l,td⟩ ⟨k,h,t,m⟩=(up && (bG ⟨k,h,t,m⟩ && (decide (k>=4) && decide (t<=(ai l false).length)))):=rfl
theorem BN{up:Bool}{rs:List Rec}{f:Int}{td:List Word}(hd:DkOk ⟨up,⟨rs,f⟩,td⟩)(hL:td.length<=1099511627774){k h t m:Int} :
  xb [.bool up,.list (rs.map Rec.e),.int .i64 f,.list (td.map Word.e),.int .i64 k,.int .i64 h,.int .i64 t,.int .i64 m]=some (dhear ⟨up,⟨rs,f⟩,td⟩ ⟨k,h,t,m⟩).e:=by
 rw[q_ew]
 have hlg:LgOk ⟨rs,f⟩:=hd.lg
 have hS:=hlg.S
 have hL':td.length<=1099511627775:=by omega
 unfold dhear
 simp (disch:=first|assumption|omega|(simp only[zL];omega)) only[F_ew,lc,jc,gy,Int.reduceEq,reduceIte,zU,zT,aa]
 have nh:c7 ⟨up,⟨rs,f⟩,td⟩ ⟨k,h,t,m⟩=false->(if c7 ⟨up,⟨rs,f⟩,td⟩ ⟨k,h,t,m⟩=true then dd (ce ⟨up,⟨rs,f⟩,td⟩ ⟨k,h,t,m⟩) t else⟨up,⟨rs,f⟩,td⟩)=⟨up,⟨rs,f⟩,td⟩:=fun e=>by rw[e];rfl
 cases up with
 | false=>rw[nh rfl];rfl
 | true =>
  cases hw:bG ⟨k,h,t,m⟩with
  | false=>rw[nh (by simp[c7,hw])];rfl
  | true =>
   have wt:=(wordOk_iff.1 hw).t
   simp only at wt
   simp only[aB,eG]
   by_cases h4:k<4
   ·rw[nh (by simp[c7,hw];omega)]
    simp only[h4,if_true];rfl
   ·by_cases ht:t>((ai ⟨rs,f⟩ false).length:Nat)
    ·rw[nh (by rw[gz,hw];simp only[Bool.true_and];rw[Bool.and_eq_false_iff];right;exact decide_eq_false (by omega))]
     simp only[h4,ht,if_true,if_false];rfl
    ·have c1:c7 ⟨true,⟨rs,f⟩,td⟩ ⟨k,h,t,m⟩=true:=by rw[gz,hw];simp only[Bool.true_and];rw[Bool.and_eq_true];exact⟨decide_eq_true (by omega),decide_eq_true (by omega)⟩
     rw[if_pos c1]
     simp only[h4,ht,if_false,ce]
     cases hc:td.contains ⟨k,h,t,m⟩with
     | true =>
      simp (disch:=first|assumption|omega|(simp only[zL];omega)) only[ma,Desk.e,aB,aF,tp,aa,C.toInt_int,C.toBool_bool,C.toList_list,if_true]
     | false =>
      have hd2:DkOk ⟨true,⟨rs,f⟩,td++[⟨k,h,t,m⟩]⟩:=by
       have:=hd.tell (w:=⟨k,h,t,m⟩) c1
       unfold ce at this
       rw[if_neg (by rw[hc];simp)]at this
       exact this
      have e1:(td.map Word.e)++[[C.int .i64 k,C.int .i64 h,C.int .i64 t,C.int .i64 m]]=(td++[(⟨k,h,t,m⟩:Word)]).map Word.e:=by simp[Word.e]
      have hd3:=ma hd2 (by simp;omega) wt.1 (show t<=((ai ⟨rs,f⟩ false).length:Nat) by omega)
      simp only[ay,e1,hd3]
      simp (disch:=first|assumption|omega|(simp only[zL];omega)) only[Desk.e,Bool.false_eq_true,if_false,Int.reduceEq,reduceIte,zU,zT,aa]
theorem rowI3{m:List Int}{i:Nat}{n:Int}(h:m[i]?=some n){f:List C->Option Out}:aI (.list (m.map eI)) (.int .i64 i) [.int .i64] f=f (eI n):=ig h
theorem FU{td:List Word}(hL:td.length<=1099511627775){l:List Trip}{ti:Nat}{x:Trip}(hx:l[ti]?=some x)(hti:ti<=1000)(hs:1<=x.s/\x.s<=3)(hml:x.m.length=3){acc:List Word}(ha:acc.length<=3000) :
  aJ (fun ps=>pV (td.map Word.e) (l.map Trip.e) (ti:Int) ((aa ps 0).toInt) ((aa ps 1).toList)) [.int .i64 0,.list (acc.map Word.e)] =
   some (.jump [.int .i64 ((ti+1:Nat):Int),.list ((acc++bl td x.s ((ti+1:Nat):Int) 1 x.m).map Word.e)]):=by
 have key:=ar (l:=x.m) (F:=fun ps=>pV (td.map Word.e) (l.map Trip.e) (ti:Int) ((aa ps 0).toInt) ((aa ps 1).toList)) (enc:=fun i (s:List Word)=>[.int .i64 i,.list (s.map Word.e)])
  (res:=fun xs i s=>.jump [.int .i64 ((ti+1:Nat):Int),.list ((s++bl td x.s ((ti+1:Nat):Int) ((i+1:Nat):Int) xs).map Word.e)]) (fun i s=>s.length<=3000+i) (s:=acc) (by omega) ?_ ?_
 ·exact key
 ·intro i n xs s hn hs'
  have hi:=(List.getElem?_eq_some_iff.1 hn).1
  have hi':(i:Int)<3:=by omega
  have e1:((i+1:Nat):Int)+1=((i+1+1:Nat):Int):=by omega
  have ra:∀ g:List C->Option Out,aI (.list [[C.int .i64 0],[C.int .i64 4],[C.int .i64 6],[C.int .i64 7]]) (.int .i64 x.s) [.int .i64] g=g [.int .i64 (mT x.s)]:=by
   intro g
   have:x.s=1\/x.s=2\/x.s=3:=by omega
   rcases this with e|e|e<;>rw[e]<;>rfl
  have h4:x.s<((([[C.int .i64 0],[C.int .i64 4],[C.int .i64 6],[C.int .i64 7]]:List (List C)).length:Nat):Int):=by simp;omega
  have h5:(0:Int)<=x.s:=by omega
  have hb:=de (p:=(0:Int)<=x.s) (q:=x.s<((([[C.int .i64 0],[C.int .i64 4],[C.int .i64 6],[C.int .i64 7]]:List (List C)).length:Nat):Int)) h5 h4
  unfold pV
  simp only[aa,C.toInt_int,C.toList_list,aP,hi',if_true,dS hx,Trip.e,hb,ra,rowI3 hn,eI,bD]
  simp (disch:=first|assumption|omega|(simp only[zL];omega)) only[al,gy,nt,aa,C.toBool_bool]
  simp only[bl,gl]
  by_cases hn0:n=0
  ·simp only[hn0,if_true,true_or]
   exact .inl ⟨s,rfl,by omega,by rw[e1];simp⟩
  ·simp only[hn0,if_false,false_or]
   cases hc:td.contains ⟨mT x.s,((i+1:Nat):Int),((ti+1:Nat):Int),0⟩with
   | true=>exact .inl ⟨s,rfl,by omega,by rw[e1];simp⟩
   | false =>
    have hlen:∀ w:List C,decide ((s.map Word.e).length+[w].length<=bf)=true:=fun w=>by simp[cg];omega
    refine .inl ⟨s++[⟨x.s,((i+1:Nat):Int),((ti+1:Nat):Int),if x.s=1 then n else 0⟩],?_,by simp;omega,by rw[e1];simp⟩
    simp only[ay,bE (hlen _)]
    split<;>simp[Word.e]
 ·intro s _
  unfold pV
  have h:¬ ((x.m.length:Int)<3):=by omega
  simp only[aa,C.toInt_int,C.toList_list,aP,h,if_false]
  simp (disch:=first|assumption|omega|(simp only[zL];omega)) only[al,lx]
  simp[bl]
theorem mb{up:Bool}{rs:List Rec}{f:Int}{td:List Word}(hd:DkOk ⟨up,⟨rs,f⟩,[]⟩)(hL:td.length<=1099511627775) :
  kS [.bool up,.list (rs.map Rec.e),.int .i64 f,.list (td.map Word.e)]=some [.list ((aV ⟨up,⟨rs,f⟩,td⟩).map Word.e)]:=by
 rw[q_ee]
 have hlg:LgOk ⟨rs,f⟩:=hd.lg
 have hS:=hlg.S
 have tF:TrOk (ai ⟨rs,f⟩ true):=hd.trOk true
 have lF:=tF.len
 simp (disch:=first|assumption|omega|(simp only[zL];omega)) only[F_ee,vU,aV,ak,Int.reduceEq,reduceIte,zU,zT,aa]
 cases up with
 | false=>rfl
 | true =>
  simp only[aB,if_true]
  have key:=ar (l:=ai ⟨rs,f⟩ true) (F:=fun ps=>t6 (td.map Word.e) ((ai ⟨rs,f⟩ true).map Trip.e) ((aa ps 0).toInt) ((aa ps 1).toList)) (enc:=fun i (s:List Word)=>[.int .i64 i,.list (s.map Word.e)])
   (res:=fun xs i s=>.ret [.list ((s++c8 td ((i+1:Nat):Int) xs).map Word.e)]) (fun i s=>s.length<=3*i) (s:=[]) (by simp) ?_ ?_
  ·have key:aJ _ [C.int .i64 0,C.list []]=_:=key
   rw[key];simp
  ·intro i x xs s hx hs
   have hi:=(List.getElem?_eq_some_iff.1 hx).1
   have hi':(i:Int)<((ai ⟨rs,f⟩ true).length:Nat):=by omega
   have hxo:=tripOk_iff.1 (tF.ok x (List.mem_of_getElem? hx))
   have hml:=bt hxo.1
   have e1:((i+1:Nat):Int)+1=((i+1+1:Nat):Int):=by omega
   unfold t6
   simp only[aa,C.toInt_int,C.toList_list,List.length_map,aP,hi',if_true,dS hx,Trip.e,c8]
   by_cases h3:x.s>3
   ·simp only[h3,if_true]
    simp (disch:=first|assumption|omega|(simp only[zL];omega)) only[al]
    exact .inl ⟨s,rfl,by omega,by rw[e1];simp⟩
   ·simp only[h3,if_false]
    rw[FU hL hx (by omega) (by omega) hml (by omega)]
    refine .inl ⟨s++bl td x.s ((i+1:Nat):Int) 1 x.m,rfl,?_,by rw[e1];simp⟩
    have:=fk td x.s ((i+1:Nat):Int) x.m 1
    simp only[List.length_append];omega
  ·intro s _
   unfold t6
   have h:¬ (((ai ⟨rs,f⟩ true).length:Int)<((ai ⟨rs,f⟩ true).length:Nat)):=by omega
   simp only[aa,C.toInt_int,C.toList_list,List.length_map,aP,h,if_false,lx]
   simp[c8]
theorem DkOk.bare{d:Desk}(h:DkOk d):DkOk ⟨d.up,d.lg,[]⟩:=⟨h.lg,h.tr,by simp,by simp,.inr rfl⟩
theorem oq{up:Bool}{rs:List Rec}{f:Int}{td:List Word}(hd:DkOk ⟨up,⟨rs,f⟩,td⟩)(hL:td.length<=1099511627775) :
  kS [.bool up,.list (rs.map Rec.e),.int .i64 f,.list (td.map Word.e)]=some [.list ((aV ⟨up,⟨rs,f⟩,td⟩).map Word.e)]:=mb hd.bare hL
end Dx
namespace Dx
open Go
def d9(hs:List House)(i:Int):House:=(hs[(i-1).toNat]?).getD ⟨0,false,0,⟨[],0⟩⟩
theorem bJ(w:Wd)(i:Int):houseAt w i=d9 w.hs i:=rfl
theorem vW{l:List House}{t:Int}(h1:1<=t)(h2:t<=l.length):l[(t-1).toNat]?=some (d9 l t):=by
 have:(t-1).toNat<l.length:=by omega
 unfold d9;rw[List.getElem?_eq_getElem this];rfl
theorem ot{l:List House}{t:Int}(h1:1<=t)(h2:t<=l.length){kk:IntKind}{f:List C->Option Out}:aI (.list (l.map House.e)) (.int kk (t-1)) [.int .i64,.bool,.int .i64,.list,.int .i64] f=f (d9 l t).e :=
 dx (by omega) (vW h1 h2) rfl
theorem kO{l:List House}{t:Int}{x:House}(h1:1<=t)(h2:t<=l.length){kk:IntKind}{f:List C->Option Out}:aI (.list ((l.set (t-1).toNat x).map House.e)) (.int kk (t-1)) [.int .i64,.bool,.int .i64,.list,.int .i64] f=f x.e:=by
 refine dx (by omega) ?_ rfl
 rw[List.getElem?_set];simp;omega
theorem mU(l:List House)(n:Nat)(id:Int)(up:Bool)(room:Int)(rs:List Rec)(f:Int):(l.map House.e).set n [.int .i64 id,.bool up,.int .i64 room,.list (rs.map Rec.e),.int .i64 f]=(l.set n ⟨id,up,room,⟨rs,f⟩⟩).map House.e:=by
 simp[List.map_set,House.e]
theorem eqD(a:Int)(k:Option Out):af (a==a) k=k:=by simp
theorem Da{l:List House}{t:Int}(h1:1<=t)(h2:t<=l.length):l.set (t-1).toNat (d9 l t)=l:=by
 have hi:(t-1).toNat<l.length:=by omega
 have:d9 l t=l[(t-1).toNat]:=by unfold d9;rw[List.getElem?_eq_getElem hi];rfl
 rw[this];exact List.set_getElem_self hi
section
variable {up:Bool} {rs:List Rec} {f:Int} {td:List Word} {hs:List House} {ns:List Word}
theorem pz(hL:ns.length<=1000){k h t m:Int} :
  nE [.bool up,.list (rs.map Rec.e),.int .i64 f,.list (td.map Word.e),.list (hs.map House.e),.list (ns.map Word.e),.int .i64 k,.int .i64 h,.int .i64 t,.int .i64 m]=some (kx ⟨⟨up,⟨rs,f⟩,td⟩,hs,ns⟩ ⟨k,h,t,m⟩).e:=by
 rw[q_fr]
 simp (disch:=first|assumption|omega|(simp only[zL];omega)) only[F_fr,kx,Int.reduceEq,reduceIte,zU,zT,aa]
 by_cases hn:ns.length<14
 ·have h':((ns.length:Nat):Int)<14:=by omega
  have hc:ns.length+1<=1099511627776:=by omega
  simp[hn,h',Wd.e,Word.e,cg,hc]
 ·have h':¬ (((ns.length:Nat):Int)<14):=by omega
  simp[hn,h',Wd.e]
theorem rV(hL:ns.length<=1000){i:Int}(h0:0<=i)(h1:i<ns.length) :
  t7 [.bool up,.list (rs.map Rec.e),.int .i64 f,.list (td.map Word.e),.list (hs.map House.e),.list (ns.map Word.e),.int .i64 i]=some (fY ⟨⟨up,⟨rs,f⟩,td⟩,hs,ns⟩ i).e:=by
 rw[q_fo]
 obtain⟨n,rfl⟩:=Int.eq_ofNat_of_zero_le h0
 have e1:(ns.map Word.e).take n=(ns.take n).map Word.e:=by simp
 have e2:(ns.map Word.e).drop (n+1)=(ns.drop (n+1)).map Word.e:=by simp
 have c1:(0:Int)<=((n+1:Nat):Int):=by omega
 have c2:((n+1:Nat):Int)<=(ns.length:Nat):=by omega
 have c3:(n:Int)<=(ns.length:Nat):=by omega
 have c4:(ns.take n).length<=1000:=by simp;omega
 have c5:(ns.drop (n+1)).length<=1000:=by simp;omega
 simp (disch:=first|assumption|omega|(simp only[zL];omega)) only[F_fo,al,Int.toNat_natCast,e1,e2,dK,Int.reduceEq,reduceIte,zU,zT,aa]
 simp[Wd.e,fY,List.eraseIdx_eq_take_drop_succ]
theorem lR(ho:WOk ⟨⟨up,⟨rs,f⟩,td⟩,hs,ns⟩)(hL:td.length<=1099511627774){k h t m:Int}(hx:WdOk ⟨k,h,t,m⟩) :
  nF [.bool up,.list (rs.map Rec.e),.int .i64 f,.list (td.map Word.e),.list (hs.map House.e),.list (ns.map Word.e),.int .i64 k,.int .i64 h,.int .i64 t,.int .i64 m] =
   some ((bo ⟨⟨up,⟨rs,f⟩,td⟩,hs,ns⟩ ⟨k,h,t,m⟩).1.e++((oW (bo ⟨⟨up,⟨rs,f⟩,td⟩,hs,ns⟩ ⟨k,h,t,m⟩).2).e++[.bool (bo ⟨⟨up,⟨rs,f⟩,td⟩,hs,ns⟩ ⟨k,h,t,m⟩).2.isSome])):=by
 rw[q_et]
 have hd:DkOk ⟨up,⟨rs,f⟩,td⟩:=ho.dk
 have hl:hs.length=3:=ho.len
 have hh:=hx.h
 simp only at hh
 by_cases h4:k>=4
 ·simp (disch:=first|assumption|omega|(simp only[zL];omega)) only[F_et,BN,bo,h4,if_true,decide_true,Desk.e,Int.reduceEq,reduceIte,zU,zT,aa]
  simp[Wd.e,oW,Word.e]
 ·have hho:=(ho.houseAt (i:=h) hh).2.1
  rw[bJ]at hho
  simp only at hho
  have hho':HsOk ⟨(d9 hs h).id,(d9 hs h).up,(d9 hs h).room,⟨(d9 hs h).lg.rs,(d9 hs h).lg.f⟩⟩:=hho
  simp (disch:=first|assumption|omega|(simp only[zL];omega)) only[F_et,bo,h4,if_false,wrap64,ot,House.e,BM,eqD,List.cons_append,Word.e,mU,bJ,Int.reduceEq,reduceIte,zU,zT,aa]
  simp[Wd.e,setHouse,House.e]
theorem vX(ho:LgOk ⟨rs,f⟩){keep:Int} :
  qQ [.list (rs.map Rec.e),.int .i64 f,.int .i64 keep]=some (fL ⟨rs,f⟩ keep).e:=by
 rw[q_gb]
 have h1:=ho.lo
 have h2:=ho.hi
 have h3:=ho.len
 have hk:=ho.keep keep
 simp only at h1 h2 h3 hk
 unfold eO at hk
 have e1:∀ n:Nat,(rs.map Rec.e).take n=(rs.take n).map Rec.e:=fun n=>by simp
 simp only[F_gb,fL,eO,aP,List.length_map]
 by_cases h:keep>0
 ·simp only[h,if_true]at hk ⊢
  have em:(if((rs.length:Nat):Int)-f<keep then((rs.length:Nat):Int)-f else keep)=min keep (rs.length-f):=by rw[Int.min_def];split<;>split<;>omega
  rw[wrap64 (x:=((rs.length:Nat):Int)-f) (by omega) (by omega),em,wrap64 (by omega) (by omega)]
  rw[de (by omega) (by omega),e1]
  simp[Log.e]
 ·simp only[h,if_false]at hk ⊢
  rw[de (by omega) (by omega),e1]
  simp[Log.e]
theorem BO(ho:LgOk ⟨rs,f⟩){keep:Int} :
  xf [.bool up,.list (rs.map Rec.e),.int .i64 f,.list (td.map Word.e),.int .i64 keep]=some (dfall ⟨up,⟨rs,f⟩,td⟩ keep).e:=by
 rw[q_ei]
 simp (disch:=first|assumption|omega|(simp only[zL];omega)) only[F_ei,vX,Log.e,Int.reduceEq,reduceIte,zU,zT,aa]
 simp[dfall,Desk.e]
theorem ou(hl:hs.length=3)(hh:∀ h∈hs,h.lg.rs.length<=2000000){i:Int}(hi:0<=i/\i<=3) :
  qP [.bool up,.list (rs.map Rec.e),.int .i64 f,.list (td.map Word.e),.list (hs.map House.e),.list (ns.map Word.e),.int .i64 i]=some (cH ⟨⟨up,⟨rs,f⟩,td⟩,hs,ns⟩ i).e:=by
 rw[q_dq]
 by_cases h0:i=0
 ·subst h0
  have e0:in_ 0 1 3=false:=rfl
  cases up<;>simp (disch:=first|assumption|omega|(simp only[zL];omega)) only[F_dq,zj,b8,cH,bv,e0,if_true,Int.reduceEq,reduceIte,zU,zT,aa]<;>simp[Wd.e,fv]
 ·have e1:in_ i 1 3=true:=in_iff.2 (by omega)
  simp (disch:=first|assumption|omega|(simp only[zL];omega)) only[F_dq,zj,b8,cH,h0,if_false,e1,if_true,wrap64,ot,House.e,eqD,mU,kO,bJ,Int.reduceEq,reduceIte,zU,zT,aa]
  unfold bY
  cases hu:(d9 hs i).up with
  | true =>
   simp (disch:=first|assumption|omega|(simp only[zL];omega)) only[mU,kO,House.e,eqD,Int.reduceEq,reduceIte,zU,zT,aa]
   simp[Wd.e,setHouse,hu,fv]
  | false =>
   have:setHouse ⟨⟨up,⟨rs,f⟩,td⟩,hs,ns⟩ i (d9 hs i)=⟨⟨up,⟨rs,f⟩,td⟩,hs,ns⟩:=by
    unfold setHouse;simp only;rw[Da (by omega) (by omega)]
   simp only[Bool.false_eq_true,if_false,this,ay,aF]
   rfl
theorem BP(ho:WOk ⟨⟨up,⟨rs,f⟩,td⟩,hs,ns⟩){k a b:Int}{m:List (List C)} :
  qR [.bool up,.list (rs.map Rec.e),.int .i64 f,.list (td.map Word.e),.list (hs.map House.e),.list (ns.map Word.e),.int .i64 k,.int .i64 a,.int .i64 b,.list m]=some (cw ⟨⟨up,⟨rs,f⟩,td⟩,hs,ns⟩ ⟨k,a,b,[]⟩).e:=by
 rw[q_ev]
 have hd:DkOk ⟨up,⟨rs,f⟩,td⟩:=ho.dk
 have hlg:LgOk ⟨rs,f⟩:=hd.lg
 have hl:hs.length=3:=ho.len
 have hh:∀ h∈hs,h.lg.rs.length<=2000000:=fun h hm=>by
  obtain⟨i,hi⟩:=List.mem_iff_getElem?.1 hm
  have:=(ho.hs i h hi).1.lg.len;omega
 unfold cw
 simp only
 cases ha:in_ a 0 3 with
 | false=>simp (disch:=first|assumption|omega|(simp only[zL];omega)) only[Ax,b8,ha,Bool.not_false,Int.reduceEq,reduceIte,zU,zT,aa];rfl
 | true =>
  have ha':=in_iff.1 ha
  simp only[if_true]
  by_cases h7:k=7
  ·subst h7
   simp (disch:=first|assumption|omega|(simp only[zL];omega)) only[Ax,b8,ha,Bool.not_true,if_true,ou,Wd.e,Int.reduceEq,reduceIte,zU,zT,aa]
  ·by_cases h8:k=8
   ·subst h8
    by_cases a0:a=0
    ·subst a0
     simp (disch:=first|assumption|omega|(simp only[zL];omega)) only[Ax,b8,ha,Bool.not_true,if_true,if_false,BO,Desk.e,Int.reduceEq,reduceIte,zU,zT,aa]
     simp[Wd.e]
    ·have hho:=(ho.houseAt (i:=a) (by omega)).2.1
     rw[bJ]at hho
     have hlo:LgOk ⟨(d9 hs a).lg.rs,(d9 hs a).lg.f⟩:=hho.lg
     simp (disch:=first|assumption|omega|(simp only[zL];omega)) only[Ax,b8,ha,Bool.not_true,if_true,if_false,a0,wrap64,ot,House.e,eqD,mU,kO,vX,Log.e,bJ,List.length_set,Int.reduceEq,reduceIte,zU,zT,aa]
     simp[Wd.e,setHouse,hfall,House.e]
   ·by_cases h9:k=9
    ·subst h9
     by_cases a0:a=0
     ·subst a0
      simp (disch:=first|assumption|omega|(simp only[zL];omega)) only[Ax,b8,ha,Bool.not_true,if_true,if_false,Int.reduceEq,reduceIte,zU,zT,aa]
      simp[Wd.e,ej]
     ·simp (disch:=first|assumption|omega|(simp only[zL];omega)) only[Ax,b8,ha,Bool.not_true,if_true,if_false,a0,wrap64,ot,House.e,eqD,mU,bJ,Int.reduceEq,reduceIte,zU,zT,aa]
      simp[Wd.e,setHouse,fj]
    ·simp (disch:=first|assumption|omega|(simp only[zL];omega)) only[Ax,b8,ha,Bool.not_true,if_false,h7,h8,h9,Int.reduceEq,reduceIte,zU,zT,aa]
     rfl
theorem Db(ho:WOk ⟨⟨up,⟨rs,f⟩,td⟩,hs,ns⟩)(hL:td.length<=1099511627774){k a b:Int}{m:List (List C)} :
  qO [.bool up,.list (rs.map Rec.e),.int .i64 f,.list (td.map Word.e),.list (hs.map House.e),.list (ns.map Word.e),.int .i64 k,.int .i64 a,.int .i64 b,.list m]=some (jA ⟨⟨up,⟨rs,f⟩,td⟩,hs,ns⟩ ⟨k,a,b,[]⟩).e:=by
 rw[q_gc]
 have hnl:ns.length<=14:=ho.nlen
 unfold jA
 simp only
 by_cases h0:0<=a
 ·by_cases h1:a<ns.length
  ·have e1:in_ a 0 ((ns.length:Nat)-1)=true:=in_iff.2 (by omega)
   obtain⟨n,rfl⟩:=Int.eq_ofNat_of_zero_le h0
   have hn:n<ns.length:=by omega
   have hx:ns[n]?=some ns[n]:=by simp[hn]
   have hxw:=ho.ns ns[n] (List.mem_of_getElem? hx)
   have hxw':WdOk ⟨ns[n].k,ns[n].h,ns[n].t,ns[n].m⟩:=hxw
   simp only[Int.toNat_natCast,h0,if_true,hx]
   by_cases h5:k=5
   ·subst h5
    simp (disch:=first|assumption|omega|(simp only[zL];omega)) only[DJ,b8,wrap64,e1,Bool.not_true,js hx,Word.e,if_true,rV,Wd.e,Int.reduceEq,reduceIte,zU,zT,aa]
   ·by_cases h6:k=6
    ·subst h6
     simp (disch:=first|assumption|omega|(simp only[zL];omega)) only[DJ,b8,wrap64,e1,Bool.not_true,js hx,Word.e,if_true,if_false,h5,pz,Wd.e,Int.reduceEq,reduceIte,zU,zT,aa]
    ·have ho2:=ho.take (n:Int)
     generalize hw2:fY ⟨⟨up,⟨rs,f⟩,td⟩,hs,ns⟩ (n:Int)=w2 at ho2
     have htk:=rV (up:=up) (rs:=rs) (f:=f) (td:=td) (hs:=hs) (ns:=ns) (by omega) h0 h1
     rw[hw2]at htk
     have ho2':WOk ⟨⟨w2.dk.up,⟨w2.dk.lg.rs,w2.dk.lg.f⟩,w2.dk.td⟩,w2.hs,w2.ns⟩:=ho2
     have hL2:w2.dk.td.length<=1099511627774:=by rw[<-hw2];exact hL
     have hhe:=ho2.hear hxw
     have hm:=lR ho2' hL2 hxw'
     simp only[la,lb,jB,uH]at hm
     generalize (bo w2 ns[n])=p at hhe hm
     obtain⟨w3,o⟩:=p
     have hn3:w3.ns.length<=1000:=by have:=hhe.1.nlen;simp only at this;omega
     simp only[Wd.e,Word.e,List.cons_append,List.nil_append]at hm htk
     simp (disch:=first|assumption|omega|(simp only[zL];omega)) only[DJ,b8,wrap64,e1,Bool.not_true,js hx,Word.e,h5,h6,if_false,htk,hm,Int.reduceEq,reduceIte,zU,zT,aa]
     cases o with
     | none=>simp[Fb,Wd.e]
     | some y =>
      simp (disch:=first|assumption|omega|(simp only[zL];omega)) only[Option.isSome_some,oW,Option.getD_some,pz,Wd.e,Fb,Int.reduceEq,reduceIte,zU,zT,aa]
  ·have e1:in_ a 0 ((ns.length:Nat)-1)=false:=in_false.2 (by omega)
   have hx:ns[a.toNat]?=none:=List.getElem?_eq_none (by omega)
   simp (disch:=first|assumption|omega|(simp only[zL];omega)) only[DJ,b8,wrap64,e1,Bool.not_false,h0,if_true,hx,Int.reduceEq,reduceIte,zU,zT,aa]
   rfl
 ·have e1:in_ a 0 ((ns.length:Nat)-1)=false:=in_false.2 (by omega)
  simp (disch:=first|assumption|omega|(simp only[zL];omega)) only[DJ,b8,wrap64,e1,Bool.not_false,h0,if_false,Int.reduceEq,reduceIte,zU,zT,aa]
  rfl
theorem BQ(ho:WOk ⟨⟨up,⟨rs,f⟩,td⟩,hs,ns⟩)(hL:td.length<=1099511627774){k a b:Int}{m:List Int}(hm:m.length<=2000000) :
  w9 [.bool up,.list (rs.map Rec.e),.int .i64 f,.list (td.map Word.e),.list (hs.map House.e),.list (ns.map Word.e),.int .i64 k,.int .i64 a,.int .i64 b,.list (m.map eI)]=some (ia ⟨⟨up,⟨rs,f⟩,td⟩,hs,ns⟩ ⟨k,a,b,m⟩).e:=by
 rw[q_ep]
 have hd:DkOk ⟨up,⟨rs,f⟩,td⟩:=ho.dk
 have hlg:LgOk ⟨rs,f⟩:=hd.lg
 have hS:=hlg.S
 have tA:TrOk (ai ⟨rs,f⟩ false):=hd.trOk false
 have lA:=tA.len
 have hnl:ns.length<=14:=ho.nlen
 unfold ia
 simp only
 by_cases h1:k=1
 ·subst h1
  simp (disch:=first|assumption|omega|(simp only[zL];omega)) only[CB,jc,ol,wrap64,dK,if_true,fw,eg,ak,Int.reduceEq,reduceIte,zU,zT,aa]
  rcases Bool.eq_false_or_eq_true (aL ⟨4,((ai ⟨rs,f⟩ false).length:Int)+1,m⟩)with hr|hr
  ·simp (disch:=first|assumption|omega|(simp only[zL];omega)) only[hr,fP,Desk.e,List.cons_append,if_true,Int.reduceEq,reduceIte,zU,zT,aa]
   simp[Wd.e]
  ·simp[hr,Wd.e]
 ·by_cases h2:k=2
  ·subst h2
   simp (disch:=first|assumption|omega|(simp only[zL];omega)) only[CB,b8,if_true,if_false,hU,Int.reduceEq,reduceIte,zU,zT,aa]
   cases hi:in_ a 1 6 with
   | false=>simp[Wd.e]
   | true =>
    have hw:=fP hd (k:=6) (t:=a) (m:=[]) (by simp[aL,in_iff,in_iff.1 hi])
    simp only[List.map_nil,Desk.e,List.cons_append,List.nil_append]at hw
    simp (disch:=first|assumption|omega|(simp only[zL];omega)) only[hw,Int.reduceEq,reduceIte,zU,zT,aa]
    simp[Wd.e]
  ·by_cases h3:k=3
   ·subst h3
    have hwl:(aV ⟨up,⟨rs,f⟩,td⟩).length<=1000:=by have:=ib hd;omega
    generalize hwd:aV ⟨up,⟨rs,f⟩,td⟩=l at hwl
    have hmw:=oq hd (by omega)
    rw[hwd]at hmw
    by_cases h0:0<=a
    ·by_cases hlt:a<l.length
     ·have e1:in_ a 0 ((l.length:Nat)-1)=true:=in_iff.2 (by omega)
      obtain⟨n,rfl⟩:=Int.eq_ofNat_of_zero_le h0
      have hn:n<l.length:=by omega
      have hx:l[n]?=some l[n]:=by simp[hn]
      simp (disch:=first|assumption|omega|(simp only[zL];omega)) only[CB,hmw,b8,wrap64,e1,Int.toNat_natCast,h0,if_true,if_false,hx,js hx,Word.e,pz,Wd.e,Int.reduceEq,reduceIte,zU,zT,aa]
     ·have e1:in_ a 0 ((l.length:Nat)-1)=false:=in_false.2 (by omega)
      have hx:l[a.toNat]?=none:=List.getElem?_eq_none (by omega)
      simp (disch:=first|assumption|omega|(simp only[zL];omega)) only[CB,hmw,b8,wrap64,e1,h0,if_true,if_false,hx,Int.reduceEq,reduceIte,zU,zT,aa]
      rfl
    ·have e1:in_ a 0 ((l.length:Nat)-1)=false:=in_false.2 (by omega)
     simp (disch:=first|assumption|omega|(simp only[zL];omega)) only[CB,hmw,b8,wrap64,e1,h0,if_true,if_false,Int.reduceEq,reduceIte,zU,zT,aa]
     rfl
   ·simp (disch:=first|assumption|omega|(simp only[zL];omega)) only[CB,h1,h2,h3,if_false,Int.reduceEq,reduceIte,zU,zT,aa]
    rfl
theorem FV(ho:WOk ⟨⟨up,⟨rs,f⟩,td⟩,hs,ns⟩)(hL:td.length<=1099511627774){k a b:Int}{m:List Int}(hm:m.length<=2000000) :
  jR [.bool up,.list (rs.map Rec.e),.int .i64 f,.list (td.map Word.e),.list (hs.map House.e),.list (ns.map Word.e),.int .i64 k,.int .i64 a,.int .i64 b,.list (m.map eI)]=some (wdo ⟨⟨up,⟨rs,f⟩,td⟩,hs,ns⟩ ⟨k,a,b,m⟩).e:=by
 rw[q_gp]
 have hA:=fun k=>BQ ho hL (k:=k) (a:=a) (b:=b) hm
 have hB:=fun k=>Db ho hL (k:=k) (a:=a) (b:=b) (m:=m.map eI)
 have hC:=fun k=>BP ho (k:=k) (a:=a) (b:=b) (m:=m.map eI)
 have eB:∀ k,jA ⟨⟨up,⟨rs,f⟩,td⟩,hs,ns⟩ ⟨k,a,b,[]⟩=jA ⟨⟨up,⟨rs,f⟩,td⟩,hs,ns⟩ ⟨k,a,b,m⟩:=fun _=>rfl
 have eC:∀ k,cw ⟨⟨up,⟨rs,f⟩,td⟩,hs,ns⟩ ⟨k,a,b,[]⟩=cw ⟨⟨up,⟨rs,f⟩,td⟩,hs,ns⟩ ⟨k,a,b,m⟩:=fun _=>rfl
 simp only[eB,eC,Wd.e]at hA hB hC
 unfold wdo
 simp only[F_gp,bD]
 by_cases c1:k=1\/k=2\/k=3
 ·simp only[c1,if_true]
  rcases c1 with e|e|e<;>subst e<;>simp (disch:=first|assumption|omega|(simp only[zL];omega)) only[zk,hA,Wd.e,if_true,if_false,BEq.rfl,Int.reduceEq,reduceIte,zU,zT,aa]
 ·simp only[c1,if_false]
  have n1:¬ k=1:=by omega
  have n2:¬ k=2:=by omega
  have n3:(k==3)=false:=by simpa using(by omega:¬ k=3)
  simp only[n1,n2,n3,if_false,bc,aa,C.toBool_bool,zk,ay,bD]
  by_cases c2:k=4\/k=5\/k=6
  ·simp only[c2,if_true]
   rcases c2 with e|e|e<;>subst e<;>simp (disch:=first|assumption|omega|(simp only[zL];omega)) only[hB,Wd.e,if_true,if_false,Int.reduceEq,reduceIte,zU,zT,aa]
  ·simp only[c2,if_false]
   have n4:¬ k=4:=by omega
   have n5:¬ k=5:=by omega
   have n6:¬ k=6:=by omega
   simp only[n4,n5,n6,if_false]
   by_cases c3:k=7\/k=8\/k=9
   ·simp only[c3,if_true]
    rcases c3 with e|e|e<;>subst e<;>simp (disch:=first|assumption|omega|(simp only[zL];omega)) only[hC,Wd.e,if_true,if_false,Int.reduceEq,reduceIte,zU,zT,aa]
   ·simp only[c3,if_false]
    have n7:¬ k=7:=by omega
    have n8:¬ k=8:=by omega
    have n9:¬ k=9:=by omega
    simp only[n7,n8,n9,if_false]
    rfl
end
end Dx
namespace Dx
open Go
theorem tv{F:List C->Option Out}{I:Nat->List C->Prop}{Q:Out->Prop}
  (h:∀ n ps,I n ps->(∃ ps' n',n'<n/\F ps=some (.jump ps')/\I n' ps')\/(∃ o,F ps=some (.up o)/\Q o)):∀(n:Nat) (ps:List C),I n ps->∃ o,aJ F ps=some o/\Q o:=by
 intro n
 induction n using Nat.strongRecOn with
 | _ n ih =>
  intro ps hI
  rcases h n ps hI with ⟨ps',n',hlt,h1,h2⟩|⟨o,h1,h2⟩
  ·obtain⟨o,h3,h4⟩:=ih n' hlt ps' h2
   exact⟨o,by rw[gI,h1];exact h3,h4⟩
  ·exact⟨o,by rw[gI,h1];rfl,h2⟩
@[simp] theorem pA (o:Out) (k:List C->Option Out):bw (some (.up o)) k=some o:=rfl
def Rd(bs:List Int):Prop:=bs.length<=2000/\∀ b∈bs,0<=b/\b<=255
theorem IV{l:List Int}{i:Int}{x:Int}(h0:0<=i)(h:l[i.toNat]?=some x){kk:IntKind}{f:List C->Option Out}:aI (.list (l.map eB)) (.int kk i) [.int .u8] f=f (eB x):=dx h0 h rfl
theorem JO{a b:Int}(ha:0<=a/\a<1099511627776)(hb:0<=b/\b<1099511627776):(BitVec.ofInt 64 a ^^^ BitVec.ofInt 64 b).toNat<1099511627776:=by
 obtain⟨n,rfl⟩:=Int.eq_ofNat_of_zero_le ha.1
 obtain⟨m,rfl⟩:=Int.eq_ofNat_of_zero_le hb.1
 rw[BitVec.toNat_xor,BitVec.toNat_ofInt,BitVec.toNat_ofInt]
 have e1:((n:Int) % (2 ^ 64:Nat)).toNat=n:=by omega
 have e2:((m:Int) % (2 ^ 64:Nat)).toNat=m:=by omega
 rw[e1,e2]
 exact Nat.xor_lt_two_pow (n:=40) (by omega) (by omega)
theorem pB{x n:Int}(hx:0<=x)(hn:1<=n):0<=Int.tmod x n/\Int.tmod x n<n:=⟨Int.tmod_nonneg _ hx,Int.tmod_lt_of_pos _ (by omega)⟩
theorem DT{bs:List Int}(hb:Rd bs){p n:Int}(h0:0<=p)(h1:p<=1000000000)(hn:n<=1000000000) :
  ∃ x,aZ [.list (bs.map eB),.int .i64 p,.int .i64 n]=some [.int .i64 x,.list (bs.map eB),.int .i64 (p+1)]/\0<=x/\(1<=n->x<n)/\x<=1000000000:=by
 rw[q_di]
 have w1:IntKind.wrap .i64 (p+1)=p+1:=wrap64 (by omega) (by omega)
 have w2:IntKind.wrap .i64 (p+1-1)=p:=by rw[wrap64 (by omega) (by omega)];omega
 simp only[F_di,w1,w2,aP,bD,List.length_map]
 by_cases c1:n<1
 ·exact⟨0,by simp[c1],by omega,by omega,by omega⟩
 simp only[c1,if_false]
 by_cases c2:((bs.length:Nat):Int)=0
 ·exact⟨0,by simp[c2],by omega,by omega,by omega⟩
 simp only[c2,if_false]
 have hl:=hb.1
 have hn0:(n != 0)=true:=by simp;omega
 have hl0:(((bs.length:Nat):Int) != 0)=true:=by rw[bne_iff_ne];omega
 by_cases c3:p<((bs.length:Nat):Int)
 ·have hx:bs[p.toNat]?=some (bs[p.toNat]'(by omega)):=List.getElem?_eq_getElem (by omega)
  have hx2:=hb.2 _ (List.mem_of_getElem? hx)
  have w3:IntKind.wrap .i64 (bs[p.toNat]'(by omega))=bs[p.toNat]'(by omega):=wrap64 (by omega) (by omega)
  have:=pB hx2.1 (show 1<=n by omega)
  refine⟨_,?_,this.1,fun _=>this.2,by omega⟩
  simp only[c3,if_true,IV h0 hx,eB,aa,C.toInt_int,w3,hn0,du,aF]
 simp only[c3,if_false]
 have hmod:∀ a:Int,0<=a->0<=Int.tmod a (bs.length:Nat)/\(Int.tmod a (bs.length:Nat)).toNat<bs.length:=fun a ha=>by
  have:=pB ha (show (1:Int)<=(bs.length:Nat) by omega)
  exact⟨this.1,by omega⟩
 have hrow:∀(a:Int) (f:List C->Option Out),0<=a->∃ x,0<=x/\x<=255/\aI (.list (bs.map eB)) (.int .i64 (Int.tmod a (bs.length:Nat))) [.int .u8] f=f (eB x):=fun a f ha=>by
  obtain⟨m1,m2⟩:=hmod a ha
  have hx:bs[(Int.tmod a (bs.length:Nat)).toNat]?=some bs[(Int.tmod a (bs.length:Nat)).toNat]:=by simp[m2]
  have hx2:=hb.2 _ (List.mem_of_getElem? hx)
  exact⟨_,hx2.1,hx2.2,IV m1 hx⟩
 simp only[hl0,du]
 have w7:IntKind.wrap .i64 (IntKind.wrap .i64 (p*7)+3)=p*7+3:=by rw[wrap64 (x:=p*7) (by omega) (by omega),wrap64 (by omega) (by omega)]
 rw[w7]
 obtain⟨x,hx1,hx2,e⟩:=hrow p _ h0
 rw[e]
 simp only[eB,aa,C.toInt_int]
 obtain⟨y,hy1,hy2,e⟩:=hrow (p*7+3) _ (by omega)
 rw[e]
 simp only[eB,aa,C.toInt_int]
 have hd:0<=Int.tdiv p (bs.length:Nat)/\Int.tdiv p (bs.length:Nat)<=p:=by
  obtain⟨k,rfl⟩:=Int.eq_ofNat_of_zero_le h0
  rw[<-Int.ofNat_tdiv]
  have:=Nat.div_le_self k bs.length
  generalize k / bs.length=d at this ⊢
  omega
 have s1:IntKind.wrap .i64 x=x:=wrap64 (by omega) (by omega)
 have s2:IntKind.wrap .i64 y=y:=wrap64 (by omega) (by omega)
 have s3:IntKind.wrap .i64 (x*131)=x*131:=wrap64 (by omega) (by omega)
 have s4:IntKind.wrap .i64 (y*1117)=y*1117:=wrap64 (by omega) (by omega)
 have s5:IntKind.wrap .i64 (p*29)=p*29:=wrap64 (by omega) (by omega)
 have s6:IntKind.wrap .i64 (x*131+y*1117)=x*131+y*1117:=wrap64 (by omega) (by omega)
 have s7:IntKind.wrap .i64 (x*131+y*1117+p*29)=x*131+y*1117+p*29:=wrap64 (by omega) (by omega)
 have s8:IntKind.wrap .i64 (Int.tdiv p (bs.length:Nat))=Int.tdiv p (bs.length:Nat):=wrap64 (by omega) (by omega)
 have s9:IntKind.wrap .i64 (Int.tdiv p (bs.length:Nat)*53)=Int.tdiv p (bs.length:Nat)*53:=wrap64 (by omega) (by omega)
 have s10:IntKind.wrap .i64 (x*131+y*1117+p*29+Int.tdiv p (bs.length:Nat)*53)=x*131+y*1117+p*29+Int.tdiv p (bs.length:Nat)*53:=wrap64 (by omega) (by omega)
 simp only[s1,s2,s3,s4,s5,s6,s7,s8,s9,s10]
 generalize hz:x*131+y*1117+p*29+Int.tdiv p (bs.length:Nat)*53=z
 have hz':0<=z/\z<1099511627776:=by omega
 have hq:0<=Int.tdiv z 64/\Int.tdiv z 64<1099511627776:=by
  obtain⟨k,rfl⟩:=Int.eq_ofNat_of_zero_le hz'.1
  have:Int.tdiv (k:Int) 64=((k / 64:Nat):Int):=rfl
  rw[this];omega
 have s11:IntKind.wrap .i64 (Int.tdiv z 64)=Int.tdiv z 64:=wrap64 (by omega) (by omega)
 rw[s11]
 have hx:=JO hz' hq
 have s12:IntKind.wrap .i64 ((BitVec.ofInt 64 z ^^^ BitVec.ofInt 64 (Int.tdiv z 64)).toNat:Int)=((BitVec.ofInt 64 z ^^^ BitVec.ofInt 64 (Int.tdiv z 64)).toNat:Int):=wrap64 (by omega) (by omega)
 rw[s12]
 have:=pB (x:=((BitVec.ofInt 64 z ^^^ BitVec.ofInt 64 (Int.tdiv z 64)).toNat:Int)) (by omega) (show 1<=n by omega)
 exact⟨_,by simp only[hn0,du,aF],this.1,fun _=>this.2,by omega⟩
theorem ij{bs:List Int}(hb:Rd bs):∃ pk:Int->Int->Int,∀ p n,0<=p->p<=1000000000->n<=1000000000 ->
  aZ [.list (bs.map eB),.int .i64 p,.int .i64 n]=some [.int .i64 (pk p n),.list (bs.map eB),.int .i64 (p+1)]/\0<=pk p n/\(1<=n->pk p n<n)/\pk p n<=1000000000:=by
 classical
 refine⟨fun p n=>if h:0<=p/\p<=1000000000/\n<=1000000000 then Classical.choose (DT hb h.1 h.2.1 h.2.2) else 0,fun p n h0 h1 h2=>?_⟩
 dsimp only
 rw[dif_pos ⟨h0,h1,h2⟩]
 exact Classical.choose_spec (DT hb h0 h1 h2)
theorem pC{code:List Int}(hl:code.length<=1099511627776)(hc:∀ b∈code,0<=b/\b<=255):∃ bs,Rd bs/\mD [.list (code.map eB)]=some [.list (bs.map eB),.int .i64 0]:=by
 rw[q_fu]
 simp only[F_fu,aP,List.length_map]
 by_cases h:((code.length:Nat):Int)>2000
 ·refine⟨code.take 2000,⟨by simp;omega,fun b hb=>hc b (List.mem_of_mem_take hb)⟩,?_⟩
  simp only[h,if_true]
  rw[de (by omega) (by omega)]
  simp
 ·exact⟨code,⟨by omega,hc⟩,by simp[h]⟩
theorem BR:wZ []=some deskNew.e:=by rw[q_fl];rfl
theorem yA{id room:Int}:w4 [.int .i64 id,.int .i64 room] =
  some (if in_ id 1 3 && in_ room 0 9 then(⟨id,true,room,⟨[],0⟩⟩:House).e++[.bool true] else(⟨0,false,0,⟨[],0⟩⟩:House).e++[.bool false]):=by
 rw[q_do]
 simp (disch:=first|assumption|omega|(simp only[zL];omega)) only[F_do,oo,b8,Stock.e,List.cons_append,Int.reduceEq,reduceIte,zU,zT,aa]
 cases in_ id 1 3<;>cases in_ room 0 9<;>rfl
def nh:Nat->List Int->List House
 | _,[]=>[]
 | i,r::rs=>⟨((i+1:Nat):Int),true,r,⟨[],0⟩⟩::nh (i+1) rs
theorem Fc:∀(rs:List Int) (i:Nat),nh i rs=(rs.zipIdx (i+1)).map fun p=>⟨p.2,true,p.1,⟨[],0⟩⟩
 | [],i=>rfl
 | r::rs,i=>by simp[nh,Fc rs (i+1)]
def wd0:Wd:=⟨⟨false,⟨[],0⟩,[]⟩,[],[]⟩
theorem ov{rooms:List Int}(hL:rooms.length<=1099511627775):qJ [.list (rooms.map eI)]=some (((aT rooms).getD wd0).e++[.bool (aT rooms).isSome]):=by
 rw[q_dv]
 simp (disch:=first|assumption|omega|(simp only[zL];omega)) only[F_dv,BR,Desk.e,deskNew,Int.reduceEq,reduceIte,zU,zT,aa]
 have key:=ar (l:=rooms) (F:=fun ps=>tW (rooms.map eI) true [] 0 [] ((aa ps 0).toInt) ((aa ps 1).toList)) (enc:=fun i (s:List House)=>[.int .i64 i,.list (s.map House.e)])
  (res:=fun xs i s=>.ret (((if rooms.length=3/\xs.all (fun n=>in_ n 0 9)=true then some (⟨deskNew,s++nh i xs,[]⟩:Wd) else none).getD wd0).e++[.bool (if rooms.length=3/\xs.all (fun n=>in_ n 0 9)=true then some (⟨deskNew,s++nh i xs,[]⟩:Wd) else none).isSome])) (fun i s=>s.length=i) (s:=[]) (by simp) ?_ ?_
 ·have key:aJ _ [C.int .i64 0,C.list []]=_:=key
  simp only[List.map_nil]at key ⊢
  rw[key]
  have:(if rooms.length=3/\rooms.all (fun n=>in_ n 0 9)=true then some (⟨deskNew,[]++nh 0 rooms,[]⟩:Wd) else none)=aT rooms:=by
   unfold aT cJ
   rw[Fc];simp
  rw[this];rfl
 ·intro i x xs s hx hs
  have hi:=(List.getElem?_eq_some_iff.1 hx).1
  have hi':(i:Int)<(rooms.length:Nat):=by omega
  simp only[tW,aa,C.toInt_int,C.toList_list,List.length_map,aP,hi',if_true,ig hx,eI]
  simp (disch:=first|assumption|omega|(simp only[zL];omega)) only[al,yA]
  by_cases hok:(in_ ((i+1:Nat):Int) 1 3 && in_ x 0 9)=true
  ·have hr:=in_iff.1 (Bool.and_eq_true_iff.1 hok).1
   rw[if_pos hok]
   simp only[House.e,List.cons_append,List.nil_append,lQ,aa,C.toInt_int,C.toList_list,C.toBool_bool,List.map_nil,Bool.not_true,ay]
   rw[bE (by simp[cg];omega)]
   refine .inl ⟨s++[⟨((i+1:Nat):Int),true,x,⟨[],0⟩⟩],by simp[House.e],by simp[hs],?_⟩
   have:=(Bool.and_eq_true_iff.1 hok).2
   simp[nh,this]
  ·rw[if_neg hok]
   refine .inr ⟨_,rfl,?_⟩
   have:¬ (rooms.length=3/\(x::xs).all (fun n=>in_ n 0 9)=true):=by
    intro ⟨h3,ha⟩
    simp only[List.all_cons,Bool.and_eq_true]at ha
    exact hok (Bool.and_eq_true_iff.2 ⟨in_iff.2 (by omega),ha.1⟩)
   simp only[this,if_false];rfl
 ·intro s hs
  have h:¬ ((rooms.length:Int)<(rooms.length:Nat)):=by omega
  simp only[tW,aa,C.toInt_int,C.toList_list,List.length_map,aP,h,if_false,AC]
  by_cases h3:rooms.length=3
  ·have h3':((rooms.length:Nat):Int)=3:=by omega
   simp[h3,upD,nh,Wd.e,deskNew]
  ·have h3':¬ ((rooms.length:Nat):Int)=3:=by omega
   simp[h3,h3',upD,Wd.e,wd0]
end Dx
namespace Dx
open Go
def EvS(e:Ev):Prop:=e.m.length<=2000000
section
variable {bs:List Int}
def EvOut(bs:List Int)(p:Int)(r:Option (List C)):Prop:=∃(e:Ev) (p':Int),r=some (e.e++[.list (bs.map eB),.int .i64 p'])/\p<=p'/\p'<=p+10/\EvS e
theorem EvOut.ite{p:Int}{c:Prop}[Decidable c]{a b:Option (List C)}(ha:EvOut bs p a)(hb:EvOut bs p b):EvOut bs p (if c then a else b):=by split<;>assumption
theorem ka{p p' k a b:Int}(h1:p<=p')(h2:p'<=p+10):EvOut bs p (some [.int .i64 k,.int .i64 a,.int .i64 b,.list [],.list (bs.map eB),.int .i64 p']):=⟨⟨k,a,b,[]⟩,p',rfl,h1,h2,by simp[EvS]⟩
theorem JP{p p' k a b x y z:Int}(h1:p<=p')(h2:p'<=p+10):EvOut bs p (some [.int .i64 k,.int .i64 a,.int .i64 b,.list [[.int .i64 x],[.int .i64 y],[.int .i64 z]],.list (bs.map eB),.int .i64 p']):=⟨⟨k,a,b,[x,y,z]⟩,p',rfl,h1,h2,by simp[EvS]⟩
theorem ev0(hb:Rd bs){v p:Int}(h0:0<=p)(h1:p<=900000000)(b:Bool):EvOut bs p (ah (zm v (bs.map eB) p b)):=by
 obtain⟨pk,hpk⟩:=ij hb
 have q:=fun p n h0 h1 h2=>(hpk p n h0 h1 h2).1
 unfold zm
 simp (disch:=first|assumption|omega|(simp only[zL];omega)) only[q,Int.reduceEq,reduceIte,zU,zT,aa]
 cases b with
 | true=>simp only[aB,aF];exact ka (by omega) (by omega)
 | false =>
  simp only[ay,eG,aF]
  refine EvOut.ite (ka (by omega) (by omega)) (EvOut.ite (ka (by omega) (by omega)) (EvOut.ite (ka (by omega) (by omega)) (EvOut.ite (ka (by omega) (by omega)) (EvOut.ite (ka (by omega) (by omega)) (ka (by omega) (by omega))))))
theorem ev1(hb:Rd bs){n ws v p:Int}(h0:0<=p)(h1:p<=900000000)(hn:0<=n/\n<=1000)(hw:0<=ws/\ws<=1000)(b:Bool):EvOut bs p (ah (zn n ws v (bs.map eB) p b)):=by
 obtain⟨pk,hpk⟩:=ij hb
 have q:=fun p n h0 h1 h2=>(hpk p n h0 h1 h2).1
 have j:=fun b=>ev0 hb (v:=v) h0 h1 b
 unfold zn
 simp (disch:=first|assumption|omega|(simp only[zL];omega)) only[q,wrap64,Int.reduceEq,reduceIte,zU,zT,aa]
 cases b with
 | true=>simp only[aB,aF];exact ka (by omega) (by omega)
 | false =>
  simp only[ay,eG,aF]
  refine EvOut.ite (ka (by omega) (by omega)) (EvOut.ite (ka (by omega) (by omega)) (EvOut.ite (j _) (EvOut.ite (j _) (j _))))
theorem ev2(hb:Rd bs){n tr ws v p:Int}(h0:0<=p)(h1:p<=900000000)(hn:0<=n/\n<=1000)(ht:0<=tr/\tr<=1000)(hw:0<=ws/\ws<=1000)(b:Bool):EvOut bs p (ah (zo n tr ws v (bs.map eB) p b)):=by
 obtain⟨pk,hpk⟩:=ij hb
 have q:=fun p n h0 h1 h2=>(hpk p n h0 h1 h2).1
 have j:=fun b=>ev1 hb (v:=v) h0 h1 hn hw b
 unfold zo
 simp (disch:=first|assumption|omega|(simp only[zL];omega)) only[q,wrap64,Int.reduceEq,reduceIte,zU,zT,aa]
 cases b with
 | true=>simp only[aB,aF];exact JP (by omega) (by omega)
 | false =>
  simp only[ay,eG,aF]
  refine EvOut.ite (ka (by omega) (by omega)) (EvOut.ite (j _) (EvOut.ite (j _) (EvOut.ite (j _) (EvOut.ite (j _) (j _)))))
def EvOut'(bs:List Int)(p:Int)(r:Option (List C)):Prop:=∃(e:Ev) (p':Int),r=some (e.e++[.list (bs.map eB),.int .i64 p'])/\p<=p'/\p'<=p+20/\EvS e
theorem EvOut.up{p q:Int}{r:Option (List C)}(h:EvOut bs p r)(h1:q<=p)(h2:p<=q+10):EvOut' bs q r:=by
 obtain⟨e,p',e1,e2,e3,e4⟩:=h
 exact⟨e,p',e1,by omega,by omega,e4⟩
theorem EvOut'.ite{p:Int}{c:Prop}[Decidable c]{a b:Option (List C)}(ha:EvOut' bs p a)(hb:EvOut' bs p b):EvOut' bs p (if c then a else b):=by split<;>assumption
theorem ev3(hb:Rd bs){n tr ws p:Int}(h0:0<=p)(h1:p<=800000000)(hn:0<=n/\n<=1000)(ht:0<=tr/\tr<=1000)(hw:0<=ws/\ws<=1000):EvOut bs (p+1) (ah (zp n tr ws (bs.map eB) p)):=by
 obtain⟨pk,hpk⟩:=ij hb
 have q:=fun p n h0 h1 h2=>(hpk p n h0 h1 h2).1
 have j:=fun v b=>ev2 hb (n:=n) (tr:=tr) (ws:=ws) (v:=v) (p:=p+1) (by omega) (by omega) hn ht hw b
 unfold zp
 simp (disch:=first|assumption|omega|(simp only[zL];omega)) only[q,Int.reduceEq,reduceIte,zU,zT,aa]
 by_cases hv:pk p 20=0
 ·simp only[hv,if_true];exact j _ _
 ·simp only[hv,if_false];exact j _ _
theorem vq{d:Desk}(h:DkOk ⟨d.up,d.lg,[]⟩):(aV d).length<=18:=by
 have tF:TrOk (ai d.lg true):=h.trOk true
 have lF:=tF.len
 unfold aV
 split
 ·have:=jZ d.td (ak d true) 1 fun x hx=>by
   have:=bt (tripOk_iff.1 (tF.ok x hx)).1
   omega
  have e:(ak d true).length=(ai d.lg true).length:=rfl
  omega
 ·simp
theorem me(hb:Rd bs){p:Int}(h0:0<=p)(h1:p<=700000000){w:Wd}(hd:DkOk ⟨w.dk.up,⟨w.dk.lg.rs,w.dk.lg.f⟩,[]⟩)(htl:w.dk.td.length<=1000)(hnl:w.ns.length<=1000) :
  EvOut' bs p (nG [.list (bs.map eB),.int .i64 p,.bool w.dk.up,.list (w.dk.lg.rs.map Rec.e),.int .i64 w.dk.lg.f,.list (w.dk.td.map Word.e),.list (w.hs.map House.e),.list (w.ns.map Word.e)]):=by
 rw[q_ed]
 obtain⟨pk,hpk⟩:=ij hb
 have q:=fun p n h0 h1 h2=>(hpk p n h0 h1 h2).1
 have hS:=hd.lg.S
 have hS':LgS ⟨w.dk.lg.rs,w.dk.lg.f⟩:=hS
 have lA:=(hd.trOk false).len
 have hwl:(aV w.dk).length<=18:=vq (d:=w.dk) hd
 simp only[ak]at lA
 have lA':(ai w.dk.lg false).length<=6:=lA
 have j:=fun p h0 h1=>ev3 hb (n:=((w.ns.length:Nat):Int)) (tr:=((ai w.dk.lg false).length:Nat)) (ws:=((aV w.dk).length:Nat)) (p:=p) h0 h1 (by omega) (by omega) (by omega)
 simp (disch:=first|assumption|omega|(simp only[zL];omega)) only[F_ed,jc,mb hd,q,pA,Int.reduceEq,reduceIte,zU,zT,aa]
 by_cases hz:((w.ns.length:Nat):Int)>0
 ·simp only[hz,if_true]
  refine EvOut'.ite ?_ ?_
  ·exact⟨⟨4,_,0,[]⟩,p+1+1,rfl,by omega,by omega,by simp[EvS]⟩
  ·exact(j (p+1) (by omega) (by omega)).up (by omega) (by omega)
 ·simp only[hz,if_false]
  exact(j p h0 (by omega)).up (by omega) (by omega)
theorem yB(hb:Rd bs){p:Int}(h0:0<=p)(h1:p<=700000000){w:Wd}(ho:WOk w) :
  EvOut' bs p (nG [.list (bs.map eB),.int .i64 p,.bool w.dk.up,.list (w.dk.lg.rs.map Rec.e),.int .i64 w.dk.lg.f,.list (w.dk.td.map Word.e),.list (w.hs.map House.e),.list (w.ns.map Word.e)]) :=
 me hb h0 h1 ho.dk.bare (by have:=ho.dk.tdlen;omega) (by have:=ho.nlen;omega)
theorem yC(hb:Rd bs){p:Int}(h0:0<=p)(h1:p<=700000000) :
  ∃ a b c,wY [.list (bs.map eB),.int .i64 p]=some [.list ([a,b,c].map eI),.list (bs.map eB),.int .i64 (p+1+1+1)]/\0<=a/\a<=5/\0<=b/\b<=5/\1<=c/\c<=5:=by
 rw[q_du]
 obtain⟨pk,hpk⟩:=ij hb
 have q:=fun p n h0 h1 h2=>(hpk p n h0 h1 h2).1
 have r1:=hpk p 6 h0 (by omega) (by omega)
 have r2:=hpk (p+1) 6 (by omega) (by omega) (by omega)
 have r3:=hpk (p+1+1) 5 (by omega) (by omega) (by omega)
 have b1:=r1.2.2.1 (by omega)
 have b2:=r2.2.2.1 (by omega)
 have b3:=r3.2.2.1 (by omega)
 refine⟨pk p 6,pk (p+1) 6,1+pk (p+1+1) 5,?_,r1.2.1,by omega,r2.2.1,by omega,by omega,by omega⟩
 simp (disch:=first|assumption|omega|(simp only[zL];omega)) only[F_du,q,wrap64,Int.reduceEq,reduceIte,zU,zT,aa]
 rfl
end
theorem ql(w:Wd)(a b:List Ev):cK w (a++b)=cK (cK w a) b:=by
 induction a generalizing w with
 | nil=>rfl
 | cons e es ih=>exact ih _
structure Drawn (w0:Wd) (es:List Ev) (w:Wd) (n:Nat):Prop where
 play:w=cK w0 es
 len:es.length<=n
 sz:∀ e∈es,EvS e
theorem Drawn.snoc{w0 w:Wd}{es:List Ev}{n:Nat}(h:Drawn w0 es w n){e:Ev}(he:EvS e):Drawn w0 (es++[e]) (wdo w e) (n+1) :=
 ⟨by rw[h.play,ql];rfl,by have:=h.len;simp;omega,fun x hx=>by
  rcases List.mem_append.1 hx with hx|hx
  ·exact h.sz x hx
  ·simp at hx;exact hx ▸ he⟩
theorem ld{w:Wd}(ho:WOk w){e:Ev}(he:EvS e) :
  jR [.bool w.dk.up,.list (w.dk.lg.rs.map Rec.e),.int .i64 w.dk.lg.f,.list (w.dk.td.map Word.e),.list (w.hs.map House.e),.list (w.ns.map Word.e),.int .i64 e.k,.int .i64 e.a,.int .i64 e.b,.list (e.m.map eI)]=some (wdo w e).e :=
 FV (up:=w.dk.up) (rs:=w.dk.lg.rs) (f:=w.dk.lg.f) (td:=w.dk.td) (hs:=w.hs) (ns:=w.ns) ho (by have:=ho.dk.tdlen;omega) he
theorem Fd{l:List Ev}{i:Nat}{x:Ev}(h:l[i]?=some x){kk:IntKind}{f:List C->Option Out}:aI (.list (l.map Ev.e)) (.int kk i) [.int .i64,.int .i64,.int .i64,.list] f=f x.e:=fV h rfl
theorem rW{bs:List Int}(hb:Rd bs){p:Int}(h0:0<=p)(h1:p<=1000) :
  ∃ a b c w0 es w p',qS [.list (bs.map eB),.int .i64 p]=some ([.list ([a,b,c].map eI),.list (es.map Ev.e)]++(w.e++[.list (bs.map eB),.int .i64 p']))/\0<=a/\a<=5/\0<=b/\b<=5/\1<=c/\c<=5 ∧
   aT [a,b,c]=some w0/\Drawn w0 es w 74/\0<=p'/\p'<=p+2000:=by
 rw[q_er]
 obtain⟨pk,hpk⟩:=ij hb
 have q:=fun p n h0 h1 h2=>(hpk p n h0 h1 h2).1
 obtain⟨a,b,c,hr,ha1,ha2,hb1,hb2,hc1,hc2⟩:=yC hb h0 (by omega)
 have hw0:aT [a,b,c]=some ⟨deskNew,cJ [a,b,c],[]⟩:=by
  unfold aT
  rw[if_pos]
  simp[in_];omega
 generalize hw:(⟨deskNew,cJ [a,b,c],[]⟩:Wd)=w0 at hw0
 have ok0:=bN hw0
 have hwn:=ov (rooms:=[a,b,c]) (by simp)
 rw[hw0]at hwn
 simp only[Option.getD_some,Option.isSome_some,Wd.e,List.cons_append,List.nil_append]at hwn
 simp (disch:=first|assumption|omega|(simp only[zL];omega)) only[F_er,hr,hwn,q,Int.reduceEq,reduceIte,zU,zT,aa]
 have tail:∀(w1:Wd) (es1:List Ev),Drawn w0 es1 w1 2->∃ es w p',ah (uf ([a,b,c].map eI) w1.dk.up w1.dk.lg.f (bs.map eB) (p+1+1+1+1) (es1.map Ev.e) (w1.dk.lg.rs.map Rec.e) (w1.dk.td.map Word.e) (w1.hs.map House.e) (w1.ns.map Word.e)) =
   some ([.list ([a,b,c].map eI),.list (es.map Ev.e)]++(w.e++[.list (bs.map eB),.int .i64 p']))/\Drawn w0 es w 74/\0<=p'/\p'<=p+2000:=by
  intro w1 es1 hd1
  unfold uf
  simp (disch:=first|assumption|omega|(simp only[zL];omega)) only[q,Int.reduceEq,reduceIte,zU,zT,aa]
  have hn:=hpk (p+1+1+1+1) 72 (by omega) (by omega) (by omega)
  have hn2:=hn.2.2.1 (by omega)
  have hn1:=hn.2.1
  generalize pk (p+1+1+1+1) 72=n0 at hn1 hn2
  obtain⟨n,rfl⟩:=Int.eq_ofNat_of_zero_le hn1
  have key:=tv (F:=fun ps=>zq ([a,b,c].map eI) ((aa ps 0).toInt) ((aa ps 1).toList) ((aa ps 2).toInt) ((aa ps 3).toBool) ((aa ps 4).toInt) ((aa ps 5).toList) ((aa ps 6).toList) ((aa ps 7).toList) ((aa ps 8).toList) ((aa ps 9).toList))
   (I:=fun k ps=>∃ es w p',ps=[.int .i64 (k:Int),.list (bs.map eB),.int .i64 p',.bool w.dk.up,.int .i64 w.dk.lg.f,.list (es.map Ev.e),.list (w.dk.lg.rs.map Rec.e),.list (w.dk.td.map Word.e),.list (w.hs.map House.e),.list (w.ns.map Word.e)]/\k<=72/\Drawn w0 es w (74-k)/\0<=p'/\p'<=p+5+20*(72-k))
   (Q:=fun o=>∃ es w p',o=.ret ([.list ([a,b,c].map eI),.list (es.map Ev.e)]++(w.e++[.list (bs.map eB),.int .i64 p']))/\Drawn w0 es w 74/\0<=p'/\p'<=p+2000) ?_ n _
   ⟨es1,w1,p+1+1+1+1+1,rfl,by omega,⟨hd1.play,by have:=hd1.len;omega,hd1.sz⟩,by omega,by omega⟩
  ·obtain⟨o,h1,es,w,p',rfl,h2,h3,h4⟩:=key
   exact⟨es,w,p',by rw[h1];rfl,h2,h3,h4⟩
  ·rintro k ps ⟨es,w,p',rfl,hk,hd,hp0,hp1⟩
   have ow:WOk w:=by rw[hd.play];exact ok0.plays es
   simp only[aa,C.toInt_int,C.toBool_bool,C.toList_list]
   unfold zq
   simp only[aP]
   by_cases hk0:(k:Int)>0
   ·left
    simp only[hk0,if_true]
    obtain⟨e,p2,he,he1,he2,he3⟩:=yB hb hp0 (by omega) ow
    rw[he]
    simp only[Ev.e,List.cons_append,List.nil_append,rT,aa,C.toInt_int,C.toList_list]
    rw[ld ow he3]
    have hlen:=hd.len
    rw[bE (by simp[cg];omega)]
    simp only[Wd.e,bO,aa,C.toInt_int,C.toList_list,C.toBool_bool]
    refine⟨_,k-1,by omega,rfl,es++[e],wdo w e,p2,?_,by omega,?_,by omega,by omega⟩
    ·rw[wrap64 (by omega) (by omega)]
     have:(k:Int)-1=((k-1:Nat):Int):=by omega
     rw[this];simp[Ev.e]
    ·have:=hd.snoc he3
     exact⟨this.play,by have:=this.len;omega,this.sz⟩
   ·right
    simp only[hk0,if_false]
    exact⟨_,rfl,es,w,p',rfl,⟨hd.play,by have:=hd.len;omega,hd.sz⟩,hp0,by omega⟩
 have fin:∀(w1:Wd) (es1:List Ev),Drawn w0 es1 w1 2->∃ a' b' c' w0' es w p',ah (uf ([a,b,c].map eI) w1.dk.up w1.dk.lg.f (bs.map eB) (p+1+1+1+1) (es1.map Ev.e) (w1.dk.lg.rs.map Rec.e) (w1.dk.td.map Word.e) (w1.hs.map House.e) (w1.ns.map Word.e)) =
   some ([.list ([a',b',c'].map eI),.list (es.map Ev.e)]++(w.e++[.list (bs.map eB),.int .i64 p']))/\0<=a'/\a'<=5/\0<=b'/\b'<=5/\1<=c'/\c'<=5/\aT [a',b',c']=some w0'/\Drawn w0' es w 74/\0<=p'/\p'<=p+2000:=by
  intro w1 es1 hd1
  obtain⟨es,w,p',h1,h2,h3,h4⟩:=tail w1 es1 hd1
  exact⟨a,b,c,w0,es,w,p',h1,ha1,ha2,hb1,hb2,hc1,hc2,hw0,h2,h3,h4⟩
 by_cases hz:pk (p+1+1+1) 3>0
 ·simp only[hz,if_true]
  have e1:EvS ⟨1,0,0,[1,1,1]⟩:=by simp[EvS]
  have e2:EvS ⟨7,0,0,[]⟩:=by simp[EvS]
  have key:=ar (l:=[(⟨1,0,0,[1,1,1]⟩:Ev),⟨7,0,0,[]⟩]) (F:=fun ps=>pY (bs.map eB) (p+1+1+1+1) ([(⟨1,0,0,[1,1,1]⟩:Ev),⟨7,0,0,[]⟩].map Ev.e) 2 ((aa ps 0).toInt) ((aa ps 1).toBool) ((aa ps 2).toInt) ((aa ps 3).toList) ((aa ps 4).toList) ((aa ps 5).toList) ((aa ps 6).toList) ((aa ps 7).toList))
   (enc:=fun i (s:List Ev×Wd)=>[.int .i64 i,.bool s.2.dk.up,.int .i64 s.2.dk.lg.f,.list (s.1.map Ev.e),.list (s.2.dk.lg.rs.map Rec.e),.list (s.2.dk.td.map Word.e),.list (s.2.hs.map House.e),.list (s.2.ns.map Word.e)])
   (res:=fun xs _ s=>.jump [.bool (cK s.2 xs).dk.up,.int .i64 (cK s.2 xs).dk.lg.f,.list (bs.map eB),.int .i64 (p+1+1+1+1),.list ((s.1++xs).map Ev.e),.list ((cK s.2 xs).dk.lg.rs.map Rec.e),.list ((cK s.2 xs).dk.td.map Word.e),.list ((cK s.2 xs).hs.map House.e),.list ((cK s.2 xs).ns.map Word.e)])
   (fun i s=>WOk s.2/\s.1.length=i) (s:=([],w0)) ⟨ok0,rfl⟩ ?_ ?_
  ·have key:aJ (fun ps=>pY (bs.map eB) (p+1+1+1+1) [[C.int .i64 1,C.int .i64 0,C.int .i64 0,C.list [[C.int .i64 1],[C.int .i64 1],[C.int .i64 1]]],[C.int .i64 7,C.int .i64 0,C.int .i64 0,C.list []]] (((0+1+1:Nat):Int)) ((aa ps 0).toInt) ((aa ps 1).toBool) ((aa ps 2).toInt) ((aa ps 3).toList) ((aa ps 4).toList) ((aa ps 5).toList) ((aa ps 6).toList) ((aa ps 7).toList))
    [C.int .i64 0,C.bool w0.dk.up,C.int .i64 w0.dk.lg.f,C.list [],C.list (w0.dk.lg.rs.map Rec.e),C.list (w0.dk.td.map Word.e),C.list (w0.hs.map House.e),C.list (w0.ns.map Word.e)]=_:=key
   rw[key]
   exact fin _ _ ⟨rfl,by simp,fun e he=>by
    simp at he;rcases he with rfl|rfl<;>assumption⟩
  ·rintro i x xs ⟨es,w⟩ hx ⟨ow,hl⟩
   have hi:=(List.getElem?_eq_some_iff.1 hx).1
   have hi':(i:Int)<2:=by simp at hi;omega
   have hx3:EvS x:=by
    have:=List.mem_of_getElem? hx
    simp at this;rcases this with rfl|rfl<;>assumption
   simp only at hl
   simp only[aa,C.toInt_int,C.toBool_bool,C.toList_list]
   unfold pY
   simp only[aP,hi',if_true,Fd hx,Ev.e,aa,C.toInt_int,C.toList_list,ld ow hx3]
   rw[bE (by simp;omega),bE (by simp[cg];omega)]
   simp only[Wd.e,bO,aa,C.toInt_int,C.toList_list,C.toBool_bool]
   rw[al (by omega)]
   refine .inl ⟨(es++[x],wdo w x),?_,⟨ow.do_ x,by simp[hl]⟩,?_⟩
   ·simp[Ev.e]
   ·simp[cK]
  ·rintro⟨es,w⟩ ⟨ow,hl⟩
   simp only[aa,C.toInt_int,C.toBool_bool,C.toList_list]
   unfold pY
   simp[aP,cK]
 ·simp only[hz,if_false]
  exact fin w0 [] ⟨rfl,by simp,by simp⟩
theorem il{code:List Int}(hl:code.length<=1099511627776)(hc:∀ b∈code,0<=b/\b<=255) :
  ∃(rooms:List Int) (es:List Ev),gZ [.list (code.map eB)]=some [.list (rooms.map eI),.list (es.map Ev.e)]/\rooms.length<=4/\es.length<=81/\(∀ e∈es,EvS e):=by
 rw[q_ax]
 obtain⟨bs,hb,ho⟩:=pC hl hc
 obtain⟨pk,hpk⟩:=ij hb
 have q:=fun p n h0 h1 h2=>(hpk p n h0 h1 h2).1
 obtain⟨a,b,c,w0,es,w,p',hp,_,_,_,_,_,_,hw0,hd,hp0,hp1⟩:=rW hb (p:=0) (by omega) (by omega)
 simp only[Wd.e,List.cons_append,List.nil_append]at hp
 have hp1':p'<=1000000000:=by omega
 simp (disch:=first|assumption|omega|(simp only[zL];omega)) only[F_ax,ho,hp,q,Int.reduceEq,reduceIte,zU,zT,aa]
 have hl:=hd.len
 by_cases c1:pk p' 40=0
 ·refine⟨[a,b,c,1],es,?_,by simp,by omega,hd.sz⟩
  simp only[c1,if_true]
  rfl
 ·simp only[c1,if_false]
  by_cases c2:pk p' 40=1
  ·simp only[c2,if_true]
   have key:=tv (F:=fun ps=>zV ([a,b,c].map eI) ((aa ps 0).toList))
    (I:=fun k ps=>∃ es:List Ev,ps=[.list (es.map Ev.e)]/\(∀ e∈es,EvS e)/\es.length+k=81)
    (Q:=fun o=>∃ es:List Ev,o=.ret [.list ([a,b,c].map eI),.list (es.map Ev.e)]/\(∀ e∈es,EvS e)/\es.length<=81) ?_ (81-es.length) _ ⟨es,rfl,hd.sz,by omega⟩
   ·obtain⟨o,h1,es2,rfl,h2,h3⟩:=key
    exact⟨[a,b,c],es2,by rw[h1];rfl,by simp,h3,h2⟩
   ·rintro k ps ⟨es,rfl,h1,h2⟩
    simp only[aa,C.toList_list]
    unfold zV
    simp only[aP,List.length_map]
    by_cases hk:((es.length:Nat):Int)<=80
    ·left
     simp only[hk,if_true]
     rw[bE (by simp[cg];omega)]
     refine⟨_,k-1,by omega,rfl,es++[⟨7,0,0,[]⟩],by simp[Ev.e],fun e he=>?_,by simp;omega⟩
     rcases List.mem_append.1 he with he|he
     ·exact h1 e he
     ·simp at he;subst he;simp[EvS]
    ·right
     simp only[hk,if_false]
     exact⟨_,rfl,es,rfl,h1,by omega⟩
  ·simp only[c2,if_false]
   exact⟨[a,b,c],es,rfl,by simp,by omega,hd.sz⟩
theorem mf{rooms:List Int}{es:List Ev}(hr:rooms.length<=1099511627775)(hl:es.length<=1099511627776)(hs:∀ e∈es,EvS e) :
  hD [.list (rooms.map eI),.list (es.map Ev.e)]=some (((bM rooms es).getD wd0).e++[.bool (bM rooms es).isSome]):=by
 rw[q_dg]
 have hwn:=ov (rooms:=rooms) hr
 simp only[Wd.e,List.cons_append,List.nil_append]at hwn
 simp (disch:=first|assumption|omega|(simp only[zL];omega)) only[F_dg,hwn,Int.reduceEq,reduceIte,zU,zT,aa]
 unfold bM
 cases hw:aT rooms with
 | none=>simp[Wd.e,wd0]
 | some w0 =>
  have ok0:=bN hw
  simp only[Option.isSome_some,Bool.not_true,aB,ay,Option.getD_some,Option.map_some]
  by_cases h80:((es.length:Nat):Int)>80
  ·have h80':es.length>80:=by omega
   simp[h80,h80',Wd.e,wd0]
  ·have h80':¬ es.length>80:=by omega
   simp only[h80,h80',if_false]
   have key:=ar (l:=es) (F:=fun ps=>uB (es.map Ev.e) ((aa ps 0).toInt) ((aa ps 1).toBool) ((aa ps 2).toInt) ((aa ps 3).toList) ((aa ps 4).toList) ((aa ps 5).toList) ((aa ps 6).toList))
    (enc:=fun i (w:Wd)=>[.int .i64 i,.bool w.dk.up,.int .i64 w.dk.lg.f,.list (w.dk.lg.rs.map Rec.e),.list (w.dk.td.map Word.e),.list (w.hs.map House.e),.list (w.ns.map Word.e)])
    (res:=fun xs _ w=>.ret ((cK w xs).e++[.bool true])) (fun _ w=>WOk w) (s:=w0) ok0 ?_ ?_
   ·have key:aJ _ [C.int .i64 0,C.bool w0.dk.up,C.int .i64 w0.dk.lg.f,C.list (w0.dk.lg.rs.map Rec.e),C.list (w0.dk.td.map Word.e),C.list (w0.hs.map House.e),C.list (w0.ns.map Word.e)]=_:=key
    rw[key];rfl
   ·intro i x xs w hx ow
    have hi:=(List.getElem?_eq_some_iff.1 hx).1
    have hi':(i:Int)<(es.length:Nat):=by omega
    have hx3:=hs x (List.mem_of_getElem? hx)
    simp only[aa,C.toInt_int,C.toBool_bool,C.toList_list]
    unfold uB
    simp only[aP,List.length_map,hi',if_true,Fd hx,Ev.e,aa,C.toInt_int,C.toList_list,ld ow hx3]
    simp only[Wd.e,bO,aa,C.toInt_int,C.toList_list,C.toBool_bool]
    rw[al (by omega)]
    exact .inl ⟨wdo w x,rfl,ow.do_ x,rfl⟩
   ·intro w ow
    have h:¬ ((es.length:Int)<(es.length:Nat)):=by omega
    simp only[aa,C.toInt_int,C.toBool_bool,C.toList_list]
    unfold uB
    simp only[aP,List.length_map,h,if_false,lx]
    rfl
end Dx
namespace Dx
open Go
def nu{α:Type}(p:α->Bool):Nat->List α->Int
 | _,[]=>-1
 | i,x::xs=>if p x then(i:Int) else nu p (i+1) xs
theorem eV{α:Type}(p:α->Bool):∀(xs:List α) (i:Nat),(nu p i xs>=0)↔xs.any p=true
 | [],i=>by simp[nu]
 | x::xs,i=>by
  simp only[nu,List.any_cons,Bool.or_eq_true]
  by_cases h:p x=true
  ·rw[if_pos h];simp[h]
  ·rw[if_neg h,eV p xs (i+1)];simp[h]
theorem iv{α:Type}{F:List C->Option Out}{l:List α}(p:α->Bool)
  (hs:∀(i:Nat) (x:α),l[i]?=some x->F [.int .i64 i]=if p x then some (.up (.ret [.int .i64 i])) else some (.jump [.int .i64 ((i+1:Nat):Int)]))
  (hf:F [.int .i64 (l.length:Nat)]=some (.up (.ret [.int .i64 (-1)]))):aJ F [.int .i64 0]=some (.ret [.int .i64 (nu p 0 l)]):=by
 have:=ar (l:=l) (F:=F) (enc:=fun i (_:Unit)=>[.int .i64 i]) (res:=fun xs i _=>.ret [.int .i64 (nu p i xs)]) (fun _ _=>True) (s:=()) trivial
  (fun i x xs s hx _=>by
   rw[hs i x hx]
   cases h:p x with
   | true=>exact .inr ⟨_,rfl,by simp[nu,h]⟩
   | false=>exact .inl ⟨(),rfl,trivial,by simp[nu,h]⟩)
  (fun s _=>hf)
 exact this
theorem ly(n lo hi:Int):bV [.int .i64 n,.int .i64 lo,.int .i64 hi]=some [.bool (in_ n lo hi)]:=by
 rw[q_gx]
 simp only[F_gx,ge_iff_le,in_]
 cases decide (lo<=n)<;>rfl
theorem lf(n:Int):gr [.int .i64 n]=some [.bool (in_ n 1 6)]:=by
 rw[q_fy];simp (disch:=first|assumption|omega|(simp only[zL];omega)) only[F_fy,ly,Int.reduceEq,reduceIte,zU,zT,aa]
theorem dy(n:Int):fX [.int .i64 n]=some [.bool (in_ n 1 3)]:=by
 rw[q_em];simp (disch:=first|assumption|omega|(simp only[zL];omega)) only[F_em,ly,Int.reduceEq,reduceIte,zU,zT,aa]
theorem i_w1(n:Int):xh [.int .i64 n]=some [.bool (!in_ n 0 3)]:=by
 rw[q_bv];simp (disch:=first|assumption|omega|(simp only[zL];omega)) only[F_bv,ly,Int.reduceEq,reduceIte,zU,zT,aa]
theorem i_w2(n:Int):xk [.int .i64 n]=some [.bool (n != 0)]:=by
 rw[q_bz];simp (disch:=first|assumption|omega|(simp only[zL];omega)) only[F_bz,Int.reduceEq,reduceIte,zU,zT,aa]
theorem i_ix1{m:List Int}(hL:m.length<=1099511627776):xi [.list (m.map eI)]=some [.int .i64 (nu (fun n=>!in_ n 0 3) 0 m)]:=by
 rw[q_ao];unfold F_ao
 simp only[List.length_map]
 rw[iv (l:=m) (fun n=>!in_ n 0 3)]
 ·rfl
 ·intro i x hx
  have hi:=(List.getElem?_eq_some_iff.1 hx).1
  have hi':(i:Int)<(m.length:Nat):=by omega
  simp (disch:=first|assumption|omega|(simp only[zL];omega)) only[zu,ig hx,eI,al,hi',if_true,i_w1,Int.reduceEq,reduceIte,zU,zT,aa]
  cases in_ x 0 3<;>rfl
 ·have h:¬ ((m.length:Int)<(m.length:Nat)):=by omega
  simp (disch:=first|assumption|omega|(simp only[zL];omega)) only[zu,h,if_false,Int.reduceEq,reduceIte,zU,zT,aa]
theorem i_ix2{m:List Int}(hL:m.length<=1099511627776):xl [.list (m.map eI)]=some [.int .i64 (nu (fun n=>n != 0) 0 m)]:=by
 rw[q_an];unfold F_an
 simp only[List.length_map]
 rw[iv (l:=m) (fun n=>n != 0)]
 ·rfl
 ·intro i x hx
  have hi:=(List.getElem?_eq_some_iff.1 hx).1
  have hi':(i:Int)<(m.length:Nat):=by omega
  simp (disch:=first|assumption|omega|(simp only[zL];omega)) only[zv,ig hx,eI,al,hi',if_true,i_w2,Int.reduceEq,reduceIte,zU,zT,aa]
  by_cases h:x=0<;>simp[h]
 ·have h:¬ ((m.length:Int)<(m.length:Nat)):=by omega
  simp (disch:=first|assumption|omega|(simp only[zL];omega)) only[zv,h,if_false,Int.reduceEq,reduceIte,zU,zT,aa]
theorem i_cf1{m:List Int}(hL:m.length<=1099511627776):xj [.list (m.map eI)]=some [.bool (m.any fun n=>!in_ n 0 3)]:=by
 rw[q_ak];simp (disch:=first|assumption|omega|(simp only[zL];omega)) only[F_ak,i_ix1,eV,Bool.decide_eq_true,Int.reduceEq,reduceIte,zU,zT,aa]
theorem i_cf2{m:List Int}(hL:m.length<=1099511627776):xm [.list (m.map eI)]=some [.bool (m.any fun n=>n != 0)]:=by
 rw[q_al];simp (disch:=first|assumption|omega|(simp only[zL];omega)) only[F_al,i_ix2,eV,Bool.decide_eq_true,Int.reduceEq,reduceIte,zU,zT,aa]
theorem oz{m:List Int}(hL:m.length<=1099511627776):qT [.list (m.map eI)]=some [.bool (cZ m)]:=by
 rw[q_dy]
 simp (disch:=first|assumption|omega|(simp only[zL];omega)) only[F_dy,i_cf1,i_cf2,Int.reduceEq,reduceIte,zU,zT,aa]
 by_cases h:m.length=3
 ·have h':((m.length:Nat):Int)=3:=by omega
  simp only[h',if_true]
  match m,h with
  | [a,b,c],_ =>
   have e1:∀ x:Int,in_ x 0 3=true->0<=x:=fun x hx=>(in_iff.1 hx).1
   cases ha:in_ a 0 3<;>cases hb:in_ b 0 3<;>cases hc:in_ c 0 3<;>simp[cZ,ha,hb,hc]
   have:=e1 a ha;have:=e1 b hb;have:=e1 c hc
   rw[Bool.eq_iff_iff];simp;omega
 ·have h':¬ ((m.length:Nat):Int)=3:=by omega
  simp[h,h',cZ]
theorem lz{k t:Int}{m:List Int}(hL:m.length<=1099511627776):iC [.int .i64 k,.int .i64 t,.list (m.map eI)]=some [.bool (aL ⟨k,t,m⟩)]:=by
 rw[q_gr]
 simp (disch:=first|assumption|omega|(simp only[zL];omega)) only[F_gr,ly,lf,oz,aL,Int.reduceEq,reduceIte,zU,zT,aa]
 by_cases h1:k=1
 ·subst h1
  have e1:in_ 1 1 7=true:=rfl
  simp only[if_true,e1]
  match m with
  | []=>cases in_ t 1 6<;>rfl
  | [n]=>simp (disch:=first|assumption|omega|(simp only[zL];omega)) only[List.length_cons,List.length_nil,FT,eI,ly,Int.reduceEq,reduceIte,zU,zT,aa]
         cases in_ t 1 6<;>simp
  | a::b::l =>
   have:¬ ((((a::b::l).length:Nat):Int)=1):=by simp;omega
   simp only[this,if_false]
   cases in_ t 1 6<;>simp
 ·by_cases h4:k=4
  ·subst h4
   have e1:in_ 4 1 7=true:=rfl
   simp only[e1]
   cases in_ t 1 6<;>simp
  ·simp only[h1,h4,if_false]
   have e1:in_ k 1 7=in_ k 2 7:=by rw[Bool.eq_iff_iff,in_iff,in_iff];omega
   rw[e1]
   have e2:(((m.length:Nat):Int)==0)=m.isEmpty:=by cases m<;>simp;omega
   rw[e2]
   cases in_ t 1 6<;>cases in_ k 2 7<;>simp
theorem Dc{k t:Int}{m:List Int}(hL:m.length<=1099511627776):xn [.int .i64 k,.int .i64 t,.list (m.map eI)]=some [.bool (!aL ⟨k,t,m⟩)]:=by
 rw[q_fn];simp (disch:=first|assumption|omega|(simp only[zL];omega)) only[F_fn,lz,Int.reduceEq,reduceIte,zU,zT,aa]
theorem i_ixR{rs:List Rec}(hL:rs.length<=1099511627776)(hm:∀ r∈rs,r.m.length<=1099511627776):xo [.list (rs.map Rec.e)]=some [.int .i64 (nu (fun r=>!aL r) 0 rs)]:=by
 rw[q_am];unfold F_am
 simp only[List.length_map]
 rw[iv (l:=rs) (fun r=>!aL r)]
 ·rfl
 ·intro i x hx
  have hi:=(List.getElem?_eq_some_iff.1 hx).1
  have hi':(i:Int)<(rs.length:Nat):=by omega
  have hxm:=hm x (List.mem_of_getElem? hx)
  simp (disch:=first|assumption|omega|(simp only[zL];omega)) only[zw,kZ hx,Rec.e,al,hi',if_true,Dc,Int.reduceEq,reduceIte,zU,zT,aa]
  cases aL x<;>rfl
 ·have h:¬ ((rs.length:Int)<(rs.length:Nat)):=by omega
  simp (disch:=first|assumption|omega|(simp only[zL];omega)) only[zw,h,if_false,Int.reduceEq,reduceIte,zU,zT,aa]
theorem i_cfR{rs:List Rec}(hL:rs.length<=1099511627776)(hm:∀ r∈rs,r.m.length<=1099511627776):xp [.list (rs.map Rec.e)]=some [.bool (rs.any fun r=>!aL r)]:=by
 rw[q_aj];simp (disch:=first|assumption|omega|(simp only[zL];omega)) only[F_aj,i_ixR,eV,Bool.decide_eq_true,Int.reduceEq,reduceIte,zU,zT,aa]
theorem lB{rs:List Rec}{f:Int}(hl:LgS ⟨rs,f⟩):iD [.list (rs.map Rec.e),.int .i64 f]=some [.bool (gv ⟨rs,f⟩)]:=by
 rw[q_gt]
 have h1:rs.length<=1099511627776:=by have:=hl.1;simp only at this;omega
 have h2:∀ r∈rs,r.m.length<=1099511627776:=hl.2
 simp (disch:=first|assumption|omega|(simp only[zL];omega)) only[F_gt,ly,i_cfR h1 h2,gv,Int.reduceEq,reduceIte,zU,zT,aa]
 have e:rs.any (fun r=>!aL r)=!rs.all aL:=by simp[List.any_eq_not_all_not]
 rw[e,Bool.not_not]
 by_cases h40:rs.length<=40
 ·have h40':((rs.length:Nat):Int)<=40:=by omega
  simp only[h40,h40',if_true,decide_true,Bool.true_and]
  cases in_ f 0 (rs.length:Nat)<;>simp
 ·have h40':¬ ((rs.length:Nat):Int)<=40:=by omega
  simp only[h40,h40',if_false,decide_false,Bool.false_and,Bool.and_false]
def TrS(l:List Trip):Prop:=l.length<=2000000/\∀ t∈l,t.m.length<=1099511627776
theorem TrOk.S{l:List Trip}(h:TrOk l):TrS l:=⟨by have:=h.len;omega,fun t ht=>by have:=bt (tripOk_iff.1 (h.ok t ht)).1;omega⟩
theorem yD{m:List Int}{s:Int}(hL:m.length<=1099511627776):xq [.list (m.map eI),.int .i64 s]=some [.bool (!ei ⟨m,s⟩)]:=by
 rw[q_dh];simp (disch:=first|assumption|omega|(simp only[zL];omega)) only[F_dh,oz,ly,ei,Int.reduceEq,reduceIte,zU,zT,aa]
 cases cZ m<;>simp
theorem i_ixT{l:List Trip}(hl:TrS l):xr [.list (l.map Trip.e)]=some [.int .i64 (nu (fun t=>!ei t) 0 l)]:=by
 rw[q_ag];unfold F_ag
 have h1:=hl.1
 simp only[List.length_map]
 rw[iv (l:=l) (fun t=>!ei t)]
 ·rfl
 ·intro i x hx
  have hi:=(List.getElem?_eq_some_iff.1 hx).1
  have hi':(i:Int)<(l.length:Nat):=by omega
  have hxm:=hl.2 x (List.mem_of_getElem? hx)
  simp (disch:=first|assumption|omega|(simp only[zL];omega)) only[zx,dS hx,Trip.e,al,hi',if_true,yD,Int.reduceEq,reduceIte,zU,zT,aa]
  cases ei x<;>rfl
 ·have h:¬ ((l.length:Int)<(l.length:Nat)):=by omega
  simp (disch:=first|assumption|omega|(simp only[zL];omega)) only[zx,h,if_false,Int.reduceEq,reduceIte,zU,zT,aa]
theorem BS{l:List Trip}(hl:TrS l):xu [.list (l.map Trip.e)]=some [.bool (eQ l)]:=by
 rw[q_fk]
 have hc:xt [.list (l.map Trip.e)]=some [.bool (l.any fun t=>!ei t)]:=by
  rw[q_ad];simp (disch:=first|assumption|omega|(simp only[zL];omega)) only[F_ad,i_ixT,eV,Bool.decide_eq_true,Int.reduceEq,reduceIte,zU,zT,aa]
 simp (disch:=first|assumption|omega|(simp only[zL];omega)) only[F_fk,hc,eQ,Int.reduceEq,reduceIte,zU,zT,aa]
 have e:l.any (fun t=>!ei t)=!l.all ei:=by simp[List.any_eq_not_all_not]
 rw[e,Bool.not_not]
 by_cases h:l.length<=6
 ·have h':((l.length:Nat):Int)<=6:=by omega
  simp[h,h']
 ·have h':¬ ((l.length:Nat):Int)<=6:=by omega
  simp[h,h']
theorem rX{l:List Trip}(hl:l.length<=1099511627776){t:Int}:qU [.list (l.map Trip.e),.int .i64 t]=some [.int .i64 (if in_ t 1 l.length then(tAt l t).s else 0)]:=by
 rw[q_ff]
 simp (disch:=first|assumption|omega|(simp only[zL];omega)) only[F_ff,ly,Int.reduceEq,reduceIte,zU,zT,aa]
 rcases Bool.eq_false_or_eq_true (in_ t 1 (l.length:Nat))with h|h
 ·have h':=in_iff.1 h
  simp (disch:=first|assumption|omega|(simp only[zL];omega)) only[h,Bool.not_true,if_true,wrap64,og,Trip.e,Int.reduceEq,reduceIte,zU,zT,aa]
 ·simp[h]
theorem oA{l:List Trip}(hl:TrS l){k t:Int}{m:List Int}(hL:m.length<=1099511627776) :
  qV [.list (l.map Trip.e),.int .i64 k,.int .i64 t,.list (m.map eI)]=some [.bool (eQ l && (aL ⟨k,t,m⟩ && cG l ⟨k,t,m⟩))]:=by
 rw[q_ec]
 have h1:=hl.1
 simp (disch:=first|assumption|omega|(simp only[zL];omega)) only[F_ec,BS,lz,rX,wrap64,Int.reduceEq,reduceIte,zU,zT,aa]
 cases eQ l with
 | false=>rfl
 | true =>
  cases hr:aL ⟨k,t,m⟩with
  | false=>rfl
  | true =>
   have ht:=cU hr
   simp only at ht
   simp only[aB,Bool.not_true,ay,Bool.true_and,cG]
   by_cases h4:k=4
   ·simp[h4]
   ·simp only[h4,if_false]
    by_cases hlt:t>(l.length:Nat)
    ·have hf:in_ t 1 (l.length:Nat)=false:=in_false.2 (by omega)
     simp only[hlt,if_true,hf,Bool.false_eq_true,if_false]
     by_cases h5:k=5
     ·simp[h5]
     ·by_cases h6:k=6
      ·simp[h6]
      ·by_cases h7:k=7<;>simp[h5,h6,h7]
    ·have hf:in_ t 1 (l.length:Nat)=true:=in_iff.2 (by omega)
     simp only[hlt,hf,if_true,if_false]
     by_cases h5:k=5
     ·simp[h5]
     ·by_cases h6:k=6
      ·simp[h6]
      ·by_cases h7:k=7
       ·by_cases hs:(tAt l t).s=2<;>simp[h7,hs]
       ·simp[h5,h6,h7]
theorem pD{m:List Int}(hL:m.length<=1099511627776):nJ [.list (m.map eI)]=some [.list (m.map eI)]:=by
 rw[q_bo]
 cases m with
 | nil=>simp[F_bo,dK,bE,cg]
 | cons a l =>
  have:((a::l).map eI).isEmpty=false:=rfl
  simp only[F_bo,this,ay,List.nil_append,tq,du]
  rw[bE (by simp[cg]at *;omega)]
  rfl
theorem BT{l:List Trip}(hl:TrS l){k t:Int}{m:List Int}(hL:m.length<=1099511627776) :
  xv [.list (l.map Trip.e),.int .i64 k,.int .i64 t,.list (m.map eI)] =
   some (if eQ l && (aL ⟨k,t,m⟩ && cG l ⟨k,t,m⟩) then [.list ((cQ l ⟨k,t,m⟩).map Trip.e),.bool true] else [.list [],.bool false]):=by
 rw[q_fa]
 simp (disch:=first|assumption|omega|(simp only[zL];omega)) only[F_fa,oA,Int.reduceEq,reduceIte,zU,zT,aa]
 rcases Bool.eq_false_or_eq_true (eQ l && (aL ⟨k,t,m⟩ && cG l ⟨k,t,m⟩))with h|h
 case inr=>simp[h]
 simp only[h,Bool.not_true,aB,ay,if_true]
 simp only[Bool.and_eq_true]at h
 obtain⟨ho,hr,hm⟩:=h
 have ht:=cU hr
 have hml:=fN hr
 have hT:=tripsOk_iff.1 ho
 have hl6:=hT.len
 simp only at ht hml
 have key:=ar (l:=l) (F:=fun ps=>uh (l.map Trip.e) k t (m.map eI) ((l.length:Nat):Int) ((aa ps 0).toInt) ((aa ps 1).toList)) (enc:=fun i (s:List Trip)=>[.int .i64 i,.list (s.map Trip.e)])
  (res:=fun xs _ s=>.ret [.list ((cQ (s++xs) ⟨k,t,m⟩).map Trip.e),.bool true]) (fun i s=>s=l.take i) (s:=[]) (by simp) ?_ ?_
 ·have key:aJ _ [C.int .i64 0,C.list []]=_:=key
  rw[key];rfl
 ·intro i x xs s hx hs
  have hi:=(List.getElem?_eq_some_iff.1 hx).1
  have hi':(i:Int)<(l.length:Nat):=by omega
  have hxm:=hl.2 x (List.mem_of_getElem? hx)
  have hsl:s.length=i:=by rw[hs];simp;omega
  simp (disch:=first|assumption|omega|(simp only[zL];omega)) only[uh,dS hx,Trip.e,al,hi',if_true,pD,Int.reduceEq,reduceIte,zU,zT,aa]
  refine .inl ⟨s++[x],?_,?_,by simp⟩
  ·simp[Trip.e]
  ·rw[hs,List.take_succ,hx];rfl
 ·intro s hs
  have hs:s=l:=by rw[hs,List.take_length]
  subst hs
  have h:¬ ((s.length:Int)<(s.length:Nat)):=by omega
  simp only[uh,aa,C.toInt_int,C.toList_list,aP,h,if_false,List.append_nil]
  rcases kU hr hm with ⟨h4,h⟩|⟨h1,h2,h⟩
  ·simp only at h4;subst h4
   have hml':m.length<=1099511627776:=by omega
   simp only[bD,if_true,pD hml',AB,aa,C.toList_list]
   rw[bE (by simp[cg];omega)]
   simp[lx,cQ,Trip.e]
  ·simp only at h1 h2 h
   have hx:=ts h1 h2
   have hw:IntKind.wrap .i64 (t-1)=t-1:=wrap64 (by omega) (by omega)
   have hb:(decide ((0:Int)<=t-1) && decide (t-1<((s.map Trip.e).length:Nat)))=true:=lt_B (by omega) (by simp;omega)
   have st:∀ z:Int,setRow 1 (s.map Trip.e) (t-1).toNat [C.int .i64 z]=(s.set (t-1).toNat ⟨(tAt s t).m,z⟩).map Trip.e:=fun z=>dL hx rfl
   simp only[hw,cQ,bD,bE hb,og h1 h2,Trip.e,aa,C.toInt_int,st]
   rcases h with ⟨h|h,_⟩|⟨h,hs⟩
   ·subst h;rfl
   ·subst h;rfl
   ·subst h
    rcases hs with hs|hs<;>simp[hs,upD]
theorem rY{rs:List Rec}(hL:rs.length<=2000000)(hm:∀ r∈rs,r.m.length<=1099511627776) :
  qW [.list (rs.map Rec.e)]=some [.list (((bj rs).getD []).map Trip.e),.bool (bj rs).isSome]:=by
 rw[q_eu];unfold F_eu
 have key:=ar (l:=rs) (F:=fun ps=>pZ (rs.map Rec.e) ((aa ps 0).toList) ((aa ps 1).toBool) ((aa ps 2).toInt)) (enc:=fun i (s:Option (List Trip))=>[.list ((s.getD []).map Trip.e),.bool s.isSome,.int .i64 i])
  (res:=fun xs _ s=>match s with
   | some l=>.ret [.list (((cj xs l).getD []).map Trip.e),.bool (cj xs l).isSome]
   | none=>.ret [.list [],.bool false]) (fun _ s=>∀ l,s=some l->TrOk l) (s:=some []) (fun l e=>by simp only[Option.some.injEq]at e;rw[<-e];exact TrOk.nil) ?_ ?_
 ·have key:aJ _ [C.list [],C.bool true,C.int .i64 0]=_:=key
  rw[key];rfl
 ·intro i x xs s hx hs
  have hi:=(List.getElem?_eq_some_iff.1 hx).1
  have hi':(i:Int)<(rs.length:Nat):=by omega
  have hxm:=hm x (List.mem_of_getElem? hx)
  cases s with
  | none=>exact .inr ⟨_,rfl,rfl⟩
  | some l =>
   have hT:=hs l rfl
   have hS:=hT.S
   simp (disch:=first|assumption|omega|(simp only[zL];omega)) only[pZ,Option.isSome_some,Option.getD_some,kZ hx,Rec.e,hi',if_true,BT,Int.reduceEq,reduceIte,zU,zT,aa]
   have e1:eQ l=true:=tripsOk_iff.2 hT
   simp only[e1,Bool.true_and]
   rcases Bool.eq_false_or_eq_true (aL x && cG l x)with h|h
   ·simp only[h,if_true]
    refine .inl ⟨some (cQ l x),?_,fun l' e=>?_,by simp[cj,h]⟩
    ·simp (disch:=first|assumption|omega|(simp only[zL];omega)) only[al,Option.isSome_some,Option.getD_some,Int.reduceEq,reduceIte,zU,zT,aa]
    ·simp only[Option.some.injEq]at e;rw[<-e]
     simp only[Bool.and_eq_true]at h
     exact nQ hT h.1 h.2
   ·simp only[h,Bool.false_eq_true,if_false]
    refine .inl ⟨none,?_,?_,?_⟩
    ·simp (disch:=first|assumption|omega|(simp only[zL];omega)) only[al,Option.isSome_none,Option.getD_none,Int.reduceEq,reduceIte,zU,zT,aa]
     try simp
    ·intro l' e;cases e
    ·simp[cj,h]
 ·intro s hs
  have h:¬ ((rs.length:Int)<(rs.length:Nat)):=by omega
  cases s with
  | none=>simp[pZ,aa]
  | some l=>simp[pZ,aa,aP,cj]
end Dx
namespace Dx
open Go
theorem lh{k h t m:Int}:jS [.int .i64 k,.int .i64 h,.int .i64 t,.int .i64 m]=some [.bool (bG ⟨k,h,t,m⟩)]:=by
 rw[q_ge]
 simp (disch:=first|assumption|omega|(simp only[zL];omega)) only[F_ge,ly,dy,lf,bG,Int.reduceEq,reduceIte,zU,zT,aa]
 by_cases h1:k=1
 ·simp only[h1,if_true]
  cases in_ h 1 3<;>cases in_ t 1 6<;>cases in_ 1 1 7<;>simp
 ·simp only[h1,if_false]
  cases in_ h 1 3<;>cases in_ t 1 6<;>cases in_ k 1 7<;>simp
theorem jd{k h t m:Int}:iE [.int .i64 k,.int .i64 h,.int .i64 t,.int .i64 m]=some [.bool (decide (k>=4))]:=by
 rw[q_bk];simp (disch:=first|assumption|omega|(simp only[zL];omega)) only[F_bk,Int.reduceEq,reduceIte,zU,zT,aa]
theorem kb{td:List Word}(hL:td.length<=1099511627776){k h t m:Int}:mI [.list (td.map Word.e),.int .i64 k,.int .i64 h,.int .i64 t,.int .i64 m]=some [.bool (td.contains ⟨k,h,t,m⟩)]:=by
 rw[q_ap]
 have hi:xw [.list (td.map Word.e),.int .i64 k,.int .i64 h,.int .i64 t,.int .i64 m]=some [.int .i64 (nu (fun x=>decide ((⟨k,h,t,m⟩:Word)=x)) 0 td)]:=by
  rw[q_as];unfold F_as
  simp only[List.length_map]
  rw[iv (l:=td) (fun x=>decide ((⟨k,h,t,m⟩:Word)=x))]
  ·rfl
  ·intro i x hx
   have hi:=(List.getElem?_eq_some_iff.1 hx).1
   have hi':(i:Int)<(td.length:Nat):=by omega
   have hw:=pw ⟨k,h,t,m⟩ x
   simp only at hw
   simp (disch:=first|assumption|omega|(simp only[zL];omega)) only[zy,js hx,Word.e,al,hi',if_true,hw,decide_eq_true_eq,Int.reduceEq,reduceIte,zU,zT,aa]
  ·have h:¬ ((td.length:Int)<(td.length:Nat)):=by omega
   simp (disch:=first|assumption|omega|(simp only[zL];omega)) only[zy,h,if_false,Int.reduceEq,reduceIte,zU,zT,aa]
 simp (disch:=first|assumption|omega|(simp only[zL];omega)) only[F_ap,hi,eV,Bool.decide_eq_true,Int.reduceEq,reduceIte,zU,zT,aa]
 rw[List.contains_eq_any_beq]
 congr
theorem mg{k t:Int}{m:List Int}(hL:m.length<=1099511627776):rb [.int .i64 k,.int .i64 t,.list (m.map eI)]=some [.int .i64 k,.int .i64 t,.list (m.map eI)]:=by
 rw[q_cf];simp (disch:=first|assumption|omega|(simp only[zL];omega)) only[F_cf,pD,Int.reduceEq,reduceIte,zU,zT,aa]
theorem tw{rs:List Rec}{f many forced:Int}(hl:LgS ⟨rs,f⟩)(h1:0<=many)(h2:many<=rs.length) :
  mK [.list (rs.map Rec.e),.int .i64 f,.int .i64 many,.int .i64 forced]=some [.list ((rs.take many.toNat).map Rec.e),.int .i64 forced]:=by
 rw[q_cx]
 have e1:∀ n:Nat,(rs.map Rec.e).take n=(rs.take n).map Rec.e:=fun n=>by simp
 unfold F_cx
 simp only[e1,List.length_map]
 rw[de h1 h2]
 have hm:∀ r∈rs.take many.toNat,r.m.length<=1099511627776:=fun r hr=>hl.2 r (List.mem_of_mem_take hr)
 have hlen:(rs.take many.toNat).length<=2000000:=by simp;have:=hl.1;simp only at this;omega
 generalize rs.take many.toNat=l at hm hlen
 have key:=ar (l:=l) (F:=fun ps=>uk forced (l.map Rec.e) ((l.length:Nat):Int) ((aa ps 0).toInt) ((aa ps 1).toList)) (enc:=fun i (s:List Rec)=>[.int .i64 i,.list (s.map Rec.e)])
  (res:=fun xs _ s=>.ret [.list ((s++xs).map Rec.e),.int .i64 forced]) (fun i s=>s.length=i) (s:=[]) rfl ?_ ?_
 ·have key:aJ _ [C.int .i64 0,C.list []]=_:=key
  rw[key];rfl
 ·intro i x xs s hx hs
  have hi:=(List.getElem?_eq_some_iff.1 hx).1
  have hi':(i:Int)<(l.length:Nat):=by omega
  have hxm:=hm x (List.mem_of_getElem? hx)
  simp (disch:=first|assumption|omega|(simp only[zL];omega)) only[uk,kZ hx,Rec.e,al,hi',if_true,mg,Int.reduceEq,reduceIte,zU,zT,aa]
  refine .inl ⟨s++[x],?_,by simp[hs],by simp⟩
  simp[Rec.e]
 ·intro s hs
  have h:¬ ((l.length:Int)<(l.length:Nat)):=by omega
  simp (disch:=first|assumption|omega|(simp only[zL];omega)) only[uk,h,if_false,Int.reduceEq,reduceIte,zU,zT,aa]
  simp
theorem iX{rs:List Rec}{f:Int}(hl:LgS ⟨rs,f⟩):mL [.list (rs.map Rec.e),.int .i64 f]=some [.list (rs.map Rec.e),.int .i64 f]:=by
 rw[q_cb]
 have h:=tw hl (many:=((rs.length:Nat):Int)) (forced:=f) (by omega) (by omega)
 simp only[Int.toNat_natCast,List.take_length]at h
 simp (disch:=first|assumption|omega|(simp only[zL];omega)) only[F_cb,h,Int.reduceEq,reduceIte,zU,zT,aa]
theorem vY{m:List Word}(hL:m.length<=1099511627776):rc [.list (m.map Word.e)]=some [.list (m.map Word.e)]:=by
 rw[q_au]
 cases m with
 | nil=>simp[F_au,dK,bE,cg]
 | cons a l =>
  have:((a::l).map Word.e).isEmpty=false:=rfl
  simp only[F_au,this,ay,List.nil_append,oe,du]
  rw[bE (by simp[cg]at *;omega)]
  rfl
structure DkS (d:Desk):Prop where
 lg:LgS d.lg
 td:d.td.length<=2000000
theorem DkOk.S{d:Desk}(h:DkOk d):DkS d:=⟨h.lg.S,by have:=h.tdlen;omega⟩
theorem LgS.m{rs:List Rec}{f:Int}(h:LgS ⟨rs,f⟩):∀ r∈rs,r.m.length<=1099511627776:=h.2
theorem LgS.l{rs:List Rec}{f:Int}(h:LgS ⟨rs,f⟩):rs.length<=2000000:=h.1
section
variable {up b:Bool} {rs:List Rec} {f:Int} {td:List Word} {k h t m keep:Int} {ms:List Int}
theorem dW(hs:DkS ⟨up,⟨rs,f⟩,td⟩):iF [.bool up,.list (rs.map Rec.e),.int .i64 f,.list (td.map Word.e)]=some (Desk.e ⟨up,⟨rs,f⟩,td⟩):=by
 rw[q_bu]
 have h1:LgS ⟨rs,f⟩:=hs.lg
 have h2:td.length<=1099511627776:=by have:=hs.td;simp only at this;omega
 simp (disch:=first|assumption|omega|(simp only[zL];omega)) only[F_bu,iX,vY,Int.reduceEq,reduceIte,zU,zT,aa]
 rfl
theorem AG(hl:b=true->0<=f/\f<=rs.length):ri [.list (rs.map Rec.e),.int .i64 f,.bool b]=some [.list ((aW ⟨rs,f⟩ b).map Rec.e)]:=by
 rw[q_cs]
 cases b with
 | false=>simp[F_cs,aW]
 | true =>
  obtain⟨h1,h2⟩:=hl rfl
  simp only[F_cs,aB,List.length_map]
  rw[de h1 h2]
  simp[aW]
theorem oB(hs:LgS ⟨rs,f⟩)(hl:b=true->0<=f/\f<=rs.length){tl:List (List C)}:fg [.bool up,.list (rs.map Rec.e),.int .i64 f,.list tl,.bool b]=some [.list ((ai ⟨rs,f⟩ b).map Trip.e)]:=by
 rw[q_ck]
 have h1:(aW ⟨rs,f⟩ b).length<=2000000:=by have:=hs.l;unfold aW;split<;>simp<;>omega
 have h2:∀ r∈aW ⟨rs,f⟩ b,r.m.length<=1099511627776:=fun r hr=>hs.2 r (by unfold aW at hr;split at hr;exact List.mem_of_mem_take hr;exact hr)
 simp (disch:=first|assumption|omega|(simp only[zL];omega)) only[F_ck,AG hl,rY h1 h2,ai,Int.reduceEq,reduceIte,zU,zT,aa]
theorem li(hs:LgS ⟨rs,f⟩){tl:List (List C)}:fg [.bool up,.list (rs.map Rec.e),.int .i64 f,.list tl,.bool false]=some [.list ((ai ⟨rs,f⟩ false).map Trip.e)]:=oB hs (fun h=>by cases h)
theorem Dd(hs:LgOk ⟨rs,f⟩){tl:List (List C)}:fg [.bool up,.list (rs.map Rec.e),.int .i64 f,.list tl,.bool true]=some [.list ((ai ⟨rs,f⟩ true).map Trip.e)]:=oB hs.S (fun _=>⟨hs.lo,hs.hi⟩)
theorem cL(hs:DkS ⟨up,⟨rs,f⟩,td⟩):eN [.bool up,.list (rs.map Rec.e),.int .i64 f,.list (td.map Word.e)]=some [.bool (bH ⟨up,⟨rs,f⟩,td⟩)]:=by
 rw[q_fs]
 have h1:LgS ⟨rs,f⟩:=hs.lg
 have h2:td.length<=2000000:=hs.td
 have hj:ah (zz (rs.map Rec.e) (td.map Word.e))=some [.bool (dY ((bj rs).getD []).length [] td && (bj rs).isSome)]:=by
  unfold zz
  have ht:=rY h1.l h1.m
  simp only[ht,IT,aa,C.toBool_bool,C.toList_list,List.length_map]
  have key:=ar (l:=td) (F:=fun ps=>ui (td.map Word.e) (((bj rs).getD []).map Trip.e) (bj rs).isSome ((td.length:Nat):Int) ((aa ps 0).toInt)) (enc:=fun i (_:Unit)=>[.int .i64 i])
   (res:=fun xs i _=>.ret [.bool (dY ((bj rs).getD []).length (td.take i) xs && (bj rs).isSome)]) (fun _ _=>True) (s:=()) trivial ?_ ?_
  ·have key:aJ _ [C.int .i64 0]=_:=key
   rw[key];rfl
  ·intro i x xs s hx _
   have hi:=(List.getElem?_eq_some_iff.1 hx).1
   have hi':(i:Int)<(td.length:Nat):=by omega
   have e1:(td.map Word.e).take i=(td.take i).map Word.e:=by simp
   have c1:(0:Int)<=(i:Int):=by omega
   have c2:(i:Int)<=(td.length:Nat):=by omega
   have c3:(td.take i).length<=1099511627776:=by simp;omega
   have e2:td.take (i+1)=td.take i++[x]:=by rw[List.take_succ,hx];rfl
   have e3:∀ n:Nat,decide (x.t>(n:Int))=!decide (x.t<=(n:Int)):=fun n=>by rw[Bool.eq_iff_iff];simp
   simp (disch:=first|assumption|omega|(simp only[zL];omega)) only[ui,js hx,Word.e,al,hi',if_true,lh,jd,e1,Int.toNat_natCast,kb,de c1 c2,Int.reduceEq,reduceIte,zU,zT,aa]
   simp only[dY,e2]
   cases bG x with
   | false=>exact .inr ⟨_,rfl,by simp⟩
   | true =>
    by_cases h4:x.k>=4
    ·by_cases h5:x.t>((((bj rs).getD []).length:Nat):Int)
     ·have h5':¬ x.t<=((((bj rs).getD []).length:Nat):Int):=by omega
      exact .inr ⟨_,by simp only[h4,h5,if_true,aB,Bool.not_true,ay];rfl,by simp[h5']⟩
     ·have h5':x.t<=((((bj rs).getD []).length:Nat):Int):=by omega
      cases hc:(td.take i).contains x with
      | true =>
       refine .inr ⟨.ret [.bool false],?_,by simp⟩
       simp only[h4,h5,if_true,if_false,aB,Bool.not_true,ay]
       try rw[bE (by simp;omega)]
      | false =>
       refine .inl ⟨(),?_,trivial,by simp[h4,h5']⟩
       simp only[h4,h5,if_true,if_false,aB,Bool.not_true,ay]
       try rw[bE (by simp;omega)]
    ·exact .inr ⟨_,by simp only[h4,if_false,aB,Bool.not_true,ay];rfl,by simp[h4]⟩
  ·intro s _
   have h:¬ ((td.length:Int)<(td.length:Nat)):=by omega
   simp (disch:=first|assumption|omega|(simp only[zL];omega)) only[ui,h,if_false,Int.reduceEq,reduceIte,zU,zT,aa]
   rfl
 simp (disch:=first|assumption|omega|(simp only[zL];omega)) only[F_fs,lB,pA,hj,Int.reduceEq,reduceIte,zU,zT,aa]
 unfold bH
 cases gv ⟨rs,f⟩with
 | false=>simp
 | true =>
  simp only[Bool.not_true,ay,Bool.true_and]
  cases up with
  | true =>
   simp only[aB,bc]
   rw[hj]
   cases bj rs<;>simp
  | false =>
   simp only[ay]
   by_cases hz:((td.length:Nat):Int)>0
   ·have:td.isEmpty=false:=by
     cases td with
     | nil=>simp at hz
     | cons a l=>rfl
    simp only[hz,if_true,pA,aB,ay,aF]
    cases bj rs<;>simp[this]
   ·have:td=[]:=by
     cases td with
     | nil=>rfl
     | cons a l=>simp at hz
    simp only[hz,if_false,aB,ay,bc]
    rw[hj,this]
    cases bj rs<;>simp
end
end Dx
namespace Dx
open Go
def dz:Desk:=⟨false,⟨[],0⟩,[]⟩
section
variable {up b:Bool} {rs:List Rec} {f:Int} {td:List Word} {k h t m keep:Int} {ms:List Int}
theorem vZ(hl:LgS ⟨rs,f⟩)(hm:ms.length<=1099511627776) :
  rl [.list (rs.map Rec.e),.int .i64 f,.int .i64 k,.int .i64 t,.list (ms.map eI)] =
   some (if gv ⟨rs,f⟩ && aL ⟨k,t,ms⟩ then [.list ((dJ ⟨rs,f⟩ ⟨k,t,ms⟩).rs.map Rec.e),.int .i64 f,.bool (nO ⟨rs,f⟩)] else [.list [],.int .i64 0,.bool false]):=by
 rw[q_gj]
 simp (disch:=first|assumption|omega|(simp only[zL];omega)) only[F_gj,lB,lz,iX,mg,Int.reduceEq,reduceIte,zU,zT,aa]
 cases hlo:gv ⟨rs,f⟩with
 | false=>simp
 | true =>
  cases aL ⟨k,t,ms⟩with
  | false=>simp
  | true =>
   have hl40:rs.length<=40:=(logOk_iff.1 hlo).len
   simp only[aB,Bool.and_self,if_true]
   by_cases h40:((rs.length:Nat):Int)=40
   ·have h':rs.length>=40:=by omega
    simp[h40,dJ,nO,h']
   ·have h':¬ rs.length>=40:=by omega
    have hc:rs.length+1<=1099511627776:=by omega
    simp[h40,dJ,nO,h',hc,Rec.e]
theorem lC(hd:DkOk ⟨up,⟨rs,f⟩,td⟩)(hr:aL ⟨k,t,ms⟩=true) :
  gY [.bool up,.list (rs.map Rec.e),.int .i64 f,.list (td.map Word.e),.int .i64 k,.int .i64 t,.list (ms.map eI)] =
   some (.bool (eS ⟨up,⟨rs,f⟩,td⟩ ⟨k,t,ms⟩)::(bh ⟨up,⟨rs,f⟩,td⟩ ⟨k,t,ms⟩).e):=by
 rw[q_cc]
 have hlg:LgOk ⟨rs,f⟩:=hd.lg
 have hS:=hlg.S
 have hT:TrOk (ai ⟨rs,f⟩ false):=hd.trOk false
 have hTS:=hT.S
 have hml:=fN hr
 have hml':ms.length<=1099511627776:=by simp only at hml;omega
 have hto:eQ (ai ⟨rs,f⟩ false)=true:=tripsOk_iff.2 hT
 have hlo:gv ⟨rs,f⟩=true:=logOk_iff.2 hlg
 simp (disch:=first|assumption|omega|(simp only[zL];omega)) only[F_cc,li,oA,vZ,hto,hr,hlo,Bool.true_and,Bool.and_self,if_true,bh,eS,ak,Int.reduceEq,reduceIte,zU,zT,aa]
 cases up with
 | false=>simp[Desk.e]
 | true =>
  simp only[aB,Bool.true_and]
  cases cG (ai ⟨rs,f⟩ false) ⟨k,t,ms⟩with
  | false=>simp[Desk.e]
  | true=>simp[Desk.e,z2]
theorem DU(hL:td.length<=1099511627776){r:List (List C)}:rj [.bool up,.list r,.int .i64 f,.list (td.map Word.e),.int .i64 k,.int .i64 h,.int .i64 t]=some [.bool (td.contains ⟨k,h,t,0⟩)]:=by
 rw[q_db];simp (disch:=first|assumption|omega|(simp only[zL];omega)) only[F_db,kb,Int.reduceEq,reduceIte,zU,zT,aa]
theorem FW(hL:td.length<=1099511627776)(hm:ms.length<=1000)(hn:∀ n∈ms,0<=n){r:List (List C)} :
  nK [.bool up,.list r,.int .i64 f,.list (td.map Word.e),.int .i64 k,.int .i64 t,.list (ms.map eI)]=some [.bool (br td t k 1 ms),.bool (aH td t k 1 ms)]:=by
 rw[q_by];unfold F_by
 simp only[List.length_map]
 have key:=ar (l:=ms) (F:=fun ps=>um up r f (td.map Word.e) k t (ms.map eI) ((ms.length:Nat):Int) ((aa ps 0).toBool) ((aa ps 1).toBool) ((aa ps 2).toInt)) (enc:=fun i (s:Bool×Bool)=>[.bool s.1,.bool s.2,.int .i64 i])
  (res:=fun xs i s=>.ret [.bool (s.1 || br td t k ((i+1:Nat):Int) xs),.bool (s.2 && aH td t k ((i+1:Nat):Int) xs)]) (fun _ _=>True) (s:=(false,true)) trivial ?_ ?_
 ·have key:aJ _ [C.bool false,C.bool true,C.int .i64 0]=_:=key
  rw[key];simp
 ·rintro i x xs ⟨a,b⟩ hx _
  have hi:=(List.getElem?_eq_some_iff.1 hx).1
  have hi':(i:Int)<(ms.length:Nat):=by omega
  have hx0:=hn x (List.mem_of_getElem? hx)
  have e1:((i+1:Nat):Int)+1=((i+1+1:Nat):Int):=by omega
  simp (disch:=first|assumption|omega|(simp only[zL];omega)) only[um,ig hx,eI,al,hi',if_true,DU,Int.reduceEq,reduceIte,zU,zT,aa]
  by_cases h0:x=0
  ·have h0':¬ x>0:=by omega
   simp only[h0,if_true]
   refine .inl ⟨(a,b),?_,trivial,?_⟩
   ·rfl
   ·simp only[br,aH,e1];simp
  ·have h0':x>0:=by omega
   simp only[h0,if_false]
   generalize hc:td.contains ⟨k,((i+1:Nat):Int),t,0⟩=c
   refine .inl ⟨(a || c,b && c),?_,trivial,?_⟩
   ·cases a<;>cases b<;>simp
   ·simp only[br,aH,e1,hc,h0',decide_true,Bool.true_and,Bool.not_true,Bool.false_or]
    cases a<;>cases b<;>cases c<;>simp
 ·rintro⟨a,b⟩ _
  have h:¬ ((ms.length:Int)<(ms.length:Nat)):=by omega
  simp (disch:=first|assumption|omega|(simp only[zL];omega)) only[um,h,if_false,Int.reduceEq,reduceIte,zU,zT,aa]
  simp[br,aH]
def DV(d:Desk)(t K:Int):Desk:=if K>0 then bh d ⟨K,t,[]⟩ else d
theorem yE(d:Desk)(t:Int):dd d t=DV d t (na (tAt (ak d false) t).s (mS d t) d.td t (tAt (ak d false) t).m):=rfl
theorem ap(Φ:Phi)(f:Nat)(args:List Cell)(ks:List CK)(t:Tree)(env:List C):den Φ (.call f args ks t) env=ac (Φ f (ax env args)) ks fun r=>den Φ t (env++r):=by rw[den]
theorem v6(hd:DkOk ⟨up,⟨rs,f⟩,td⟩)(h1:1<=t)(h2:t<=(ai ⟨rs,f⟩ false).length) :
  un [.bool up,.list (rs.map Rec.e),.int .i64 f,.list (td.map Word.e),.int .i64 t]=some (dd ⟨up,⟨rs,f⟩,td⟩ t).e:=by
 have hlg:LgOk ⟨rs,f⟩:=hd.lg
 have hS:=hlg.S
 have tA:TrOk (ai ⟨rs,f⟩ false):=hd.trOk false
 have tF:TrOk (ai ⟨rs,f⟩ true):=hd.trOk true
 have lA:=tA.len
 have lF:=tF.len
 have hx:=tripOk_iff.1 (tA.ok _ (eT (t:=t) (by omega)))
 have hml:=bt hx.1
 have hml':(tAt (ai ⟨rs,f⟩ false) t).m.length<=1000:=by omega
 have hn:∀ n∈(tAt (ai ⟨rs,f⟩ false) t).m,0<=n:=fun n hn=>(fM hx.1 hn).1
 have htd:td.length<=1099511627776:=by have:=hd.tdlen;simp only at this;omega
 have w5:=lC hd (k:=5) (t:=t) (ms:=[]) (by simp[aL,in_iff];omega)
 have w6:=lC hd (k:=6) (t:=t) (ms:=[]) (by simp[aL,in_iff];omega)
 have w7:=lC hd (k:=7) (t:=t) (ms:=[]) (by simp[aL,in_iff];omega)
 simp only[List.map_nil,Desk.e]at w5 w6 w7
 unfold un t_bq
 simp (disch:=first|assumption|omega|(simp only[zL];omega)) only[den,Fa,ax,Cell.den,At.den,li,Dd,FW,rX,og,wrap64,Trip.e,Prim.den,List.cons_append,Int.reduceEq,reduceIte,zT,aa]
 rw[yE]
 have hsure:((if in_ t 1 ((ai ⟨rs,f⟩ true).length:Nat)=true then(tAt (ai ⟨rs,f⟩ true) t).s else 0)==(tAt (ai ⟨rs,f⟩ false) t).s)=mS ⟨up,⟨rs,f⟩,td⟩ t:=by
  have hs1:=hx.2.1
  unfold mS ak
  by_cases h:t<=((ai ⟨rs,f⟩ true).length:Nat)
  ·have hi:in_ t 1 ((ai ⟨rs,f⟩ true).length:Nat)=true:=in_iff.2 ⟨h1,h⟩
   simp[hi,h]
  ·have hi:in_ t 1 ((ai ⟨rs,f⟩ true).length:Nat)=false:=in_false.2 (by omega)
   simp[hi,h];omega
 simp only[hsure]
 dsimp only[ak]
 have hs:=hx.2
 generalize mS ⟨up,⟨rs,f⟩,td⟩ t=b
 generalize (tAt (ai ⟨rs,f⟩ false) t).s=s at hs ⊢
 generalize (tAt (ai ⟨rs,f⟩ false) t).m=m
 unfold na
 generalize br td t 5 1 m=a5
 generalize aH td t 4 1 m=a4
 generalize aH td t 6 1 m=a6
 generalize aH td t 7 1 m=a7
 rcases (by omega:s=1\/s=2\/s=3\/s=4\/s=5)with e|e|e|e|e<;>subst e
 ·cases a5<;>cases a4<;>simp[bU,CK.of,aa,w5,w6,w7,bD,kY,DV,Desk.e]
 ·cases b<;>cases a6<;>simp[bU,CK.of,aa,w5,w6,w7,bD,kY,DV,Desk.e]
 ·cases b<;>cases a7<;>simp[bU,CK.of,aa,w5,w6,w7,bD,kY,DV,Desk.e]
 ·simp[bU,CK.of,aa,bD,DV,Desk.e]
 ·simp[bU,CK.of,aa,bD,DV,Desk.e]
end
end Dx
namespace Dx
open Go
section
variable {up b:Bool} {rs:List Rec} {f:Int} {td:List Word} {k h t m keep:Int} {ms:List Int} {id room:Int}
theorem DW(hd:DkOk ⟨up,⟨rs,f⟩,td⟩) :
  mN [.bool up,.list (rs.map Rec.e),.int .i64 f,.list (td.map Word.e),.int .i64 k,.int .i64 h,.int .i64 t,.int .i64 m]=some (dhear ⟨up,⟨rs,f⟩,td⟩ ⟨k,h,t,m⟩).e:=by
 rw[q_cl]
 have hlg:LgOk ⟨rs,f⟩:=hd.lg
 have hS:=hlg.S
 have htd:td.length<=72:=hd.tdlen
 unfold dhear
 simp (disch:=first|assumption|omega|(simp only[zL];omega)) only[F_cl,lh,jd,li,kb,Int.reduceEq,reduceIte,zU,zT,aa]
 have nh:c7 ⟨up,⟨rs,f⟩,td⟩ ⟨k,h,t,m⟩=false->(if c7 ⟨up,⟨rs,f⟩,td⟩ ⟨k,h,t,m⟩=true then dd (ce ⟨up,⟨rs,f⟩,td⟩ ⟨k,h,t,m⟩) t else⟨up,⟨rs,f⟩,td⟩)=⟨up,⟨rs,f⟩,td⟩:=fun e=>by rw[e];rfl
 cases up with
 | false=>rw[nh rfl];rfl
 | true =>
  cases hw:bG ⟨k,h,t,m⟩with
  | false=>rw[nh (by simp[c7,hw])];rfl
  | true =>
   have wt:=(wordOk_iff.1 hw).t
   simp only at wt
   simp only[aB,eG]
   by_cases h4:k>=4
   ·by_cases ht:t>((ai ⟨rs,f⟩ false).length:Nat)
    ·rw[nh (by rw[gz,hw];simp only[Bool.true_and];rw[Bool.and_eq_false_iff];right;exact decide_eq_false (by omega))]
     simp only[h4,ht,if_true,if_false];rfl
    ·have c1:c7 ⟨true,⟨rs,f⟩,td⟩ ⟨k,h,t,m⟩=true:=by rw[gz,hw];simp only[Bool.true_and];rw[Bool.and_eq_true];exact⟨decide_eq_true (by omega),decide_eq_true (by omega)⟩
     rw[if_pos c1]
     simp only[h4,ht,if_false,if_true,ce]
     cases hc:td.contains ⟨k,h,t,m⟩with
     | true =>
      simp (disch:=first|assumption|omega|(simp only[zL];omega)) only[v6,Desk.e,aB,ay,aF,tp,aa,C.toInt_int,C.toBool_bool,C.toList_list,if_true]
     | false =>
      have hd2:DkOk ⟨true,⟨rs,f⟩,td++[⟨k,h,t,m⟩]⟩:=by
       have:=hd.tell (w:=⟨k,h,t,m⟩) c1
       unfold ce at this
       rw[if_neg (by rw[hc];simp)]at this
       exact this
      have e1:(td.map Word.e)++[[C.int .i64 k,C.int .i64 h,C.int .i64 t,C.int .i64 m]]=(td++[(⟨k,h,t,m⟩:Word)]).map Word.e:=by simp[Word.e]
      have hd3:=v6 hd2 wt.1 (show t<=((ai ⟨rs,f⟩ false).length:Nat) by omega)
      simp only[ay,aB,e1,hd3]
      simp (disch:=first|assumption|omega|(simp only[zL];omega)) only[Desk.e,Bool.false_eq_true,if_false,Int.reduceEq,reduceIte,zU,zT,aa]
   ·rw[nh (by rw[gz,hw];simp[h4])]
    simp only[h4,if_false];rfl
theorem rZ(hl:LgOk ⟨rs,f⟩):rz [.list (rs.map Rec.e),.int .i64 f,.int .i64 keep]=some (fL ⟨rs,f⟩ keep).e:=by
 rw[q_ex]
 have hS:=hl.S
 have h1:=hl.lo
 have h2:=hl.hi
 have h3:=hl.len
 have hk:=hl.keep keep
 simp only at h1 h2 h3 hk
 have hlo:=logOk_iff.2 hl
 have e1:f+(if(0:Int)>(if((rs.length:Nat):Int)-f<keep then((rs.length:Nat):Int)-f else keep) then 0 else(if((rs.length:Nat):Int)-f<keep then((rs.length:Nat):Int)-f else keep))=eO ⟨rs,f⟩ keep:=by
  unfold eO
  simp only[Int.min_def]
  split<;>split<;>split<;>(try split)<;>omega
 have w1:IntKind.wrap .i64 (((rs.length:Nat):Int)-f)=((rs.length:Nat):Int)-f:=wrap64 (by omega) (by omega)
 simp (disch:=first|assumption|omega|(simp only[zL];omega)) only[F_ex,lB,hlo,Int.reduceEq,reduceIte,zU,zT,aa]
 rw[w1,wrap64 (by rw[e1];omega) (by rw[e1];omega),e1,tw hS (by omega) (by omega)]
 simp only[IU,aa,C.toInt_int,C.toList_list,aF]
 rfl
theorem bi(hs:DkS ⟨up,⟨rs,f⟩,td⟩):dH [.bool up,.list (rs.map Rec.e),.int .i64 f,.list (td.map Word.e),.bool b]=some [.list ((if bH ⟨up,⟨rs,f⟩,td⟩ then ai ⟨rs,f⟩ b else []).map Trip.e)]:=by
 rw[q_df]
 cases ho:bH ⟨up,⟨rs,f⟩,td⟩with
 | false=>simp (disch:=first|assumption|omega|(simp only[zL];omega)) only[F_df,cL,ho,Int.reduceEq,reduceIte,zU,zT,aa];rfl
 | true =>
  have hd:=deskOk_iff.1 ho
  have hlg:LgOk ⟨rs,f⟩:=hd.lg
  simp (disch:=first|assumption|omega|(simp only[zL];omega)) only[F_df,cL,ho,oB hlg.S (fun _=>⟨hlg.lo,hlg.hi⟩),if_true,Int.reduceEq,reduceIte,zU,zT,aa]
theorem yF(hd:DkOk ⟨up,⟨rs,f⟩,td⟩) :
  yd [.bool up,.list (rs.map Rec.e),.int .i64 f,.list (td.map Word.e),.int .i64 keep]=some (dfall ⟨up,⟨rs,f⟩,td⟩ keep).e:=by
 rw[q_dk]
 have hS:=hd.S
 have ho:=deskOk_iff.2 hd
 have hlg:LgOk ⟨rs,f⟩:=hd.lg
 simp (disch:=first|assumption|omega|(simp only[zL];omega)) only[F_dk,cL,ho,rZ hlg,Log.e,Int.reduceEq,reduceIte,zU,zT,aa]
 rfl
theorem oC(hl:LgOk ⟨rs,f⟩):rf [.list (rs.map Rec.e),.int .i64 f]=some (fv ⟨rs,f⟩).e:=by
 rw[q_dw]
 have hS:=hl.S
 have hlo:=logOk_iff.2 hl
 have hf:=tw hS (many:=((rs.length:Nat):Int)) (forced:=((rs.length:Nat):Int)) (by omega) (by omega)
 simp only[Int.toNat_natCast,List.take_length]at hf
 simp (disch:=first|assumption|omega|(simp only[zL];omega)) only[F_dw,lB,hlo,hf,Int.reduceEq,reduceIte,zU,zT,aa]
 rfl
theorem vr(hd:DkOk ⟨up,⟨rs,f⟩,td⟩):xH [.bool up,.list (rs.map Rec.e),.int .i64 f,.list (td.map Word.e)]=some (bv ⟨up,⟨rs,f⟩,td⟩).e:=by
 rw[q_cw]
 have hS:=hd.S
 have ho:=deskOk_iff.2 hd
 have hlg:LgOk ⟨rs,f⟩:=hd.lg
 simp (disch:=first|assumption|omega|(simp only[zL];omega)) only[F_cw,cL,ho,dW,oC hlg,Log.e,Desk.e,Int.reduceEq,reduceIte,zU,zT,aa]
 cases up<;>rfl
theorem yG(hd:DkOk ⟨up,⟨rs,f⟩,td⟩):xJ [.bool up,.list (rs.map Rec.e),.int .i64 f,.list (td.map Word.e)]=some (ej ⟨up,⟨rs,f⟩,td⟩).e:=by
 rw[q_dj]
 have hS:=hd.S
 have ho:=deskOk_iff.2 hd
 simp (disch:=first|assumption|omega|(simp only[zL];omega)) only[F_dj,cL,ho,dW,Desk.e,Int.reduceEq,reduceIte,zU,zT,aa]
 rfl
theorem vu(hs:DkS ⟨up,⟨rs,f⟩,td⟩)(hm:ms.length<=1099511627776) :
  ya [.bool up,.list (rs.map Rec.e),.int .i64 f,.list (td.map Word.e),.list (ms.map eI)] =
   some (if bH ⟨up,⟨rs,f⟩,td⟩ && aL (eg ⟨up,⟨rs,f⟩,td⟩ ms) then(bh ⟨up,⟨rs,f⟩,td⟩ (eg ⟨up,⟨rs,f⟩,td⟩ ms)).e++[.bool (eS ⟨up,⟨rs,f⟩,td⟩ (eg ⟨up,⟨rs,f⟩,td⟩ ms))] else dz.e++[.bool false]):=by
 rw[q_cp]
 cases ho:bH ⟨up,⟨rs,f⟩,td⟩with
 | false=>simp (disch:=first|assumption|omega|(simp only[zL];omega)) only[F_cp,cL,ho,Int.reduceEq,reduceIte,zU,zT,aa];simp[Desk.e,dz]
 | true =>
  have hd:=deskOk_iff.1 ho
  have hlg:LgOk ⟨rs,f⟩:=hd.lg
  have hS:=hlg.S
  have hT:TrOk (ai ⟨rs,f⟩ false):=hd.trOk false
  have hl:=hT.len
  have eR:eg ⟨up,⟨rs,f⟩,td⟩ ms=⟨4,((ai ⟨rs,f⟩ false).length:Nat)+1,ms⟩:=rfl
  rw[eR]
  simp (disch:=first|assumption|omega|(simp only[zL];omega)) only[F_cp,cL,ho,dW,Desk.e,li,wrap64,lz,Bool.true_and,Int.reduceEq,reduceIte,zU,zT,aa]
  rcases Bool.eq_false_or_eq_true (aL ⟨4,((ai ⟨rs,f⟩ false).length:Nat)+1,ms⟩)with hr|hr
  ·simp (disch:=first|assumption|omega|(simp only[zL];omega)) only[hr,lC,Desk.e,if_true,Int.reduceEq,reduceIte,zU,zT,aa]
   simp
  ·simp[hr,dz]
theorem yH(hs:DkS ⟨up,⟨rs,f⟩,td⟩) :
  yb [.bool up,.list (rs.map Rec.e),.int .i64 f,.list (td.map Word.e),.int .i64 t] =
   some (if bH ⟨up,⟨rs,f⟩,td⟩ && in_ t 1 6 then(bh ⟨up,⟨rs,f⟩,td⟩ ⟨6,t,[]⟩).e++[.bool (eS ⟨up,⟨rs,f⟩,td⟩ ⟨6,t,[]⟩)] else dz.e++[.bool false]):=by
 rw[q_dx]
 cases ho:bH ⟨up,⟨rs,f⟩,td⟩with
 | false=>simp (disch:=first|assumption|omega|(simp only[zL];omega)) only[F_dx,cL,ho,Int.reduceEq,reduceIte,zU,zT,aa];simp[Desk.e,dz]
 | true =>
  have hd:=deskOk_iff.1 ho
  simp (disch:=first|assumption|omega|(simp only[zL];omega)) only[F_dx,cL,ho,lf,dW,Desk.e,Bool.true_and,Int.reduceEq,reduceIte,zU,zT,aa]
  cases ht:in_ t 1 6 with
  | false=>simp[dz]
  | true =>
   have hw:=lC hd (k:=6) (t:=t) (ms:=[]) (by simp[aL,in_iff,in_iff.1 ht])
   simp only[List.map_nil,Desk.e]at hw
   simp (disch:=first|assumption|omega|(simp only[zL];omega)) only[hw,Int.reduceEq,reduceIte,zU,zT,aa]
   simp
theorem JQ(s:Int):xy [.int .i64 m,.int .i64 s]=some [.bool (bz ⟨m,s⟩)]:=by
 rw[q_fe]
 simp (disch:=first|assumption|omega|(simp only[zL];omega)) only[F_fe,ly,bz,Int.reduceEq,reduceIte,zU,zT,aa]
 by_cases h0:s=0
 ·simp[h0]
 ·by_cases h1:s=1
  ·simp[h1]
  ·by_cases h2:s=2
   ·simp[h2]
   ·by_cases h3:s=3
    ·simp[h3]
    ·simp[h0,h1,h2,h3]
theorem z3{hs:List Hold}(hr:0<=room/\room<=9)(ho:∀ h∈hs,bz h=true)(hl:hs.length<=100) :
  mJ [.int .i64 room,.list (hs.map Hold.e)]=some [.int .i64 (free ⟨room,hs⟩)]:=by
 rw[q_cj];unfold F_cj
 simp only[List.length_map]
 have key:=ar (l:=hs) (F:=fun ps=>uj (hs.map Hold.e) ((hs.length:Nat):Int) ((aa ps 0).toInt) ((aa ps 1).toInt)) (enc:=fun i (s:Int)=>[.int .i64 s,.int .i64 i])
  (res:=fun xs _ s=>.ret [.int .i64 (s-(xs.map had).sum)]) (fun i s=>room-3*i<=s/\s<=room) (s:=room) (by simp) ?_ ?_
 ·have key:aJ _ [C.int .i64 room,C.int .i64 0]=_:=key
  rw[key];rfl
 ·intro i x xs s hx ⟨h1,h2⟩
  have hi:=(List.getElem?_eq_some_iff.1 hx).1
  have hi':(i:Int)<(hs.length:Nat):=by omega
  have hm:=vV (ho x (List.mem_of_getElem? hx))
  simp (disch:=first|assumption|omega|(simp only[zL];omega)) only[uj,rD hx,Hold.e,al,hi',if_true,wrap64,Int.reduceEq,reduceIte,zU,zT,aa]
  refine .inl ⟨s-had x,?_,by omega,by simp[Int.sub_sub]⟩
  unfold had
  by_cases e1:x.s=1
  ·simp[e1]
  ·by_cases e2:x.s=2<;>simp[e1,e2]
 ·intro s _
  have h:¬ ((hs.length:Int)<(hs.length:Nat)):=by omega
  simp (disch:=first|assumption|omega|(simp only[zL];omega)) only[uj,h,if_false,Int.reduceEq,reduceIte,zU,zT,aa]
  simp
theorem sa{hs:List Hold}(ho:StOk ⟨room,hs⟩):qX [.int .i64 room,.list (hs.map Hold.e)]=some [.bool true]:=by
 rw[q_eq]
 have hl:hs.length=6:=ho.len
 have hc:xB [.list (hs.map Hold.e)]=some [.bool (hs.any fun x=>!bz x)]:=by
  have hi:xA [.list (hs.map Hold.e)]=some [.int .i64 (nu (fun x=>!bz x) 0 hs)]:=by
   rw[q_ai];unfold F_ai
   simp only[List.length_map]
   rw[iv (l:=hs) (fun x=>!bz x)]
   ·rfl
   ·intro i x hx
    have hi:=(List.getElem?_eq_some_iff.1 hx).1
    have hi':(i:Int)<(hs.length:Nat):=by omega
    have h1:xz [.int .i64 x.m,.int .i64 x.s]=some [.bool (!bz x)]:=by rw[q_cm];simp (disch:=first|assumption|omega|(simp only[zL];omega)) only[F_cm,JQ,Int.reduceEq,reduceIte,zU,zT,aa]
    simp (disch:=first|assumption|omega|(simp only[zL];omega)) only[zA,rD hx,Hold.e,al,hi',if_true,h1,Int.reduceEq,reduceIte,zU,zT,aa]
    cases bz x<;>rfl
   ·have h:¬ ((hs.length:Int)<(hs.length:Nat)):=by omega
    simp (disch:=first|assumption|omega|(simp only[zL];omega)) only[zA,h,if_false,Int.reduceEq,reduceIte,zU,zT,aa]
  rw[q_ae];simp (disch:=first|assumption|omega|(simp only[zL];omega)) only[F_ae,hi,eV,Bool.decide_eq_true,Int.reduceEq,reduceIte,zU,zT,aa]
 have e1:hs.any (fun x=>!bz x)=false:=by rw[List.any_eq_false];intro x hx;simp[ho.hold x hx]
 have e2:in_ room 0 9=true:=in_iff.2 ho.room
 have e3:((hs.length:Nat):Int)=6:=by omega
 have e4:free ⟨room,hs⟩>=0:=ho.free
 simp (disch:=first|assumption|omega|(simp only[zL];omega)) only[F_eq,ly,e2,e3,hc,e1,z3 ho.room ho.hold (show hs.length<=100 by omega),e4,decide_true,if_true,Int.reduceEq,reduceIte,zU,zT,aa]
theorem yI:xx [.int .i64 room]=some ((if in_ room 0 9 then cq room else⟨0,[]⟩).e++[.bool (in_ room 0 9)]):=by
 rw[q_dz]
 simp (disch:=first|assumption|omega|(simp only[zL];omega)) only[F_dz,ly,Int.reduceEq,reduceIte,zU,zT,aa]
 cases in_ room 0 9<;>rfl
theorem oD{hs:List Hold}(ho:StOk ⟨room,hs⟩)(hL:ms.length<=1099511627776) :
  qY [.int .i64 room,.list (hs.map Hold.e),.int .i64 k,.int .i64 t,.list (ms.map eI)]=some [.bool (aL ⟨k,t,ms⟩ && may ⟨room,hs⟩ ⟨k,t,ms⟩)]:=by
 rw[q_dn]
 have hl:hs.length=6:=ho.len
 simp (disch:=first|assumption|omega|(simp only[zL];omega)) only[F_dn,sa ho,lz,Int.reduceEq,reduceIte,zU,zT,aa]
 cases hr:aL ⟨k,t,ms⟩with
 | false=>rfl
 | true =>
  have ht:=cU hr
  simp only at ht
  simp (disch:=first|assumption|omega|(simp only[zL];omega)) only[wrap64,DR,Hold.e,may,fe,z3 ho.room ho.hold (show hs.length<=100 by omega),Bool.true_and,Int.reduceEq,reduceIte,zU,zT,aa]
  by_cases h1:k=1
  ·obtain⟨n,e,_⟩:=el hr h1
   simp only at e;subst e
   simp only[h1,if_true,FT,eI,Int.reduceEq,reduceIte,zU,zT,aa]
   by_cases h0:(hAt hs t).s=0<;>simp[h0,aF]
  ·by_cases h2:k=2
   ·simp[h2,aF]
   ·by_cases h3:k=3
    ·by_cases h0:(hAt hs t).s=1<;>simp[h3,h0,aF]
    ·simp[h1,h2,h3,aF]
theorem FX(m:List Hold):(m.map Hold.e).all (aj [.int .i64,.int .i64])=true:=by simp[List.all_map,Hold.e,aj,gg,fb,Function.comp_def]
theorem De{hs:List Hold}(hL:hs.length<=1099511627776):xC [.list (hs.map Hold.e)]=some [.list (hs.map Hold.e)]:=by
 rw[q_at]
 cases hs with
 | nil=>simp[F_at,dK,bE,cg]
 | cons a l =>
  have:((a::l).map Hold.e).isEmpty=false:=rfl
  simp only[F_at,this,ay,List.nil_append,FX,du]
  rw[bE (by simp[cg]at *;omega)]
  rfl
theorem BU{hs:List Hold}(ho:StOk ⟨room,hs⟩)(hL:ms.length<=1099511627776) :
  xD [.int .i64 room,.list (hs.map Hold.e),.int .i64 k,.int .i64 t,.list (ms.map eI)] =
   some (if aL ⟨k,t,ms⟩ && may ⟨room,hs⟩ ⟨k,t,ms⟩ then(act ⟨room,hs⟩ ⟨k,t,ms⟩).e++[.bool true] else [.int .i64 0,.list [],.bool false]):=by
 rw[q_fj]
 have hl:hs.length=6:=ho.len
 have hl':hs.length<=1099511627776:=by omega
 simp (disch:=first|assumption|omega|(simp only[zL];omega)) only[F_fj,oD ho hL,De hl',Int.reduceEq,reduceIte,zU,zT,aa]
 cases hr:aL ⟨k,t,ms⟩with
 | false=>simp
 | true =>
  cases hm:may ⟨room,hs⟩ ⟨k,t,ms⟩with
  | false=>simp
  | true =>
   have ht:=cU hr
   simp only at ht
   have hx:=tu (l:=hs) ht.1 (by omega)
   have st:∀ a b:Int,setRow 0 (hs.map Hold.e) (t-1).toNat [C.int .i64 a,C.int .i64 b]=(hs.set (t-1).toNat ⟨a,b⟩).map Hold.e:=fun a b=>dL hx rfl
   have st1:∀ a:Int,setRow 1 (hs.map Hold.e) (t-1).toNat [C.int .i64 a]=(hs.set (t-1).toNat ⟨(hAt hs t).m,a⟩).map Hold.e:=fun a=>dL hx rfl
   simp (disch:=first|assumption|omega|(simp only[zL];omega)) only[DK,wrap64,act,i7,st,st1,Bool.and_self,if_true,Int.reduceEq,reduceIte,zU,zT,aa]
   by_cases h1:k=1
   ·obtain⟨n,e,_⟩:=el hr h1
    simp only at e;subst e
    simp only[h1,if_true,FT,eI,Int.reduceEq,reduceIte,zU,zT,aa]
    simp[Stock.e,st]
   ·by_cases h2:k=2
    ·simp[h2,Stock.e]
    ·by_cases h3:k=3
     ·simp[h3,Stock.e]
     ·exfalso;simp[may,h1,h2,h3]at hm
theorem sb(hL:rs.length<=2000000)(hm:∀ r∈rs,r.m.length<=1099511627776) :
  qZ [.int .i64 room,.list (rs.map Rec.e)]=some (((co room rs).getD ⟨0,[]⟩).e++[.bool (co room rs).isSome]):=by
 rw[q_ek]
 simp (disch:=first|assumption|omega|(simp only[zL];omega)) only[F_ek,yI,Stock.e,List.cons_append,Int.reduceEq,reduceIte,zU,zT,aa]
 have key:=ar (l:=rs) (F:=fun ps=>p8 (rs.map Rec.e) ((aa ps 0).toBool) ((aa ps 1).toInt) ((aa ps 2).toInt) ((aa ps 3).toList)) (enc:=fun i (s:Option Stock)=>[.bool s.isSome,.int .i64 i,.int .i64 (s.getD ⟨0,[]⟩).room,.list ((s.getD ⟨0,[]⟩).hs.map Hold.e)])
  (res:=fun xs _ s=>match s with
   | some l=>.ret (((b9 xs l).getD ⟨0,[]⟩).e++[.bool (b9 xs l).isSome])
   | none=>.ret ((⟨0,[]⟩:Stock).e++[.bool false])) (fun _ s=>∀ l,s=some l->StOk l) (s:=if in_ room 0 9 then some (cq room) else none)
   (fun l e=>by
    cases hr:in_ room 0 9 with
    | false=>simp[hr]at e
    | true=>simp only[hr,if_true,Option.some.injEq]at e;rw[<-e];exact fZ (in_iff.1 hr)) ?_ ?_
 ·cases hr:in_ room 0 9 with
  | false =>
   simp only[hr,Bool.false_eq_true,if_false]at key
   have key:aJ _ [C.bool false,C.int .i64 0,C.int .i64 0,C.list []]=_:=key
   simp only[Bool.false_eq_true,if_false,List.map_nil]
   rw[key];simp[co,hr,Stock.e]
  | true =>
   simp only[hr,if_true]at key
   have key:aJ _ [C.bool true,C.int .i64 0,C.int .i64 (cq room).room,C.list ((cq room).hs.map Hold.e)]=_:=key
   simp only[if_true]
   rw[key];simp[co,hr,Stock.e]
 ·intro i x xs s hx hs
  have hi:=(List.getElem?_eq_some_iff.1 hx).1
  have hi':(i:Int)<(rs.length:Nat):=by omega
  have hxm:=hm x (List.mem_of_getElem? hx)
  cases s with
  | none=>exact .inr ⟨_,rfl,rfl⟩
  | some l =>
   have hT:=hs l rfl
   have hT':StOk ⟨l.room,l.hs⟩:=hT
   simp (disch:=first|assumption|omega|(simp only[zL];omega)) only[p8,Option.isSome_some,Option.getD_some,kZ hx,Rec.e,hi',if_true,BU hT' hxm,Int.reduceEq,reduceIte,zU,zT,aa]
   rcases Bool.eq_false_or_eq_true (aL x && may l x)with h|h
   ·simp only[h,if_true]
    refine .inl ⟨some (act l x),?_,fun l' e=>?_,by simp[b9,h]⟩
    ·simp (disch:=first|assumption|omega|(simp only[zL];omega)) only[al,Option.isSome_some,Option.getD_some,Stock.e,List.cons_append,Int.reduceEq,reduceIte,zU,zT,aa]
    ·simp only[Option.some.injEq]at e;rw[<-e]
     simp only[Bool.and_eq_true]at h
     exact qe hT h.1 h.2
   ·simp only[h,Bool.false_eq_true,if_false]
    refine .inl ⟨none,?_,?_,?_⟩
    ·simp (disch:=first|assumption|omega|(simp only[zL];omega)) only[al,Option.isSome_none,Option.getD_none,Int.reduceEq,reduceIte,zU,zT,aa]
     try simp
    ·intro l' e;cases e
    ·simp[b9,h]
 ·intro s hs
  have h:¬ ((rs.length:Int)<(rs.length:Nat)):=by omega
  cases s with
  | none=>simp[p8,aa,Stock.e]
  | some l=>simp[p8,aa,aP,b9,Stock.e]
end
end Dx
namespace Dx
open Go
def hz:House:=⟨0,false,0,⟨[],0⟩⟩
section
variable {up b:Bool} {rs:List Rec} {f:Int} {td:List Word} {k h t m keep:Int} {ms:List Int} {id room:Int} {hs:List House} {ns:List Word}
theorem dP(hl:LgS ⟨rs,f⟩):gu [.int .i64 id,.bool up,.int .i64 room,.list (rs.map Rec.e),.int .i64 f]=some [.bool (cN ⟨id,up,room,⟨rs,f⟩⟩)]:=by
 rw[q_ej]
 simp (disch:=first|assumption|omega|(simp only[zL];omega)) only[F_ej,dy,lB,sb hl.l hl.m,Stock.e,List.cons_append,cN,Int.reduceEq,reduceIte,zU,zT,aa]
 cases in_ id 1 3<;>cases gv ⟨rs,f⟩<;>simp
theorem eu(hl:LgS ⟨rs,f⟩):jT [.int .i64 id,.bool up,.int .i64 room,.list (rs.map Rec.e),.int .i64 f]=some (House.e ⟨id,up,room,⟨rs,f⟩⟩):=by
 rw[q_bd]
 simp (disch:=first|assumption|omega|(simp only[zL];omega)) only[F_bd,iX,Int.reduceEq,reduceIte,zU,zT,aa]
 rfl
theorem oE(hl:LgOk ⟨rs,f⟩):ji [.int .i64 id,.bool up,.int .i64 room,.list (rs.map Rec.e),.int .i64 f,.bool b]=some (am ⟨id,up,room,⟨rs,f⟩⟩ b).e:=by
 rw[q_br]
 have hs:=hl.S
 have h1:(aW ⟨rs,f⟩ b).length<=2000000:=by have:=hs.l;unfold aW;split<;>simp<;>omega
 have h2:∀ r∈aW ⟨rs,f⟩ b,r.m.length<=1099511627776:=fun r hr=>hs.2 r (by unfold aW at hr;split at hr;exact List.mem_of_mem_take hr;exact hr)
 simp (disch:=first|assumption|omega|(simp only[zL];omega)) only[F_br,AG (fun _=>⟨hl.lo,hl.hi⟩),sb h1 h2,Stock.e,List.cons_append,am,Int.reduceEq,reduceIte,zU,zT,aa]
def IW(w:Word)(all forced:Int):Int:=if w.k=1/\all=0 then 5 else(oW (answer 0 w forced)).k
theorem yJ(ho:HsOk ⟨id,up,room,⟨rs,f⟩⟩)(ht:1<=t/\t<=6) :
  xM [.int .i64 id,.bool up,.int .i64 room,.list (rs.map Rec.e),.int .i64 f,.int .i64 k,.int .i64 h,.int .i64 t,.int .i64 m] =
   some [.int .i64 (IW ⟨k,h,t,m⟩ (fe (am ⟨id,up,room,⟨rs,f⟩⟩ false) t) (fe (am ⟨id,up,room,⟨rs,f⟩⟩ true) t))]:=by
 rw[q_aw]
 have hlg:LgOk ⟨rs,f⟩:=ho.lg
 have lA:=(ho.stOk false).len
 have lF:=(ho.stOk true).len
 have j0:∀(st:Int) (c:Bool),ah (zD k st c)=some [.int .i64 (if c then 4 else if k=1/\st=3 then 5 else if k=2/\st=2 then 6 else if k=3/\st=3 then 7 else 0)]:=by
  intro st c
  unfold zD
  cases c with
  | true=>rfl
  | false =>
   simp only[ay,bD,Bool.false_eq_true,if_false]
   by_cases h1:k=1
   ·by_cases h3:st=3<;>simp[h1,h3]
   ·by_cases h2:k=2
    ·by_cases h3:st=2<;>simp[h2,h3]
    ·by_cases h3:k=3
     ·by_cases h4:st=3<;>simp[h3,h4]
     ·simp[h1,h2,h3]
 have j1:∀(st:Int) (c:Bool),ah (zE k st c)=some [.int .i64 (if c then 5 else if k=1/\(st=1\/st=2) then 4 else if k=1/\st=3 then 5 else if k=2/\st=2 then 6 else if k=3/\st=3 then 7 else 0)]:=by
  intro st c
  unfold zE
  cases c with
  | true=>rfl
  | false =>
   simp only[ay,bD,Bool.false_eq_true,if_false]
   by_cases h1:k=1
   ·by_cases h3:st=1
    ·simp[h1,h3,aa];rw[<-h1,j0];simp
    ·simp[h1,h3,aa];rw[<-h1,j0];simp[h1]
   ·simp only[h1,if_false,bc,aa,C.toBool_bool];rw[j0];simp[h1]
 simp (disch:=first|assumption|omega|(simp only[zL];omega)) only[F_aw,oE hlg,Stock.e,DR,wrap64,Hold.e,fe,Int.reduceEq,reduceIte,zT,aa]
 simp only[bD]
 by_cases h1:k=1
 ·simp only[h1,if_true,bc,aa,C.toBool_bool]
  rw[<-h1,j1]
  unfold IW answer oW
  by_cases h0:(hAt (am ⟨id,up,room,⟨rs,f⟩⟩ false).hs t).s=0
  ·simp[h1,h0]
  ·generalize (hAt (am ⟨id,up,room,⟨rs,f⟩⟩ true).hs t).s=st
   by_cases s1:st=1
   ·simp[h1,h0,s1]
   ·by_cases s2:st=2
    ·simp[h1,h0,s2]
    ·by_cases s3:st=3<;>simp[h1,h0,s1,s2,s3]
 ·simp only[h1,if_false,bc,aa,C.toBool_bool]
  rw[j1]
  unfold IW answer oW
  generalize (hAt (am ⟨id,up,room,⟨rs,f⟩⟩ true).hs t).s=st
  by_cases h2:k=2
  ·by_cases s2:st=2<;>simp[h2,s2]
  ·by_cases h3:k=3
   ·by_cases s3:st=3<;>simp[h3,s3]
   ·simp[h1,h2,h3]
theorem DX{id:Int}{w:Word}{st:Int}:(oW (answer 0 w st)).k=0↔answer id w st=none:=by
 unfold answer oW
 split
 ·simp
 ·split
  ·simp
  ·split
   ·simp
   ·split<;>simp
theorem JR{id:Int}{w x:Word}{st:Int}(h:answer id w st=some x):x=⟨(oW (answer 0 w st)).k,id,w.t,0⟩:=by
 unfold answer oW at *
 split at h
 ·rename_i c;simp only[Option.some.injEq]at h;subst h;simp[c]
 ·rename_i c1
  split at h
  ·rename_i c;simp only[Option.some.injEq]at h;subst h;simp[c]
  ·rename_i c2
   split at h
   ·rename_i c;simp only[Option.some.injEq]at h;subst h;simp[c]
   ·rename_i c3
    split at h
    ·rename_i c;simp only[Option.some.injEq]at h;subst h;simp[c]
    ·cases h
theorem vv(ho:HsOk ⟨id,up,room,⟨rs,f⟩⟩) :
  rn [.int .i64 id,.bool up,.int .i64 room,.list (rs.map Rec.e),.int .i64 f,.int .i64 k,.int .i64 h,.int .i64 t,.int .i64 m] =
   some ((hhear ⟨id,up,room,⟨rs,f⟩⟩ ⟨k,h,t,m⟩).1.e++((oW (hhear ⟨id,up,room,⟨rs,f⟩⟩ ⟨k,h,t,m⟩).2).e++[.bool (hhear ⟨id,up,room,⟨rs,f⟩⟩ ⟨k,h,t,m⟩).2.isSome])):=by
 rw[q_co]
 have hlg:LgOk ⟨rs,f⟩:=ho.lg
 have hS:=hlg.S
 have hok:cN ⟨id,up,room,⟨rs,f⟩⟩=true:=houseOk_iff.2 ho
 have hlo:gv ⟨rs,f⟩=true:=logOk_iff.2 hlg
 simp (disch:=first|assumption|omega|(simp only[zL];omega)) only[F_co,dP,hok,eu,House.e,lh,jd,hhear,Int.reduceEq,reduceIte,zU,zT,aa]
 cases up with
 | false=>rfl
 | true =>
  cases hw:bG ⟨k,h,t,m⟩with
  | false=>rfl
  | true =>
   have wok:=wordOk_iff.1 hw
   have wt:=wok.t
   have wk:=wok.k
   simp only at wt wk
   simp only[aB,Bool.not_true,Bool.false_or]
   by_cases h4:k>=4
   ·have h3:k>3:=by omega
    simp[h4,h3,House.e,oW,Word.e]
   ·have h3:¬ k>3:=by omega
    by_cases e1:h=id
    ·subst e1
     have hms:(if k=1 then m8 k h t m h true room (rs.map Rec.e) f [[C.int .i64 m]] else m8 k h t m h true room (rs.map Rec.e) f [])=m8 k h t m h true room (rs.map Rec.e) f ((bI ⟨k,h,t,m⟩).m.map eI):=by
      by_cases h1:k=1
      ·simp[h1,bI,eI]
      ·by_cases h2:k=2<;>simp[h1,h2,bI]
     have hr:=cW wok
     have er:bI ⟨k,h,t,m⟩=⟨k,t,(bI ⟨k,h,t,m⟩).m⟩:=by
      by_cases h1:k=1
      ·simp[h1,bI]
      ·by_cases h2:k=2
       ·simp[h2,bI]
       ·have:k=3:=by omega
        simp[this,bI]
     have sA:=ho.stOk false
     have sA':StOk ⟨(am ⟨h,true,room,⟨rs,f⟩⟩ false).room,(am ⟨h,true,room,⟨rs,f⟩⟩ false).hs⟩:=sA
     have hml:=fN hr
     have hml':(bI ⟨k,h,t,m⟩).m.length<=1099511627776:=by omega
     have hmay:=oD (k:=k) (t:=t) sA' hml'
     have hadd:=vZ (k:=k) (t:=t) hS hml'
     rw[<-er]at hmay hadd
     simp only[DQ,hr,hlo,Bool.true_and,Bool.and_self,if_true]at hmay hadd
     have hans:=yJ (k:=k) (h:=h) (m:=m) ho wt
     have hj:ah (m8 k h t m h true room (rs.map Rec.e) f ((bI ⟨k,h,t,m⟩).m.map eI))=some ((if may (am ⟨h,true,room,⟨rs,f⟩⟩ false) (bI ⟨k,h,t,m⟩)=true then((⟨h,true,room,dJ ⟨rs,f⟩ (bI ⟨k,h,t,m⟩)⟩:House),(none:Option Word))
       else if k=1/\fe (am ⟨h,true,room,⟨rs,f⟩⟩ false) t=0 then(⟨h,true,room,⟨rs,f⟩⟩,some ⟨5,h,t,0⟩)
       else(⟨h,true,room,⟨rs,f⟩⟩,answer h ⟨k,h,t,m⟩ (fe (am ⟨h,true,room,⟨rs,f⟩⟩ true) t))).1.e++((oW (if may (am ⟨h,true,room,⟨rs,f⟩⟩ false) (bI ⟨k,h,t,m⟩)=true then((⟨h,true,room,dJ ⟨rs,f⟩ (bI ⟨k,h,t,m⟩)⟩:House),(none:Option Word))
       else if k=1/\fe (am ⟨h,true,room,⟨rs,f⟩⟩ false) t=0 then(⟨h,true,room,⟨rs,f⟩⟩,some ⟨5,h,t,0⟩)
       else(⟨h,true,room,⟨rs,f⟩⟩,answer h ⟨k,h,t,m⟩ (fe (am ⟨h,true,room,⟨rs,f⟩⟩ true) t))).2).e++[.bool (if may (am ⟨h,true,room,⟨rs,f⟩⟩ false) (bI ⟨k,h,t,m⟩)=true then((⟨h,true,room,dJ ⟨rs,f⟩ (bI ⟨k,h,t,m⟩)⟩:House),(none:Option Word))
       else if k=1/\fe (am ⟨h,true,room,⟨rs,f⟩⟩ false) t=0 then(⟨h,true,room,⟨rs,f⟩⟩,some ⟨5,h,t,0⟩)
       else(⟨h,true,room,⟨rs,f⟩⟩,answer h ⟨k,h,t,m⟩ (fe (am ⟨h,true,room,⟨rs,f⟩⟩ true) t))).2.isSome])):=by
      unfold m8
      simp (disch:=first|assumption|omega|(simp only[zL];omega)) only[oE hlg,Stock.e,hmay,hadd,hans,Int.reduceEq,reduceIte,zT,aa]
      cases may (am ⟨h,true,room,⟨rs,f⟩⟩ false) (bI ⟨k,h,t,m⟩)with
      | true=>simp[House.e,z2,oW,Word.e]
      | false =>
       simp only[ay,bD,Bool.false_eq_true,if_false,IW]
       by_cases c:k=1/\fe (am ⟨h,true,room,⟨rs,f⟩⟩ false) t=0
       ·simp[c,House.e,oW,Word.e]
       ·simp only[c,if_false]
        cases ha:answer h ⟨k,h,t,m⟩ (fe (am ⟨h,true,room,⟨rs,f⟩⟩ true) t)with
        | none =>
         have:=(DX (id:=h)).2 ha
         simp only[this,if_true]
         simp[House.e,oW,Word.e]
        | some x =>
         have h0:¬ (oW (answer 0 ⟨k,h,t,m⟩ (fe (am ⟨h,true,room,⟨rs,f⟩⟩ true) t))).k=0:=fun e=>by
          rw[(DX (id:=h)).1 e]at ha;cases ha
         have hx:=JR ha
         simp only[h0,if_false]
         subst hx
         simp[House.e,oW,Word.e]
     simp only[h4,if_false,if_true,hms,hj,h3,decide_false,bne_self_eq_false,Bool.or_self,Bool.false_eq_true]
     rfl
    ·simp[h4,h3,e1,House.e,oW,Word.e]
end
end Dx
namespace Dx
open Go
theorem lj{l:List House}{i:Int}(h1:1<=i)(h2:i<=l.length)(id:Int)(up:Bool)(room:Int)(rs:List Rec)(f:Int) :
  setRow 0 (l.map House.e) (i-1).toNat [.int .i64 id,.bool up,.int .i64 room,.list (rs.map Rec.e),.int .i64 f]=(l.set (i-1).toNat ⟨id,up,room,⟨rs,f⟩⟩).map House.e :=
 dL (vW h1 h2) rfl
section
variable {up b:Bool} {rs:List Rec} {f:Int} {td:List Word} {k h t m keep:Int} {ms:List Int} {id room:Int} {hs:List House} {ns:List Word}
theorem sV(ho:HsOk ⟨id,up,room,⟨rs,f⟩⟩):xI [.int .i64 id,.bool up,.int .i64 room,.list (rs.map Rec.e),.int .i64 f]=some (bY ⟨id,up,room,⟨rs,f⟩⟩).e:=by
 rw[q_ci]
 have hlg:LgOk ⟨rs,f⟩:=ho.lg
 have hS:=hlg.S
 have hok:=houseOk_iff.2 ho
 simp (disch:=first|assumption|omega|(simp only[zL];omega)) only[F_ci,dP,hok,eu,House.e,oC hlg,Log.e,Int.reduceEq,reduceIte,zU,zT,aa]
 cases up<;>rfl
theorem vx(ho:HsOk ⟨id,up,room,⟨rs,f⟩⟩):xK [.int .i64 id,.bool up,.int .i64 room,.list (rs.map Rec.e),.int .i64 f]=some (fj ⟨id,up,room,⟨rs,f⟩⟩).e:=by
 rw[q_cr]
 have hlg:LgOk ⟨rs,f⟩:=ho.lg
 have hS:=hlg.S
 have hok:=houseOk_iff.2 ho
 simp (disch:=first|assumption|omega|(simp only[zL];omega)) only[F_cr,dP,hok,eu,House.e,Int.reduceEq,reduceIte,zU,zT,aa]
 rfl
theorem vy(ho:HsOk ⟨id,up,room,⟨rs,f⟩⟩) :
  yf [.int .i64 id,.bool up,.int .i64 room,.list (rs.map Rec.e),.int .i64 f,.int .i64 keep]=some (hfall ⟨id,up,room,⟨rs,f⟩⟩ keep).e:=by
 rw[q_cq]
 have hlg:LgOk ⟨rs,f⟩:=ho.lg
 have hS:=hlg.S
 have hok:=houseOk_iff.2 ho
 simp (disch:=first|assumption|omega|(simp only[zL];omega)) only[F_cq,dP,hok,rZ hlg,Log.e,Int.reduceEq,reduceIte,zU,zT,aa]
 rfl
theorem gT(hl:LgS ⟨rs,f⟩):mO [.int .i64 id,.bool up,.int .i64 room,.list (rs.map Rec.e),.int .i64 f,.bool b]=some (if cN ⟨id,up,room,⟨rs,f⟩⟩ then am ⟨id,up,room,⟨rs,f⟩⟩ b else⟨0,[]⟩).e:=by
 rw[q_ca]
 cases ho:cN ⟨id,up,room,⟨rs,f⟩⟩with
 | false=>simp (disch:=first|assumption|omega|(simp only[zL];omega)) only[F_ca,dP,ho,Int.reduceEq,reduceIte,zU,zT,aa];rfl
 | true =>
  have hd:=houseOk_iff.1 ho
  have hlg:LgOk ⟨rs,f⟩:=hd.lg
  simp (disch:=first|assumption|omega|(simp only[zL];omega)) only[F_ca,dP,ho,oE hlg,Stock.e,if_true,Int.reduceEq,reduceIte,zU,zT,aa]
theorem z4(hL:ns.length<=1000) :
  jU [.bool up,.list (rs.map Rec.e),.int .i64 f,.list (td.map Word.e),.list (hs.map House.e),.list (ns.map Word.e),.int .i64 k,.int .i64 h,.int .i64 t,.int .i64 m]=some (kx ⟨⟨up,⟨rs,f⟩,td⟩,hs,ns⟩ ⟨k,h,t,m⟩).e:=by
 rw[q_cg]
 simp (disch:=first|assumption|omega|(simp only[zL];omega)) only[F_cg,kx,Int.reduceEq,reduceIte,zU,zT,aa]
 by_cases hn:ns.length<14
 ·have h':((ns.length:Nat):Int)<14:=by omega
  have hc:ns.length+1<=1099511627776:=by omega
  simp[hn,h',Wd.e,Word.e,cg,hc]
 ·have h':¬ (((ns.length:Nat):Int)<14):=by omega
  simp[hn,h',Wd.e]
theorem AH(ho:WOk ⟨⟨up,⟨rs,f⟩,td⟩,hs,ns⟩)(hx:WdOk ⟨k,h,t,m⟩) :
  uy [.bool up,.list (rs.map Rec.e),.int .i64 f,.list (td.map Word.e),.list (hs.map House.e),.list (ns.map Word.e),.int .i64 k,.int .i64 h,.int .i64 t,.int .i64 m] =
   some ((oW (bo ⟨⟨up,⟨rs,f⟩,td⟩,hs,ns⟩ ⟨k,h,t,m⟩).2).e++(.bool (bo ⟨⟨up,⟨rs,f⟩,td⟩,hs,ns⟩ ⟨k,h,t,m⟩).2.isSome::(bo ⟨⟨up,⟨rs,f⟩,td⟩,hs,ns⟩ ⟨k,h,t,m⟩).1.e)):=by
 rw[q_bi]
 have hd:DkOk ⟨up,⟨rs,f⟩,td⟩:=ho.dk
 have hl:hs.length=3:=ho.len
 have hh:=hx.h
 simp only at hh
 by_cases h4:k>=4
 ·simp (disch:=first|assumption|omega|(simp only[zL];omega)) only[F_bi,jd,DW,bo,h4,if_true,decide_true,Desk.e,Int.reduceEq,reduceIte,zU,zT,aa]
  simp[Wd.e,oW,Word.e]
 ·have hho:=(ho.houseAt (i:=h) hh).2.1
  rw[bJ]at hho
  simp only at hho
  have hho':HsOk ⟨(d9 hs h).id,(d9 hs h).up,(d9 hs h).room,⟨(d9 hs h).lg.rs,(d9 hs h).lg.f⟩⟩:=hho
  have h2:h<=hs.length:=by omega
  have hset:=fun id up room rs f=>lj (l:=hs) hh.1 h2 id up room rs f
  simp (disch:=first|assumption|omega|(simp only[zL];omega)) only[F_bi,jd,bo,h4,if_false,decide_false,wrap64,ot,House.e,vv,List.cons_append,Word.e,hset,mU,kO,eqD,List.set_set,bJ,Int.reduceEq,reduceIte,zU,zT,aa]
  simp[Wd.e,setHouse]
theorem mh(ho:WOk ⟨⟨up,⟨rs,f⟩,td⟩,hs,ns⟩){i:Int} :
  rg [.bool up,.list (rs.map Rec.e),.int .i64 f,.list (td.map Word.e),.list (hs.map House.e),.list (ns.map Word.e),.int .i64 i]=some (cH ⟨⟨up,⟨rs,f⟩,td⟩,hs,ns⟩ i).e:=by
 rw[q_ab]
 have hd:DkOk ⟨up,⟨rs,f⟩,td⟩:=ho.dk
 have hl:hs.length=3:=ho.len
 by_cases h0:i=0
 ·subst h0
  simp (disch:=first|assumption|omega|(simp only[zL];omega)) only[HL,cH,vr,Desk.e,Int.reduceEq,reduceIte,zU,zT,aa]
  simp[Wd.e]
 ·cases hi:in_ i 1 3 with
  | false=>simp (disch:=first|assumption|omega|(simp only[zL];omega)) only[HL,dy,cH,h0,hi,if_false,Int.reduceEq,reduceIte,zU,zT,aa];simp[Wd.e]
  | true =>
   have hi':=in_iff.1 hi
   have hho:=(ho.houseAt (i:=i) hi').2.1
   rw[bJ]at hho
   simp only at hho
   have hho':HsOk ⟨(d9 hs i).id,(d9 hs i).up,(d9 hs i).room,⟨(d9 hs i).lg.rs,(d9 hs i).lg.f⟩⟩:=hho
   have h2:i<=hs.length:=by omega
   have hset:=fun id up room rs f=>lj (l:=hs) hi'.1 h2 id up room rs f
   simp (disch:=first|assumption|omega|(simp only[zL];omega)) only[HL,dy,cH,h0,hi,if_false,if_true,wrap64,ot,House.e,sV,hset,mU,kO,eqD,List.set_set,bJ,Int.reduceEq,reduceIte,zU,zT,aa]
   simp[Wd.e,setHouse]
theorem oF(ho:WOk ⟨⟨up,⟨rs,f⟩,td⟩,hs,ns⟩){i:Int} :
  rh [.bool up,.list (rs.map Rec.e),.int .i64 f,.list (td.map Word.e),.list (hs.map House.e),.list (ns.map Word.e),.int .i64 i]=some (cw ⟨⟨up,⟨rs,f⟩,td⟩,hs,ns⟩ ⟨9,i,0,[]⟩).e:=by
 rw[q_af]
 have hd:DkOk ⟨up,⟨rs,f⟩,td⟩:=ho.dk
 have hl:hs.length=3:=ho.len
 by_cases h0:i=0
 ·subst h0
  have e0:in_ 0 0 3=true:=rfl
  simp (disch:=first|assumption|omega|(simp only[zL];omega)) only[HP,cw,e0,yG,Desk.e,Int.reduceEq,reduceIte,zU,zT,aa]
  simp[Wd.e]
 ·cases hi:in_ i 1 3 with
  | false =>
   have e0:in_ i 0 3=false:=by rw[in_false]at hi ⊢;omega
   simp (disch:=first|assumption|omega|(simp only[zL];omega)) only[HP,dy,cw,e0,h0,hi,if_false,Int.reduceEq,reduceIte,zU,zT,aa];simp[Wd.e]
  | true =>
   have hi':=in_iff.1 hi
   have e0:in_ i 0 3=true:=in_iff.2 (by omega)
   have hho:=(ho.houseAt (i:=i) hi').2.1
   rw[bJ]at hho
   simp only at hho
   have hho':HsOk ⟨(d9 hs i).id,(d9 hs i).up,(d9 hs i).room,⟨(d9 hs i).lg.rs,(d9 hs i).lg.f⟩⟩:=hho
   have h2:i<=hs.length:=by omega
   have hset:=fun id up room rs f=>lj (l:=hs) hi'.1 h2 id up room rs f
   simp (disch:=first|assumption|omega|(simp only[zL];omega)) only[HP,dy,cw,e0,h0,hi,if_false,if_true,wrap64,ot,House.e,vx,hset,mU,kO,eqD,List.set_set,bJ,Int.reduceEq,reduceIte,zU,zT,aa]
   simp[Wd.e,setHouse]
theorem i_do1(hd:DkOk ⟨up,⟨rs,f⟩,td⟩){k a:Int}{mc:List (List C)} :
  ye [.bool up,.list (rs.map Rec.e),.int .i64 f,.list (td.map Word.e),.int .i64 k,.int .i64 a,.int .i64 keep,.list mc]=some (dfall ⟨up,⟨rs,f⟩,td⟩ keep).e:=by
 rw[q_bx]
 simp (disch:=first|assumption|omega|(simp only[zL];omega)) only[F_bx,yF hd,Desk.e,Int.reduceEq,reduceIte,zU,zT,aa]
theorem i_do2(ho:HsOk ⟨id,up,room,⟨rs,f⟩⟩){k a:Int}{mc:List (List C)} :
  yg [.int .i64 id,.bool up,.int .i64 room,.list (rs.map Rec.e),.int .i64 f,.int .i64 k,.int .i64 a,.int .i64 keep,.list mc]=some (hfall ⟨id,up,room,⟨rs,f⟩⟩ keep).e:=by
 rw[q_cd]
 simp (disch:=first|assumption|omega|(simp only[zL];omega)) only[F_cd,vy ho,House.e,Int.reduceEq,reduceIte,zU,zT,aa]
theorem yK(ho:WOk ⟨⟨up,⟨rs,f⟩,td⟩,hs,ns⟩){i:Int}{k a k' a':Int}{mc mc':List (List C)} :
  yh [.bool up,.list (rs.map Rec.e),.int .i64 f,.list (td.map Word.e),.list (hs.map House.e),.list (ns.map Word.e),.int .i64 i,.int .i64 k,.int .i64 a,.int .i64 keep,.list mc,.int .i64 k',.int .i64 a',.int .i64 keep,.list mc']=some (cw ⟨⟨up,⟨rs,f⟩,td⟩,hs,ns⟩ ⟨8,i,keep,[]⟩).e:=by
 rw[q_aa]
 have hd:DkOk ⟨up,⟨rs,f⟩,td⟩:=ho.dk
 have hl:hs.length=3:=ho.len
 by_cases h0:i=0
 ·subst h0
  have e0:in_ 0 0 3=true:=rfl
  simp (disch:=first|assumption|omega|(simp only[zL];omega)) only[ID,cw,e0,i_do1 hd,Desk.e,Int.reduceEq,reduceIte,zU,zT,aa]
  simp[Wd.e]
 ·cases hi:in_ i 1 3 with
  | false =>
   have e0:in_ i 0 3=false:=by rw[in_false]at hi ⊢;omega
   simp (disch:=first|assumption|omega|(simp only[zL];omega)) only[ID,dy,cw,e0,h0,hi,if_false,Int.reduceEq,reduceIte,zU,zT,aa];simp[Wd.e]
  | true =>
   have hi':=in_iff.1 hi
   have e0:in_ i 0 3=true:=in_iff.2 (by omega)
   have hho:=(ho.houseAt (i:=i) hi').2.1
   rw[bJ]at hho
   simp only at hho
   have hho':HsOk ⟨(d9 hs i).id,(d9 hs i).up,(d9 hs i).room,⟨(d9 hs i).lg.rs,(d9 hs i).lg.f⟩⟩:=hho
   have h2:i<=hs.length:=by omega
   have hset:=fun id up room rs f=>lj (l:=hs) hi'.1 h2 id up room rs f
   simp (disch:=first|assumption|omega|(simp only[zL];omega)) only[ID,dy,cw,e0,h0,hi,if_false,if_true,wrap64,ot,House.e,i_do2 hho',hset,mU,kO,eqD,List.set_set,bJ,Int.reduceEq,reduceIte,zU,zT,aa]
   simp[Wd.e,setHouse]
theorem BV:xY []=some deskNew.e:=by rw[q_ez];rfl
theorem yL:xZ [.int .i64 id,.int .i64 room] =
  some (if in_ id 1 3 && in_ room 0 9 then(⟨id,true,room,⟨[],0⟩⟩:House).e++[.bool true] else(⟨0,false,0,⟨[],0⟩⟩:House).e++[.bool false]):=by
 rw[q_dr]
 simp (disch:=first|assumption|omega|(simp only[zL];omega)) only[F_dr,dy,ly,Int.reduceEq,reduceIte,zU,zT,aa]
 cases in_ id 1 3<;>cases in_ room 0 9<;>rfl
theorem im{rooms:List Int}(hL:rooms.length<=1099511627775):jk [.list (rooms.map eI)]=some (((aT rooms).getD wd0).e++[.bool (aT rooms).isSome]):=by
 rw[q_eb]
 simp (disch:=first|assumption|omega|(simp only[zL];omega)) only[F_eb,BV,Desk.e,deskNew,Int.reduceEq,reduceIte,zU,zT,aa]
 by_cases h3:((rooms.length:Nat):Int)=3
 case neg =>
  have:aT rooms=none:=by unfold aT;rw[if_neg];omega
  simp[h3,this,Wd.e,wd0]
 have h3':rooms.length=3:=by omega
 simp only[h3,if_true]
 have key:=ar (l:=rooms) (F:=fun ps=>ux (rooms.map eI) true [] 0 [] 3 ((aa ps 0).toInt) ((aa ps 1).toList)) (enc:=fun i (s:List House)=>[.int .i64 i,.list (s.map House.e)])
  (res:=fun xs i s=>.ret (((if xs.all (fun n=>in_ n 0 9)=true then some (⟨deskNew,s++nh i xs,[]⟩:Wd) else none).getD wd0).e++[.bool (if xs.all (fun n=>in_ n 0 9)=true then some (⟨deskNew,s++nh i xs,[]⟩:Wd) else none).isSome])) (fun i s=>s.length=i) (s:=[]) (by simp) ?_ ?_
 ·have key:aJ _ [C.int .i64 0,C.list []]=_:=key
  simp only[List.map_nil]at key ⊢
  rw[key]
  have:(if rooms.all (fun n=>in_ n 0 9)=true then some (⟨deskNew,[]++nh 0 rooms,[]⟩:Wd) else none)=aT rooms:=by
   unfold aT cJ
   rw[Fc];simp[h3']
  rw[this];rfl
 ·intro i x xs s hx hs
  have hi:=(List.getElem?_eq_some_iff.1 hx).1
  have hi':(i:Int)<3:=by omega
  simp only[ux,aa,C.toInt_int,C.toList_list,aP,hi',if_true,ig hx,eI]
  simp (disch:=first|assumption|omega|(simp only[zL];omega)) only[al,yL]
  have hid:in_ ((i+1:Nat):Int) 1 3=true:=in_iff.2 (by omega)
  simp only[hid,Bool.true_and]
  cases hok:in_ x 0 9 with
  | true =>
   simp only[House.e,List.cons_append,List.nil_append,lQ,aa,C.toInt_int,C.toList_list,C.toBool_bool,List.map_nil,Bool.not_true,ay,if_true]
   rw[bE (by simp[cg];omega)]
   refine .inl ⟨s++[⟨((i+1:Nat):Int),true,x,⟨[],0⟩⟩],by simp[House.e],by simp[hs],?_⟩
   simp[nh,hok]
  | false =>
   refine .inr ⟨_,rfl,?_⟩
   simp only[List.all_cons,hok,Bool.false_and,Bool.false_eq_true,if_false];rfl
 ·intro s hs
  have h:¬ ((rooms.length:Int)<3):=by omega
  simp only[ux,aa,C.toInt_int,C.toList_list,aP,h,if_false]
  simp[upD,nh,Wd.e,deskNew]
end
end Dx
namespace Dx
open Go
section
variable {up b:Bool} {rs:List Rec} {f:Int} {td:List Word} {k h t m keep:Int} {ms:List Int} {id room:Int} {hs:List House} {ns:List Word}
theorem Df{r:List (List C)}{i:Nat}{x12 x13:Int}(hi:i<=100)(hm:ms.length<=3)(hL:td.length<=1099511627775)(h14:b=true->x13=mT x12){acc:List Word}(ha:acc.length<=300) :
  aJ (fun ps=>p9 up r f (td.map Word.e) ((i:Nat):Int) (ms.map eI) x12 x13 b ((ms.length:Nat):Int) ((aa ps 0).toInt) ((aa ps 1).toList)) [.int .i64 0,.list (acc.map Word.e)] =
   some (.jump [.int .i64 ((i+1:Nat):Int),.list ((acc++if b then bl td x12 ((i+1:Nat):Int) 1 ms else []).map Word.e)]):=by
 have key:=ar (l:=ms) (F:=fun ps=>p9 up r f (td.map Word.e) ((i:Nat):Int) (ms.map eI) x12 x13 b ((ms.length:Nat):Int) ((aa ps 0).toInt) ((aa ps 1).toList)) (enc:=fun j (s:List Word)=>[.int .i64 j,.list (s.map Word.e)])
  (res:=fun xs j s=>.jump [.int .i64 ((i+1:Nat):Int),.list ((s++if b then bl td x12 ((i+1:Nat):Int) ((j+1:Nat):Int) xs else []).map Word.e)]) (fun j s=>s.length<=300+j) (s:=acc) (by omega) ?_ ?_
 ·have key:aJ _ [C.int .i64 0,C.list (acc.map Word.e)]=_:=key
  rw[key];rfl
 ·intro j x xs s hx hs
  have hj:=(List.getElem?_eq_some_iff.1 hx).1
  have hj':(j:Int)<(ms.length:Nat):=by omega
  have e1:((j+1:Nat):Int)+1=((j+1+1:Nat):Int):=by omega
  have hc:s.length+1<=1099511627776:=by omega
  simp (disch:=first|assumption|omega|(simp only[zL];omega)) only[p9,ig hx,eI,al,hj',if_true,DU,Int.reduceEq,reduceIte,zU,zT,aa]
  cases b with
  | false =>
   exact .inl ⟨s,by simp,by omega,by simp⟩
  | true =>
   have h13:=h14 rfl
   simp only[bl,gl,e1,if_true]
   rw[h13]
   by_cases h0:x=0
   ·simp only[h0,if_true,true_or,List.nil_append]
    exact .inl ⟨s,rfl,by omega,rfl⟩
   ·simp only[h0,if_false,false_or]
    cases hcn:td.contains ⟨mT x12,((j+1:Nat):Int),((i+1:Nat):Int),0⟩with
    | true =>
     simp only[aB,if_true,List.nil_append]
     exact .inl ⟨s,rfl,by omega,rfl⟩
    | false =>
     simp only[ay,Bool.false_eq_true,if_false]
     by_cases h1:x12=1
     ·subst h1
      simp only[if_true,aB]
      exact .inl ⟨s++[⟨1,((j+1:Nat):Int),((i+1:Nat):Int),x⟩],by simp[Word.e],by simp;omega,by simp⟩
     ·simp only[h1,if_false]
      simp only[aB]
      exact .inl ⟨s++[⟨x12,((j+1:Nat):Int),((i+1:Nat):Int),0⟩],by simp[Word.e],by simp;omega,by simp⟩
 ·intro s hs
  have h:¬ ((ms.length:Int)<(ms.length:Nat)):=by omega
  simp (disch:=first|assumption|omega|(simp only[zL];omega)) only[p9,h,if_false,al,Int.reduceEq,reduceIte,zU,zT,aa]
  cases b<;>simp[upD,bl]
theorem tx(hd:DkOk ⟨up,⟨rs,f⟩,td⟩):mM [.bool up,.list (rs.map Rec.e),.int .i64 f,.list (td.map Word.e)]=some [.list ((aV ⟨up,⟨rs,f⟩,td⟩).map Word.e)]:=by
 rw[q_bw]
 have hS:=hd.lg.S
 have hS':LgS ⟨rs,f⟩:=hS
 have h1:0<=f:=hd.lg.lo
 have h2:f<=rs.length:=hd.lg.hi
 have hT:TrOk (ai ⟨rs,f⟩ true):=hd.trOk true
 have htl:td.length<=1099511627775:=by have:=hd.tdlen;simp only at this;omega
 cases up with
 | false=>simp[F_bw,aV]
 | true =>
  simp (disch:=first|assumption|omega|(simp only[zL];omega)) only[F_bw,oB hS' (fun _=>⟨h1,h2⟩),Int.reduceEq,reduceIte,zU,zT,aa]
  have ed:aV ⟨true,⟨rs,f⟩,td⟩=c8 td 1 (ai ⟨rs,f⟩ true):=rfl
  rw[ed]
  generalize ai ⟨rs,f⟩ true=l at hT
  have hl6:=hT.len
  have key:=ar (l:=l) (F:=fun ps=>ul true (rs.map Rec.e) f (td.map Word.e) (l.map Trip.e) ((l.length:Nat):Int) ((aa ps 0).toInt) ((aa ps 1).toList)) (enc:=fun j (s:List Word)=>[.int .i64 j,.list (s.map Word.e)])
   (res:=fun xs j s=>.ret [.list ((s++c8 td ((j+1:Nat):Int) xs).map Word.e)]) (fun j s=>s.length<=3*j) (s:=[]) (by simp) ?_ ?_
  ·have key:aJ _ [C.int .i64 0,C.list []]=_:=key
   rw[key];rfl
  ·intro j x xs s hx hs
   have hj:=(List.getElem?_eq_some_iff.1 hx).1
   have hj':(j:Int)<(l.length:Nat):=by omega
   have hxo:=tripOk_iff.1 (hT.ok x (List.mem_of_getElem? hx))
   have hm3:=bt hxo.1
   have e1:((j+1:Nat):Int)+1=((j+1+1:Nat):Int):=by omega
   obtain⟨hx1,hx2⟩:=hxo.2
   simp (disch:=first|assumption|omega|(simp only[zL];omega)) only[ul,dS hx,Trip.e,hj',if_true,Int.reduceEq,reduceIte,zU,zT,aa]
   rw[Df (hi:=by omega) (hm:=by omega) (hL:=htl) (ha:=by omega)]
   ·refine .inl ⟨s++(if(([1,2,3]:List Int).any fun k=>(x.s:Int)==k) then bl td (iM [(1,1),(2,2),(3,3)] x.s) ((j+1:Nat):Int) 1 x.m else []),rfl,?_,?_⟩
    ·rw[List.length_append]
     have:=fk td (iM [(1,1),(2,2),(3,3)] x.s) ((j+1:Nat):Int) x.m 1
     split
     ·omega
     ·simp;omega
    ·simp only[c8,e1,List.append_assoc]
     have:(if(([1,2,3]:List Int).any fun k=>(x.s:Int)==k) then bl td (iM [(1,1),(2,2),(3,3)] x.s) ((j+1:Nat):Int) 1 x.m else [])=if x.s>3 then [] else bl td x.s ((j+1:Nat):Int) 1 x.m:=by
      have:x.s=1\/x.s=2\/x.s=3\/x.s=4\/x.s=5:=by omega
      rcases this with e|e|e|e|e<;>rw[e]<;>simp[iM]
     rw[this]
   ·intro hb
    have:x.s=1\/x.s=2\/x.s=3\/x.s=4\/x.s=5:=by omega
    rcases this with e|e|e|e|e<;>rw[e]at hb ⊢<;>simp[iM,mT]at hb ⊢
  ·intro s hs
   have h:¬ ((l.length:Int)<(l.length:Nat)):=by omega
   simp (disch:=first|assumption|omega|(simp only[zL];omega)) only[ul,h,if_false,Int.reduceEq,reduceIte,zU,zT,aa]
   simp[c8]
theorem mi(hl:DkS ⟨up,⟨rs,f⟩,td⟩):rA [.bool up,.list (rs.map Rec.e),.int .i64 f,.list (td.map Word.e)]=some [.list ((if bH ⟨up,⟨rs,f⟩,td⟩ then aV ⟨up,⟨rs,f⟩,td⟩ else []).map Word.e)]:=by
 rw[q_cn]
 cases ho:bH ⟨up,⟨rs,f⟩,td⟩with
 | false=>simp (disch:=first|assumption|omega|(simp only[zL];omega)) only[F_cn,cL,ho,Int.reduceEq,reduceIte,zU,zT,aa];rfl
 | true =>
  have hd:=deskOk_iff.1 ho
  simp (disch:=first|assumption|omega|(simp only[zL];omega)) only[F_cn,cL,ho,tx hd,if_true,Int.reduceEq,reduceIte,zU,zT,aa]
end
end Dx
namespace Dx
open Go
section
variable {up b:Bool} {rs:List Rec} {f:Int} {td:List Word} {k h t m keep:Int} {ms:List Int} {id room:Int} {hs:List House} {ns:List Word}
theorem i_net(ho:WOk ⟨⟨up,⟨rs,f⟩,td⟩,hs,ns⟩){k a b:Int}{mc:List (List C)}(hk:k=4\/k=5\/k=6) :
  yc [.bool up,.list (rs.map Rec.e),.int .i64 f,.list (td.map Word.e),.list (hs.map House.e),.list (ns.map Word.e),.int .i64 k,.int .i64 a,.int .i64 b,.list mc]=some (jA ⟨⟨up,⟨rs,f⟩,td⟩,hs,ns⟩ ⟨k,a,b,ms⟩).e:=by
 rw[q_da]
 have hnl:ns.length<=14:=ho.nlen
 simp (disch:=first|assumption|omega|(simp only[zL];omega)) only[F_da,ly,wrap64,Int.reduceEq,reduceIte,zU,zT,aa]
 cases hi:in_ a 0 ((ns.length:Nat)-1)with
 | false =>
  have hn:(if 0<=a then ns[a.toNat]? else none)=none:=by
   rw[in_false]at hi
   split
   ·rw[List.getElem?_eq_none];omega
   ·rfl
  unfold jA
  simp only[hn,ay,aB,Bool.not_false,aF]
  rfl
 | true =>
  have hi:=in_iff.1 hi
  have hlt:a.toNat<ns.length:=by omega
  have hx:ns[a.toNat]?=some ns[a.toNat]:=by simp
  have hn:(if 0<=a then ns[a.toNat]? else none)=some ns[a.toNat]:=by rw[if_pos hi.1,hx]
  have hxo:=ho.ns _ (List.getElem_mem hlt)
  have hrow:∀ f:List C->Option Out,aI (.list (ns.map Word.e)) (.int .i64 a) [.int .i64,.int .i64,.int .i64,.int .i64] f=f (ns[a.toNat]).e:=fun f=>dx hi.1 hx rfl
  have hdel:rG [.list (ns.map Word.e),.int .i64 a,.int .i64 (a+1)]=some [.list ((ns.eraseIdx a.toNat).map Word.e)]:=by
   have hc:(decide (0<=a) && (decide (a<a+1) && decide (a+1<=((ns.map Word.e).length:Nat))))=true:=by
    simp only[Bool.and_eq_true,decide_eq_true_eq,List.length_map];omega
   unfold rG
   simp only[hc]
   have e1:(a+1).toNat=a.toNat+1:=by omega
   rw[e1,List.eraseIdx_eq_take_drop_succ,List.map_append,List.map_take,List.map_drop]
  have hd:decide (0<=a) && decide (a<((ns.length:Nat):Int))=true:=by simp;omega
  have hto:=ho.take a
  unfold jA
  simp only[hn]
  generalize hxx:ns[a.toNat]=x at hrow hxo
  have hsn:jU [.bool up,.list (rs.map Rec.e),.int .i64 f,.list (td.map Word.e),.list (hs.map House.e),.list (ns.map Word.e),.int .i64 x.k,.int .i64 x.h,.int .i64 x.t,.int .i64 x.m]=some (kx ⟨⟨up,⟨rs,f⟩,td⟩,hs,ns⟩ x).e:=z4 (by omega)
  have hto':WOk ⟨⟨up,⟨rs,f⟩,td⟩,hs,ns.eraseIdx a.toNat⟩:=hto
  have hh:=hto'.hear hxo
  have hhe:=AH (k:=x.k) (h:=x.h) (t:=x.t) (m:=x.m) hto' hxo
  have etk:fY ⟨⟨up,⟨rs,f⟩,td⟩,hs,ns⟩ a=⟨⟨up,⟨rs,f⟩,td⟩,hs,ns.eraseIdx a.toNat⟩:=rfl
  simp only[etk]
  have hw:IntKind.wrap .i64 (a+1)=a+1:=wrap64 (by omega) (by omega)
  rcases hk with e|e|e
  ·subst e
   simp (disch:=first|assumption|omega|(simp only[zL];omega)) only[uz,hrow,hd,Word.e,Int.reduceEq,reduceIte,zU,zT,aa]
   rw[hw,hdel]
   simp only[AB,aa,C.toList_list]
   rw[hhe]
   have ex:(⟨x.k,x.h,x.t,x.m⟩:Word)=x:=rfl
   rw[ex]
   generalize bo (⟨⟨up,⟨rs,f⟩,td⟩,hs,ns.eraseIdx a.toNat⟩:Wd) x=q at hh ⊢
   obtain⟨q1,q2⟩:=q
   cases q2 with
   | none =>
    simp only[oW,Word.e,Wd.e,List.cons_append,List.nil_append,Option.isSome_none]
    rw[ba rfl]
    rfl
   | some y =>
    have hq:WOk q1:=hh.1
    have hql:=hq.nlen
    have hsn2:jU [.bool q1.dk.up,.list (q1.dk.lg.rs.map Rec.e),.int .i64 q1.dk.lg.f,.list (q1.dk.td.map Word.e),.list (q1.hs.map House.e),.list (q1.ns.map Word.e),.int .i64 y.k,.int .i64 y.h,.int .i64 y.t,.int .i64 y.m]=some (kx q1 y).e:=z4 (ns:=q1.ns) (by omega)
    simp only[oW,Word.e,Wd.e,List.cons_append,List.nil_append,Option.isSome_some,Option.getD_some]
    rw[ba rfl]
    simp only[aa,C.toBool_bool,C.toList_list,C.toInt_int,aB]
    rw[hsn2]
    simp only[Wd.e]
    rw[ba rfl]
    rfl
  ·subst e
   simp (disch:=first|assumption|omega|(simp only[zL];omega)) only[uz,hrow,hd,Word.e,Int.reduceEq,reduceIte,zU,zT,aa]
   rw[hw,hdel]
   rfl
  ·subst e
   simp (disch:=first|assumption|omega|(simp only[zL];omega)) only[uz,hrow,hd,Word.e,Int.reduceEq,reduceIte,zU,zT,aa]
   rw[hsn]
   simp only[Wd.e]
   rw[ba rfl]
   rfl
theorem z5{l:List Word}{i:Int}{x:Word}(h0:0<=i)(h:l[i.toNat]?=some x){kk:IntKind}{f:List C->Option Out}:aI (.list (l.map Word.e)) (.int kk i) [.int .i64,.int .i64,.int .i64,.int .i64] f=f x.e:=dx h0 h rfl
theorem sd{d:Desk}{r:Rec}(h:eS d r=false):bh d r=d:=by
 unfold eS at h
 unfold bh
 split
 ·rename_i hc
  simp only[Bool.and_eq_true]at hc
  simp only[hc.1,hc.2,Bool.true_and]at h
  have:d.lg.rs.length>=40:=by simpa [nO] using h
  simp[dJ,this]
 ·rfl
theorem i_do(ho:WOk ⟨⟨up,⟨rs,f⟩,td⟩,hs,ns⟩){k a b:Int}(hm:ms.length<=1099511627776) :
  nM [.bool up,.list (rs.map Rec.e),.int .i64 f,.list (td.map Word.e),.list (hs.map House.e),.list (ns.map Word.e),.int .i64 k,.int .i64 a,.int .i64 b,.list (ms.map eI)]=some (wdo ⟨⟨up,⟨rs,f⟩,td⟩,hs,ns⟩ ⟨k,a,b,ms⟩).e:=by
 rw[q_ds]
 have hd:DkOk ⟨up,⟨rs,f⟩,td⟩:=ho.dk
 have hdS:DkS ⟨up,⟨rs,f⟩,td⟩:=hd.S
 have hdo:=deskOk_iff.2 hd
 have hnl:ns.length<=14:=ho.nlen
 unfold F_ds
 by_cases h1:k=1
 ·subst h1
  simp only[BEq.rfl,aB,vu hdS hm,hdo,Bool.true_and]
  have ew:wdo ⟨⟨up,⟨rs,f⟩,td⟩,hs,ns⟩ ⟨1,a,b,ms⟩=⟨fw ⟨up,⟨rs,f⟩,td⟩ ms,hs,ns⟩:=rfl
  rw[ew]
  unfold fw
  cases hr:aL (eg ⟨up,⟨rs,f⟩,td⟩ ms)with
  | false=>rfl
  | true =>
   simp only[if_true]
   cases hb:eS ⟨up,⟨rs,f⟩,td⟩ (eg ⟨up,⟨rs,f⟩,td⟩ ms)with
   | false=>rw[sd hb];rfl
   | true=>rfl
 by_cases h2:k=2
 ·subst h2
  simp only[Int.reduceBEq,ay,aB,yH hdS,hdo,Bool.true_and]
  have ew:wdo ⟨⟨up,⟨rs,f⟩,td⟩,hs,ns⟩ ⟨2,a,b,ms⟩=⟨hU ⟨up,⟨rs,f⟩,td⟩ a,hs,ns⟩:=rfl
  rw[ew]
  unfold hU
  cases hr:in_ a 1 6 with
  | false=>rfl
  | true =>
   simp only[if_true]
   cases hb:eS ⟨up,⟨rs,f⟩,td⟩ ⟨6,a,[]⟩with
   | false=>rw[sd hb];rfl
   | true=>rfl
 by_cases h3:k=3
 ·subst h3
  have hwl:(aV ⟨up,⟨rs,f⟩,td⟩).length<=18:=ib hd
  simp (disch:=first|assumption|omega|(simp only[zL];omega)) only[Int.reduceBEq,tx hd,ly,wrap64,Int.reduceEq,reduceIte,zU,zT,aa]
  have ew:wdo ⟨⟨up,⟨rs,f⟩,td⟩,hs,ns⟩ ⟨3,a,b,ms⟩=ia ⟨⟨up,⟨rs,f⟩,td⟩,hs,ns⟩ ⟨3,a,b,ms⟩:=rfl
  rw[ew]
  unfold ia
  simp only[Int.reduceEq,if_false,if_true]
  generalize aV ⟨up,⟨rs,f⟩,td⟩=l at hwl
  cases hi:in_ a 0 ((l.length:Nat)-1)with
  | false =>
   have hn:(if 0<=a then l[a.toNat]? else none)=none:=by
    rw[in_false]at hi
    split
    ·rw[List.getElem?_eq_none];omega
    ·rfl
   rw[hn];rfl
  | true =>
   have hi:=in_iff.1 hi
   have hlt:a.toNat<l.length:=by omega
   have hx:l[a.toNat]?=some l[a.toNat]:=by simp
   have hn:(if 0<=a then l[a.toNat]? else none)=some l[a.toNat]:=by rw[if_pos hi.1,hx]
   rw[hn]
   simp only[aB]
   rw[z5 hi.1 hx]
   generalize l[a.toNat]=x
   simp only[Word.e,aa,C.toInt_int]
   have hsn:jU [.bool up,.list (rs.map Rec.e),.int .i64 f,.list (td.map Word.e),.list (hs.map House.e),.list (ns.map Word.e),.int .i64 x.k,.int .i64 x.h,.int .i64 x.t,.int .i64 x.m]=some (kx ⟨⟨up,⟨rs,f⟩,td⟩,hs,ns⟩ x).e:=z4 (by omega)
   rw[hsn]
   simp only[Wd.e]
   rw[ba rfl]
   rfl
 have e1:(k==1)=false:=by simpa using h1
 have e2:(k==2)=false:=by simpa using h2
 have e3:(k==3)=false:=by simpa using h3
 have ew:wdo ⟨⟨up,⟨rs,f⟩,td⟩,hs,ns⟩ ⟨k,a,b,ms⟩=if k=4\/k=5\/k=6 then jA ⟨⟨up,⟨rs,f⟩,td⟩,hs,ns⟩ ⟨k,a,b,ms⟩ else if k=7\/k=8\/k=9 then cw ⟨⟨up,⟨rs,f⟩,td⟩,hs,ns⟩ ⟨k,a,b,ms⟩ else⟨⟨up,⟨rs,f⟩,td⟩,hs,ns⟩:=by
  unfold wdo;simp only[h1,h2,h3,false_or,if_false]
 rw[ew]
 simp only[e1,e2,e3,ay]
 by_cases h4:k=4\/k=5\/k=6
 ·rw[if_pos h4]
  have hn:=i_net (ms:=ms) ho (k:=k) (a:=a) (b:=b) (mc:=ms.map eI) h4
  have:bw (ae (k==4) (some (.jump [.bool true])) (ae (k==5) (some (.jump [.bool true])) (some (.jump [.bool (k==6)])))) (fun ps=>qa up (rs.map Rec.e) f (td.map Word.e) (hs.map House.e) (ns.map Word.e) k a b (ms.map eI) (aa ps 0).toBool) =
    qa up (rs.map Rec.e) f (td.map Word.e) (hs.map House.e) (ns.map Word.e) k a b (ms.map eI) true:=by
   rcases h4 with e|e|e<;>subst e<;>rfl
  rw[this]
  unfold qa
  simp only[aB]
  rw[hn]
  simp only[Wd.e]
  rw[ba rfl]
  rfl
 ·rw[if_neg h4]
  simp only[not_or]at h4
  have f4:(k==4)=false:=by simpa using h4.1
  have f5:(k==5)=false:=by simpa using h4.2.1
  have f6:(k==6)=false:=by simpa using h4.2.2
  simp only[f4,f5,f6,ay,bc,aa,C.toBool_bool]
  unfold qa
  simp only[ay]
  by_cases h7:k=7
  ·subst h7
   have hn:cw ⟨⟨up,⟨rs,f⟩,td⟩,hs,ns⟩ ⟨7,a,b,ms⟩=cH ⟨⟨up,⟨rs,f⟩,td⟩,hs,ns⟩ a:=by
    unfold cw cH
    cases hi:in_ a 0 3 with
    | true=>simp
    | false =>
     rw[in_false]at hi
     have h0:a≠0:=by omega
     have h1:in_ a 1 3=false:=by rw[in_false];omega
     simp[h0,h1]
   simp only[BEq.rfl,aB,mh ho,Int.reduceEq,true_or,if_true,hn]
   simp only[Wd.e]
   rw[ba rfl]
   rfl
  by_cases h8:k=8
  ·subst h8
   have hn:cw ⟨⟨up,⟨rs,f⟩,td⟩,hs,ns⟩ ⟨8,a,b,ms⟩=cw ⟨⟨up,⟨rs,f⟩,td⟩,hs,ns⟩ ⟨8,a,b,[]⟩:=rfl
   simp only[Int.reduceBEq,ay,aB,yK ho,Int.reduceEq,true_or,or_true,if_true,hn]
   simp only[Wd.e]
   rw[ba rfl]
   rfl
  by_cases h9:k=9
  ·subst h9
   have hn:cw ⟨⟨up,⟨rs,f⟩,td⟩,hs,ns⟩ ⟨9,a,b,ms⟩=cw ⟨⟨up,⟨rs,f⟩,td⟩,hs,ns⟩ ⟨9,a,0,[]⟩:=rfl
   simp only[Int.reduceBEq,ay,aB,oF ho,Int.reduceEq,or_true,if_true,hn]
   simp only[Wd.e]
   rw[ba rfl]
   rfl
  have g7:(k==7)=false:=by simpa using h7
  have g8:(k==8)=false:=by simpa using h8
  have g9:(k==9)=false:=by simpa using h9
  simp only[g7,g8,g9,ay,h7,h8,h9,or_false,if_false,aF]
  rfl
theorem IX{w:Wd}(ho:WOk w){e:Ev}(hm:e.m.length<=1099511627776) :
  nM [.bool w.dk.up,.list (w.dk.lg.rs.map Rec.e),.int .i64 w.dk.lg.f,.list (w.dk.td.map Word.e),.list (w.hs.map House.e),.list (w.ns.map Word.e),.int .i64 e.k,.int .i64 e.a,.int .i64 e.b,.list (e.m.map eI)]=some (wdo w e).e :=
 i_do (up:=w.dk.up) (rs:=w.dk.lg.rs) (f:=w.dk.lg.f) (td:=w.dk.td) (hs:=w.hs) (ns:=w.ns) ho hm
theorem mj{rooms:List Int}{es:List Ev}(hr:rooms.length<=1099511627775)(hl:es.length<=1099511627776)(hs:∀ e∈es,EvS e) :
  g0 [.list (rooms.map eI),.list (es.map Ev.e)]=some (((bM rooms es).getD wd0).e++[.bool (bM rooms es).isSome]):=by
 rw[q_cy]
 have hwn:=im (rooms:=rooms) hr
 simp only[Wd.e,List.cons_append,List.nil_append]at hwn
 simp (disch:=first|assumption|omega|(simp only[zL];omega)) only[F_cy,hwn,Int.reduceEq,reduceIte,zU,zT,aa]
 unfold bM
 cases hw:aT rooms with
 | none=>simp[Wd.e,wd0]
 | some w0 =>
  have ok0:=bN hw
  simp only[Option.isSome_some,Bool.not_true,aB,ay,Option.getD_some,Option.map_some]
  by_cases h80:((es.length:Nat):Int)>80
  ·have h80':es.length>80:=by omega
   simp[h80,h80',Wd.e,wd0]
  ·have h80':¬ es.length>80:=by omega
   simp only[h80,h80',if_false]
   have key:=ar (l:=es) (F:=fun ps=>uA (es.map Ev.e) ((es.length:Nat):Int) ((aa ps 0).toInt) ((aa ps 1).toBool) ((aa ps 2).toList) ((aa ps 3).toInt) ((aa ps 4).toList) ((aa ps 5).toList) ((aa ps 6).toList))
    (enc:=fun i (w:Wd)=>.int .i64 i::w.e)
    (res:=fun xs _ w=>.ret ((cK w xs).e++[.bool true])) (fun _ w=>WOk w) (s:=w0) ok0 ?_ ?_
   ·have key:aJ _ (C.int .i64 0::w0.e)=_:=key
    simp only[Wd.e]at key
    rw[key];rfl
   ·intro i x xs w hx ow
    have hi:=(List.getElem?_eq_some_iff.1 hx).1
    have hi':(i:Int)<(es.length:Nat):=by omega
    have hx3:=hs x (List.mem_of_getElem? hx)
    have hxm:x.m.length<=1099511627776:=by unfold EvS at hx3;omega
    simp only[Wd.e,aa,C.toInt_int,C.toBool_bool,C.toList_list]
    unfold uA
    simp only[aP,hi',if_true,Fd hx,Ev.e,aa,C.toInt_int,C.toList_list,IX ow hxm]
    simp only[Wd.e,bO,aa,C.toInt_int,C.toList_list,C.toBool_bool]
    rw[al (by omega)]
    exact .inl ⟨wdo w x,rfl,ow.do_ x,rfl⟩
   ·intro w ow
    have h:¬ ((es.length:Int)<(es.length:Nat)):=by omega
    simp only[Wd.e,aa,C.toInt_int,C.toBool_bool,C.toList_list]
    unfold uA
    simp only[aP,h,if_false]
    rfl
end
end Dx
