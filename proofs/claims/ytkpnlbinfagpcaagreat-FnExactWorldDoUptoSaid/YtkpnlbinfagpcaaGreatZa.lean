import Derived.Test.YtkpnlbinfagpcaaGreatTa
import Derived.Test.YtkpnlbinfagpcaaGreatYq1
import Derived.Test.YtkpnlbinfagpcaaGreatYq2
import Derived.Test.YtkpnlbinfagpcaaGreatYq3
set_option linter.all false
namespace Dx
open Go
theorem wrap64{x:Int}(h1:-9223372036854775808<=x)(h2:x<=9223372036854775807):IntKind.wrap .i64 x=x:=by
 have e:IntKind.wrap .i64 x=if x % 18446744073709551616>=9223372036854775808 then x % 18446744073709551616-18446744073709551616 else x % 18446744073709551616:=by
  simp[IntKind.wrap,IntKind.bits,IntKind.signed]
 rw[e]
 split<;>omega
theorem Bm{i:Nat}(h:i<=aQ):IntKind.wrap .i64 ((i:Int)+1)=((i+1:Nat):Int):=by
 rw[wrap64]<;>(simp[aQ]at h;omega)
theorem bB{cs:List C}{ks:List CK}{f:List C->Option Out}(hk:ai ks cs=true):ac (some cs) ks f=f cs:=by
 simp only[ac,af,hk,gr hk]
theorem Dr(x0:List (List C))(f:List C->Option Out):ac (some [.list x0]) [.list] f=f [.list x0]:=rfl
theorem ru(x0:Bool)(f:List C->Option Out):ac (some [.bool x0]) [.bool] f=f [.bool x0]:=rfl
theorem cd_i(x0:Int)(f:List C->Option Out):ac (some [.int .i64 x0]) [(.int .i64)] f=f [.int .i64 x0]:=rfl
theorem Jq(x0:List (List C))(x1:Bool)(f:List C->Option Out):ac (some [.list x0,.bool x1]) [.list,.bool] f=f [.list x0,.bool x1]:=rfl
theorem cd_bb(x0:Bool)(x1:Bool)(f:List C->Option Out):ac (some [.bool x0,.bool x1]) [.bool,.bool] f=f [.bool x0,.bool x1]:=rfl
theorem Jr(x0:List (List C))(x1:Int)(f:List C->Option Out):ac (some [.list x0,.int .i64 x1]) [.list,(.int .i64)] f=f [.list x0,.int .i64 x1]:=rfl
theorem cd_il(x0:Int)(x1:List (List C))(f:List C->Option Out):ac (some [.int .i64 x0,.list x1]) [(.int .i64),.list] f=f [.int .i64 x0,.list x1]:=rfl
theorem J3(x0:List (List C))(x1:Int)(x2:Bool)(f:List C->Option Out):ac (some [.list x0,.int .i64 x1,.bool x2]) [.list,(.int .i64),.bool] f=f [.list x0,.int .i64 x1,.bool x2]:=rfl
theorem J4(x0:List (List C))(x1:List (List C))(x2:Int)(f:List C->Option Out):ac (some [.list x0,.list x1,.int .i64 x2]) [.list,.list,(.int .i64)] f=f [.list x0,.list x1,.int .i64 x2]:=rfl
theorem J5(x0:Int)(x1:List (List C))(x2:Bool)(f:List C->Option Out):ac (some [.int .i64 x0,.list x1,.bool x2]) [(.int .i64),.list,.bool] f=f [.int .i64 x0,.list x1,.bool x2]:=rfl
theorem J6(x0:Int)(x1:List (List C))(x2:Int)(f:List C->Option Out):ac (some [.int .i64 x0,.list x1,.int .i64 x2]) [(.int .i64),.list,(.int .i64)] f=f [.int .i64 x0,.list x1,.int .i64 x2]:=rfl
theorem J7(x0:Int)(x1:Int)(x2:List (List C))(f:List C->Option Out):ac (some [.int .i64 x0,.int .i64 x1,.list x2]) [(.int .i64),(.int .i64),.list] f=f [.int .i64 x0,.int .i64 x1,.list x2]:=rfl
theorem rx(x0:Bool)(x1:List (List C))(x2:Int)(x3:List (List C))(f:List C->Option Out):ac (some [.bool x0,.list x1,.int .i64 x2,.list x3]) [.bool,.list,(.int .i64),.list] f=f [.bool x0,.list x1,.int .i64 x2,.list x3]:=rfl
theorem gV(x0:Bool)(x1:List (List C))(x2:Int)(x3:List (List C))(x4:Bool)(f:List C->Option Out):ac (some [.bool x0,.list x1,.int .i64 x2,.list x3,.bool x4]) [.bool,.list,(.int .i64),.list,.bool] f=f [.bool x0,.list x1,.int .i64 x2,.list x3,.bool x4]:=rfl
theorem jF(x0:Bool)(x1:Bool)(x2:List (List C))(x3:Int)(x4:List (List C))(f:List C->Option Out):ac (some [.bool x0,.bool x1,.list x2,.int .i64 x3,.list x4]) [.bool,.bool,.list,(.int .i64),.list] f=f [.bool x0,.bool x1,.list x2,.int .i64 x3,.list x4]:=rfl
theorem bE(x0:Bool)(x1:List (List C))(x2:Int)(x3:List (List C))(x4:List (List C))(x5:List (List C))(f:List C->Option Out):ac (some [.bool x0,.list x1,.int .i64 x2,.list x3,.list x4,.list x5]) [.bool,.list,(.int .i64),.list,.list,.list] f=f [.bool x0,.list x1,.int .i64 x2,.list x3,.list x4,.list x5]:=rfl
theorem Ct(x0:Int)(x1:Bool)(x2:Int)(x3:List (List C))(x4:Int)(f:List C->Option Out):ac (some [.int .i64 x0,.bool x1,.int .i64 x2,.list x3,.int .i64 x4]) [(.int .i64),.bool,(.int .i64),.list,(.int .i64)] f=f [.int .i64 x0,.bool x1,.int .i64 x2,.list x3,.int .i64 x4]:=rfl
theorem xE(x0:Bool)(x1:List (List C))(x2:Int)(x3:List (List C))(x4:List (List C))(x5:List (List C))(x6:Bool)(f:List C->Option Out):ac (some [.bool x0,.list x1,.int .i64 x2,.list x3,.list x4,.list x5,.bool x6]) [.bool,.list,(.int .i64),.list,.list,.list,.bool] f=f [.bool x0,.list x1,.int .i64 x2,.list x3,.list x4,.list x5,.bool x6]:=rfl
theorem Cu(x0:Int)(x1:Int)(x2:Int)(x3:Int)(x4:Bool)(f:List C->Option Out):ac (some [.int .i64 x0,.int .i64 x1,.int .i64 x2,.int .i64 x3,.bool x4]) [(.int .i64),(.int .i64),(.int .i64),(.int .i64),.bool] f=f [.int .i64 x0,.int .i64 x1,.int .i64 x2,.int .i64 x3,.bool x4]:=rfl
theorem kv(x0:Int)(x1:Bool)(x2:Int)(x3:List (List C))(x4:Int)(x5:Bool)(f:List C->Option Out):ac (some [.int .i64 x0,.bool x1,.int .i64 x2,.list x3,.int .i64 x4,.bool x5]) [(.int .i64),.bool,(.int .i64),.list,(.int .i64),.bool] f=f [.int .i64 x0,.bool x1,.int .i64 x2,.list x3,.int .i64 x4,.bool x5]:=rfl
theorem Bn(x0:Int)(x1:Int)(x2:Int)(x3:List (List C))(x4:List (List C))(x5:Int)(f:List C->Option Out):ac (some [.int .i64 x0,.int .i64 x1,.int .i64 x2,.list x3,.list x4,.int .i64 x5]) [(.int .i64),(.int .i64),(.int .i64),.list,.list,(.int .i64)] f=f [.int .i64 x0,.int .i64 x1,.int .i64 x2,.list x3,.list x4,.int .i64 x5]:=rfl
theorem oJ(x0:List (List C))(x1:List (List C))(x2:Bool)(x3:List (List C))(x4:Int)(x5:List (List C))(x6:List (List C))(x7:List (List C))(x8:List (List C))(x9:Int)(f:List C->Option Out):ac (some [.list x0,.list x1,.bool x2,.list x3,.int .i64 x4,.list x5,.list x6,.list x7,.list x8,.int .i64 x9]) [.list,.list,.bool,.list,(.int .i64),.list,.list,.list,.list,(.int .i64)] f=f [.list x0,.list x1,.bool x2,.list x3,.int .i64 x4,.list x5,.list x6,.list x7,.list x8,.int .i64 x9]:=rfl
theorem l5(x0:Bool)(x1:List (List C))(x2:Int)(x3:List (List C))(x4:List (List C))(x5:List (List C))(x6:Int)(x7:Int)(x8:Int)(x9:Int)(x10:Bool)(f:List C->Option Out):ac (some [.bool x0,.list x1,.int .i64 x2,.list x3,.list x4,.list x5,.int .i64 x6,.int .i64 x7,.int .i64 x8,.int .i64 x9,.bool x10]) [.bool,.list,(.int .i64),.list,.list,.list,(.int .i64),(.int .i64),(.int .i64),(.int .i64),.bool] f=f [.bool x0,.list x1,.int .i64 x2,.list x3,.list x4,.list x5,.int .i64 x6,.int .i64 x7,.int .i64 x8,.int .i64 x9,.bool x10]:=rfl
theorem oK(x0:Int)(x1:Bool)(x2:Int)(x3:List (List C))(x4:Int)(x5:Int)(x6:Int)(x7:Int)(x8:Int)(x9:Bool)(f:List C->Option Out):ac (some [.int .i64 x0,.bool x1,.int .i64 x2,.list x3,.int .i64 x4,.int .i64 x5,.int .i64 x6,.int .i64 x7,.int .i64 x8,.bool x9]) [(.int .i64),.bool,(.int .i64),.list,(.int .i64),(.int .i64),(.int .i64),(.int .i64),(.int .i64),.bool] f=f [.int .i64 x0,.bool x1,.int .i64 x2,.list x3,.int .i64 x4,.int .i64 x5,.int .i64 x6,.int .i64 x7,.int .i64 x8,.bool x9]:=rfl
theorem mA{es:List (List C)}{i:Int}{r:List C}(h0:0<=i)(hx:es[i.toNat]?=some r){kk:IntKind}{ks:List CK}{f:List C->Option Out}(hk:ai ks r=true):aH (.list es) (.int kk i) ks f=f r:=by
 obtain⟨n,rfl⟩:=Int.eq_ofNat_of_zero_le h0
 unfold aH
 simp only[C.toInt,C.toList]
 show (match es[n]? with|some r=>af (ai ks r) (f (kf r 0 ks))|none=>none)=f r
 rw[show es[n]?=some r from hx]
 simp only[af,hk,gr hk]
theorem eO{α:Type}{e:α->List C}{l:List α}{i:Nat}{x:α}(hx:l[i]?=some x){kk:IntKind}{ks:List CK}{f:List C->Option Out}(hk:ai ks (e x)=true):aH (.list (l.map e)) (.int kk i) ks f=f (e x) :=
 mA (by omega) (by simp[hx]) hk
theorem eg{α:Type}{e:α->List C}{l:List α}{i:Int}{x:α}(h0:0<=i)(hx:l[i.toNat]?=some x){kk:IntKind}{ks:List CK}{f:List C->Option Out}(hk:ai ks (e x)=true):aH (.list (l.map e)) (.int kk i) ks f=f (e x) :=
 mA h0 (by simp[hx]) hk
theorem qq{α σ:Type}{F:List C->Option Out}{l:List α}{enc:Nat->σ->List C}{res:List α->Nat->σ->Out}{P:Nat->σ->Prop}
  (hs:∀(i:Nat) (x:α) (xs:List α) (s:σ),l[i]?=some x->P i s->(∃ s',F (enc i s)=some (.jump (enc (i+1) s'))/\P (i+1) s'/\res (x::xs) i s=res xs (i+1) s')\/(∃ o,F (enc i s)=some (.up o)/\res (x::xs) i s=o))
  (hf:∀ s,P l.length s->F (enc l.length s)=some (.up (res [] l.length s))):∀(n i:Nat) (s:σ),n+i=l.length->P i s->am F (enc i s)=some (res (l.drop i) i s)
 | 0,i,s,hn,h=>by
  have:i=l.length:=by omega
  subst this
  rw[jS,hf s h,List.drop_of_length_le (Nat.le_refl _)]
  rfl
 | n+1,i,s,hn,h=>by
  have hi:i<l.length:=by omega
  have hx:l[i]?=some l[i]:=by simp[hi]
  rw[jS,List.drop_eq_getElem_cons hi]
  rcases hs i _ (l.drop (i+1)) s hx h with ⟨s',h1,h2,h3⟩|⟨o,h1,h2⟩
  ·rw[h1,h3]
   simp only[bH]
   exact qq hs hf n (i+1) s' (by omega) h2
  ·rw[h1,h2]
   rfl
theorem ak{α σ:Type}{F:List C->Option Out}{l:List α}{enc:Nat->σ->List C}{res:List α->Nat->σ->Out}(P:Nat->σ->Prop){s:σ}(h:P 0 s)
  (hs:∀(i:Nat) (x:α) (xs:List α) (s:σ),l[i]?=some x->P i s->(∃ s',F (enc i s)=some (.jump (enc (i+1) s'))/\P (i+1) s'/\res (x::xs) i s=res xs (i+1) s')\/(∃ o,F (enc i s)=some (.up o)/\res (x::xs) i s=o))
  (hf:∀ s,P l.length s->F (enc l.length s)=some (.up (res [] l.length s))):am F (enc 0 s)=some (res l 0 s):=by
 have:=qq hs hf l.length 0 s (by omega) h
 simpa using this
def eI(n:Int):List C:=[.int .i64 n]
def eB(n:Int):List C:=[.int .u8 n]
def Rec.e(r:Rec):List C:=[.int .i64 r.k,.int .i64 r.t,.list (r.m.map eI)]
def Log.e(l:Log):List C:=[.list (l.rs.map Rec.e),.int .i64 l.f]
def Hold.e(h:Hold):List C:=[.int .i64 h.m,.int .i64 h.s]
def Stock.e(s:Stock):List C:=[.int .i64 s.room,.list (s.hs.map Hold.e)]
def Word.e(w:Word):List C:=[.int .i64 w.k,.int .i64 w.h,.int .i64 w.t,.int .i64 w.m]
def House.e(h:House):List C:=[.int .i64 h.id,.bool h.up,.int .i64 h.room,.list (h.lg.rs.map Rec.e),.int .i64 h.lg.f]
def Trip.e(t:Trip):List C:=[.list (t.m.map eI),.int .i64 t.s]
def Desk.e(d:Desk):List C:=[.bool d.up,.list (d.lg.rs.map Rec.e),.int .i64 d.lg.f,.list (d.td.map Word.e)]
def Wd.e(w:Wd):List C:=[.bool w.dk.up,.list (w.dk.lg.rs.map Rec.e),.int .i64 w.dk.lg.f,.list (w.dk.td.map Word.e),.list (w.hs.map House.e),.list (w.ns.map Word.e)]
def Ev.e(e:Ev):List C:=[.int .i64 e.k,.int .i64 e.a,.int .i64 e.b,.list (e.m.map eI)]
section
variable {kk:IntKind} {i:Nat} {f:List C->Option Out}
theorem gF{l:List Int}{x:Int}(h:l[i]?=some x):aH (.list (l.map eI)) (.int kk i) [.int .i64] f=f (eI x):=eO h rfl
theorem fE{l:List Rec}{x:Rec}(h:l[i]?=some x):aH (.list (l.map Rec.e)) (.int kk i) [.int .i64,.int .i64,.list] f=f x.e:=eO h rfl
theorem E7{l:List Hold}{x:Hold}(h:l[i]?=some x):aH (.list (l.map Hold.e)) (.int kk i) [.int .i64,.int .i64] f=f x.e:=eO h rfl
theorem gG{l:List Word}{x:Word}(h:l[i]?=some x):aH (.list (l.map Word.e)) (.int kk i) [.int .i64,.int .i64,.int .i64,.int .i64] f=f x.e:=eO h rfl
theorem xF{l:List Trip}{x:Trip}(h:l[i]?=some x):aH (.list (l.map Trip.e)) (.int kk i) [.list,.int .i64] f=f x.e:=eO h rfl
theorem dU{l:List House}{x:House}(h:l[i]?=some x):aH (.list (l.map House.e)) (.int kk i) [.int .i64,.bool,.int .i64,.list,.int .i64] f=f x.e:=eO h rfl
end
end Dx
namespace Dx
open Go
@[simp] theorem aI (t e:Option Out):ae true t e=t:=rfl
@[simp] theorem aF (t e:Option Out):ae false t e=e:=rfl
theorem Cv(b:Bool)(t e:Option Out):ae (!b) t e=ae b e t:=by cases b<;>rfl
theorem aK(p:Prop)[Decidable p](t e:Option Out):ae (decide p) t e=if p then t else e:=by by_cases h:p<;>simp[h,ae]
theorem Ds(b:Bool)(t e:Option Out):ae b t e=if b=true then t else e:=by cases b<;>rfl
theorem bo(a b:Int)(t e:Option Out):ae (a==b) t e=if a=b then t else e:=by rw[Ds];simp
theorem zR(a b:Int)(t e:Option Out):ae (a != b) t e=if a=b then e else t:=by rw[Ds];by_cases h:a=b<;>simp[h]
theorem bQ{b:Bool}{k:Option Out}(h:b=true):af b k=k:=by subst h;rfl
@[simp] theorem aG (cs:List C):ah (some (.ret cs))=some cs:=rfl
theorem Cw(o:Out):ah (some (.up o))=none:=rfl
@[simp] theorem jX (o:Out):upD (some o)=some (.up o):=rfl
theorem kw(p:Prop)[Decidable p](a b:Option Out):ah (if p then a else b)=if p then ah a else ah b:=by split<;>rfl
theorem ap{i:Nat}(h:i<=1099511627776):IntKind.wrap .i64 ((i:Int)+1)=((i+1:Nat):Int):=Bm h
theorem eH(t:Option Out):cS t t=t:=by unfold cS;rw[if_pos rfl]
theorem uy(x w:Word):(([x.k,x.h,x.t,x.m]:List Int)==[w.k,w.h,w.t,w.m])=decide (x=w):=by
 obtain⟨a,b,c,d⟩:=x;obtain⟨a',b',c',d'⟩:=w
 rw[Bool.eq_iff_iff];simp
theorem Dt(s:Stock):(⟨s.room,s.hs⟩:Stock)=s:=rfl
theorem eta_R(s:Rec):(⟨s.k,s.t,s.m⟩:Rec)=s:=rfl
theorem te(s:Word):(⟨s.k,s.h,s.t,s.m⟩:Word)=s:=rfl
theorem jG(s:Log):(⟨s.rs,s.f⟩:Log)=s:=rfl
theorem jH(s:Desk):(⟨s.up,s.lg,s.td⟩:Desk)=s:=rfl
theorem eta_H(s:House):(⟨s.id,s.up,s.room,s.lg⟩:House)=s:=rfl
theorem eta_T(s:Trip):(⟨s.m,s.s⟩:Trip)=s:=rfl
theorem iu(s:Wd):(⟨s.dk,s.hs,s.ns⟩:Wd)=s:=rfl
theorem J8(s:Ev):(⟨s.k,s.a,s.b,s.m⟩:Ev)=s:=rfl
@[simp] theorem dO (k:Option Out):af true k=k:=rfl
theorem Bo{p:Prop}[Decidable p](h:p)(k:Option Out):af (decide p) k=k:=by simp[h,af]
theorem cY{p q:Prop}[Decidable p][Decidable q](h1:p)(h2:q)(k:Option Out):af (decide p && decide q) k=k:=by simp[h1,h2,af]
@[simp] theorem aZ (ps:List C) (k:List C->Option Out):bH (some (.jump ps)) k=k ps:=rfl
theorem fG(p:Prop)[Decidable p](a b:Option Out)(k:List C->Option Out):bH (if p then a else b) k=if p then bH a k else bH b k:=by split<;>rfl
theorem FL{b:Bool}{k:Option Out}(h:b=true):ah (af b k)=ah k:=by subst h;rfl
theorem le_B{i n:Int}(h1:0<=i)(h2:i<=n):(decide ((0:Int)<=i) && decide (i<=n))=true:=by simp[h1,h2]
theorem lt_B{i n:Int}(h1:0<=i)(h2:i<n):(decide ((0:Int)<=i) && decide (i<n))=true:=by simp[h1,h2]
theorem ce:aQ=1099511627776:=rfl
theorem ry(m:List Int):(m.map eI).all (ai [.int .i64])=true:=by simp[List.all_map,eI,ai,fa,dW,Function.comp_def]
theorem mB(m:List Word):(m.map Word.e).all (ai [.int .i64,.int .i64,.int .i64,.int .i64])=true:=by simp[List.all_map,Word.e,ai,fa,dW,Function.comp_def]
theorem FM(m:List Rec):(m.map Rec.e).all (ai [.int .i64,.int .i64,.list])=true:=by simp[List.all_map,Rec.e,ai,fa,dW,Function.comp_def]
theorem bR{α:Type}{e:α->List C}{l:List α}{off j:Nat}{cs:List C}{x y:α}(hx:l[j]?=some x)(hy:rI (e x) off cs=e y):setRow off (l.map e) j cs=(l.set j y).map e:=by
 unfold setRow
 simp only[List.getElem?_map,hx,Option.map_some,hy,List.map_set]
theorem bC(n lo hi:Int):bY [.int .i64 n,.int .i64 lo,.int .i64 hi]=some [.bool (in_ n lo hi)]:=by
 rw[q_hn]
 simp only[F_hn,ge_iff_le,in_]
 cases decide (lo<=n)<;>rfl
theorem rz{l:List Trip}{t:Int}(h1:1<=t)(h2:t<=l.length):l[(t-1).toNat]?=some (tAt l t):=by rw[tb (by omega)];exact List.getElem?_eq_getElem (by omega)
theorem rA{l:List Hold}{t:Int}(h1:1<=t)(h2:t<=l.length):l[(t-1).toNat]?=some (hAt l t):=by rw[ta (by omega)];exact List.getElem?_eq_getElem (by omega)
theorem Du{l:List Trip}{t:Int}(h1:1<=t)(h2:t<=l.length){kk:IntKind}{f:List C->Option Out}:aH (.list (l.map Trip.e)) (.int kk (t-1)) [.list,.int .i64] f=f (tAt l t).e :=
 eg (by omega) (rz h1 h2) rfl
theorem FN{l:List Hold}{t:Int}(h1:1<=t)(h2:t<=l.length){kk:IntKind}{f:List C->Option Out}:aH (.list (l.map Hold.e)) (.int kk (t-1)) [.int .i64,.int .i64] f=f (hAt l t).e :=
 eg (by omega) (rA h1 h2) rfl
def zL:=And.intro @List.length_append.{0}<|And.intro @List.length_map.{0,0}<|And.intro @List.length_cons.{0}<|@List.length_nil.{0}
def zS:=And.intro @Bool.and_true<|And.intro @List.length_map.{0,0}<|And.intro @List.length_nil.{0}<|And.intro @List.length_cons.{0}<|@List.nil_append.{0}
def zT:=And.intro zS<|And.intro @Cv<|And.intro @aI<|And.intro @aF<|And.intro @Dt<|And.intro @eta_R<|And.intro @te<|And.intro @jG<|And.intro @jH<|And.intro @eta_H<|And.intro @eta_T<|And.intro @iu<|And.intro @J8<|And.intro @ce<|And.intro @dO<|And.intro @Bo<|And.intro @cY<|And.intro @ry<|And.intro @mB<|And.intro @FM<|And.intro @aG<|And.intro @Cw<|And.intro @jX<|And.intro @FL<|And.intro @aZ<|And.intro @Dr<|And.intro @ru<|And.intro @cd_i<|And.intro @Jq<|And.intro @cd_bb<|And.intro @Jr<|And.intro @cd_il<|And.intro @J3<|And.intro @J4<|And.intro @J5<|And.intro @J6<|And.intro @J7<|And.intro @rx<|And.intro @gV<|And.intro @jF<|And.intro @bE<|And.intro @Ct<|And.intro @xE<|And.intro @Cu<|And.intro @kv<|And.intro @Bn<|And.intro @oJ<|And.intro @l5<|And.intro @oK<|And.intro @C.toInt_int<|And.intro @C.toBool_bool<|And.intro @C.toList_list<|@C.toStr_str
def zU:=And.intro @bo<|And.intro @zR<|And.intro @aK<|And.intro @kw<|@fG
theorem uz{l:List Trip}(hl:l.length<=1099511627776){k t:Int}{m:List Int}(hr:aD ⟨k,t,m⟩=true) :
  pp [.list (l.map Trip.e),.int .i64 k,.int .i64 t,.list (m.map eI)]=some [.bool (ch l ⟨k,t,m⟩)]:=by
 have ht:=cw hr
 simp only at ht
 rw[q_gg]
 simp (disch:=first|assumption|omega|(simp only[zL];omega)) only[F_gg,ch,wrap64,Int.reduceEq,reduceIte,zU,zT,aa]
 split
 ·rfl
 ·split
  ·rfl
  ·simp (disch:=first|assumption|omega|(simp only[zL];omega)) only[Du,Trip.e,Int.reduceEq,reduceIte,zU,zT,aa]
   grind
theorem FO{l:List Trip}(hl:l.length<=1099511627775){k t:Int}{m:List Int}(hr:aD ⟨k,t,m⟩=true)(hm:ch l ⟨k,t,m⟩=true)(hT:TrOk l) :
  cT [.list (l.map Trip.e),.int .i64 k,.int .i64 t,.list (m.map eI)]=some [.list ((cr l ⟨k,t,m⟩).map Trip.e)]:=by
 have ht:=cw hr
 have hml:=dw hr
 simp only at ht hml
 rw[rb]
 rcases jC hr hm with ⟨h4,h⟩|⟨h1,h2,h⟩
 ·simp only at h4;subst h4
  have c1:decide (([]:List (List C)).length+(m.map eI).length<=aQ)=true:=by simp[ce];omega
  have c2:decide ((l.map Trip.e).length+[[C.list (m.map eI),C.int .i64 1]].length<=aQ)=true:=by simp[ce];omega
  simp only[fV,cr,bo,if_true,bQ (ry m),bQ c1,List.nil_append,bQ c2]
  simp[aG,Trip.e]
 ·simp only at h1 h2 h
  have hx:=rz h1 h2
  have hw:IntKind.wrap .i64 (t-1)=t-1:=wrap64 (by omega) (by omega)
  have hb:(decide ((0:Int)<=t-1) && decide (t-1<((l.map Trip.e).length:Nat)))=true:=lt_B (by omega) (by simp;omega)
  have st:∀ s:Int,setRow 1 (l.map Trip.e) (t-1).toNat [C.int .i64 s]=(l.set (t-1).toNat ⟨(tAt l t).m,s⟩).map Trip.e:=fun s=>bR hx rfl
  simp only[fV,hw,cr,bo,bQ hb,Du h1 h2,Trip.e,aa,C.toInt,st]
  rcases h with ⟨h|h,_⟩|⟨h,hs⟩
  ·subst h;rfl
  ·subst h;rfl
  ·subst h;rw[wrap64 (by omega) (by omega)];rfl
end Dx
namespace Dx
open Go
theorem Cx(m:List Int)(hL:m.length<=1099511627776):vF [.list (m.map eI)]=some [.bool (cH m)]:=by
 rw[q_gk];unfold F_gk
 have key:=ak (l:=m) (F:=fun ps=>se (m.map eI) ((aa ps 0).toInt) ((aa ps 1).toInt)) (enc:=fun i (s:Int)=>[.int .i64 s,.int .i64 i])
  (res:=fun xs _ s=>.ret [.bool (xs.all (fun n=>in_ n 0 3) && (m.length==3 && decide (s+xs.sum>0)))]) (fun i s=>0<=s/\s<=3*i) (s:=0) (by simp) ?_ ?_
 ·have key:am _ [C.int .i64 0,C.int .i64 0]=_:=key
  rw[key];simp[ah,cH]
 ·intro i x xs s hx ⟨h1,h2⟩
  have hi:=(List.getElem?_eq_some_iff.1 hx).1
  have hi':(i:Int)<(m.length:Nat):=by omega
  simp (disch:=first|assumption|omega|(simp only[zL];omega)) only[se,gF hx,bC,eI,ap,hi',if_true,Int.reduceEq,reduceIte,zU,zT,aa]
  cases hin:in_ x 0 3 with
  | true =>
   have:=in_iff.1 hin
   refine .inl ⟨s+x,?_,by omega,by simp[hin,Int.add_assoc]⟩
   simp (disch:=first|assumption|omega|(simp only[zL];omega)) only[aI,wrap64]
  | false=>exact .inr ⟨_,rfl,by simp[hin]⟩
 ·intro s _
  have h:¬ ((m.length:Int)<(m.length:Nat)):=by omega
  simp only[se,h,if_false,Int.reduceEq,reduceIte,zU,zT,aa]
  by_cases h3:m.length=3
  ·have h3':((m.length:Nat):Int)=3:=by omega
   simp[h3,upD]
  ·have h3':¬ ((m.length:Nat):Int)=3:=by omega
   simp[h3,h3',upD]
theorem mC{k t:Int}{m:List Int}(hL:m.length<=1099511627776):iI [.int .i64 k,.int .i64 t,.list (m.map eI)]=some [.bool (aD ⟨k,t,m⟩)]:=by
 rw[q_hl]
 simp (disch:=first|assumption|omega|(simp only[zL];omega)) only[F_hl,bC,Cx,aD,Int.reduceEq,reduceIte,zU,zT,aa]
 cases in_ t 1 6 with
 | false=>rfl
 | true =>
  simp only[Bool.true_and]
  by_cases h1:k=1
  ·simp only[h1,if_true]
   match m with
   | []=>rfl
   | [n]=>have hr:∀ f,aH (.list ([n].map eI)) (.int .i64 0) [.int .i64] f=f (eI n):=fun f=>rfl
          simp (disch:=first|assumption|omega|(simp only[zL];omega)) only[hr,eI,bC,Int.reduceEq,reduceIte,zU,zT,aa];rfl
   | a::b::l=>have:¬ ((((a::b::l).length:Nat):Int)=1):=by simp;omega
              simp only[List.length_map,this,if_false];rfl
  ·by_cases h4:k=4
   ·simp[h4,ah]
   ·simp only[h1,h4,if_false]
    cases in_ k 2 7 with
    | false=>rfl
    | true=>cases m with
     | nil=>rfl
     | cons a l=>simp;omega
theorem zV{rs:List Rec}{f k t:Int}{m:List Int}(hL:rs.length<=1099511627775) :
  py [.list (rs.map Rec.e),.int .i64 f,.int .i64 k,.int .i64 t,.list (m.map eI)]=some [.list ((dd ⟨rs,f⟩ ⟨k,t,m⟩).rs.map Rec.e),.int .i64 f,.bool (ml ⟨rs,f⟩)]:=by
 rw[q_gz]
 simp (disch:=first|assumption|omega|(simp only[zL];omega)) only[F_gz,dd,ml,Int.reduceEq,reduceIte,zU,zT,aa]
 by_cases h:rs.length>=40
 ·have h':((rs.length:Nat):Int)>=40:=by omega
  simp only[h,h',if_true];simp
 ·have h':¬ (((rs.length:Nat):Int)>=40):=by omega
  simp only[h,h',if_false];simp[Rec.e]
theorem zW{rs:List Rec}(hL:rs.length<=2000000)(hm:∀ r∈rs,r.m.length<=1099511627776) :
  lp [.list (rs.map Rec.e)]=some [.list (((aS rs).getD []).map Trip.e),.bool (aS rs).isSome]:=by
 rw[q_hf];unfold F_hf
 have key:=ak (l:=rs) (F:=fun ps=>sg (rs.map Rec.e) ((aa ps 0).toInt) ((aa ps 1).toList)) (enc:=fun i (s:List Trip)=>[.int .i64 i,.list (s.map Trip.e)])
  (res:=fun xs _ s=>.ret [.list (((bL xs s).getD []).map Trip.e),.bool (bL xs s).isSome]) (fun _ s=>TrOk s) (s:=[]) TrOk.nil ?_ ?_
 ·have key:am _ [C.int .i64 0,C.list []]=_:=key
  rw[key];rfl
 ·intro i x xs s hx hs
  have hi:=(List.getElem?_eq_some_iff.1 hx).1
  have hi':(i:Int)<(rs.length:Nat):=by omega
  have hxm:=hm x (List.mem_of_getElem? hx)
  have hsl:=hs.len
  simp (disch:=first|assumption|omega|(simp only[zL];omega)) only[sg,fE hx,Rec.e,mC,ap,hi',if_true,Int.reduceEq,reduceIte,zU,zT,aa]
  cases hr:aD ⟨x.k,x.t,x.m⟩with
  | false=>exact .inr ⟨_,rfl,by simp[bL,hr]⟩
  | true =>
   simp (disch:=first|assumption|omega|(simp only[zL];omega)) only[uz,Int.reduceEq,reduceIte,zU,zT,aa]
   cases hmay:ch s ⟨x.k,x.t,x.m⟩with
   | false=>exact .inr ⟨_,rfl,by simp[bL,hr,hmay]⟩
   | true =>
    simp (disch:=first|assumption|omega|(simp only[zL];omega)) only[FO,Int.reduceEq,reduceIte,zU,zT,aa]
    exact .inl ⟨cr s x,rfl,mo hs hr hmay,by simp[bL,hr,hmay]⟩
 ·intro s _
  have h:¬ ((rs.length:Int)<(rs.length:Nat)):=by omega
  simp only[sg,h,if_false,Int.reduceEq,reduceIte,zU,zT,aa]
  rfl
def LgS(l:Log):Prop:=l.rs.length<=2000000/\∀ r∈l.rs,r.m.length<=1099511627776
theorem LgOk.S{l:Log}(h:LgOk l):LgS l:=⟨by have:=h.len;omega,fun r hr=>by have:=dw (h.ok r hr);omega⟩
theorem mD{up:Bool}{rs:List Rec}{f:Int}{b:Bool}(hl:LgS ⟨rs,f⟩)(hf:b=true->0<=f/\f<=rs.length){tl:List (List C)} :
  eQ [.bool up,.list (rs.map Rec.e),.int .i64 f,.list tl,.bool b]=some [.list ((aC ⟨rs,f⟩ b).map Trip.e)]:=by
 rw[q_do]
 have ht:∀ n:Nat,(rs.map Rec.e).take n=(rs.take n).map Rec.e:=fun n=>by simp
 have h1:∀ n:Nat,lp [.list ((rs.take n).map Rec.e)]=_:=fun n=>zW (by simp;have:=hl.1;simp only at this;omega) (fun r hr=>hl.2 r (List.mem_of_mem_take hr))
 cases b with
 | true =>
  obtain⟨h2,h3⟩:=hf rfl
  simp only[F_do,List.length_map,bQ (le_B h2 h3),ht,h1,aC,aO]
  simp (disch:=first|assumption|omega|(simp only[zL];omega)) only[Int.reduceEq,reduceIte,zU,zT,aa]
 | false =>
  have h2:(0:Int)<=(rs.length:Nat):=by omega
  simp only[F_do,List.length_map,bQ (le_B h2 (Int.le_refl _)),ht,h1,aC,aO]
  simp (disch:=first|assumption|omega|(simp only[zL];omega)) only[Int.reduceEq,reduceIte,zU,zT,aa]
  simp only[Bool.false_eq_true,if_false,List.take_length,Int.toNat_natCast]
theorem jI{up:Bool}{rs:List Rec}{f:Int}(hl:LgS ⟨rs,f⟩){tl:List (List C)} :
  eQ [.bool up,.list (rs.map Rec.e),.int .i64 f,.list tl,.bool false]=some [.list ((aC ⟨rs,f⟩ false).map Trip.e)]:=mD hl (fun h=>by cases h)
theorem uA{up:Bool}{rs:List Rec}{f:Int}(hl:LgOk ⟨rs,f⟩){tl:List (List C)} :
  eQ [.bool up,.list (rs.map Rec.e),.int .i64 f,.list tl,.bool true]=some [.list ((aC ⟨rs,f⟩ true).map Trip.e)]:=mD hl.S (fun _=>⟨hl.lo,hl.hi⟩)
theorem eJ{up:Bool}{rs:List Rec}{f:Int}{td:List Word}(hd:DkOk ⟨up,⟨rs,f⟩,td⟩){k t:Int}{m:List Int}(hr:aD ⟨k,t,m⟩=true) :
  dn [.bool up,.list (rs.map Rec.e),.int .i64 f,.list (td.map Word.e),.int .i64 k,.int .i64 t,.list (m.map eI)]=some ((aV ⟨up,⟨rs,f⟩,td⟩ ⟨k,t,m⟩).e++[.bool (dN ⟨up,⟨rs,f⟩,td⟩ ⟨k,t,m⟩)]):=by
 rw[q_du]
 have h1:=hd.lg.S
 have h2:=hd.trOk false
 have hl2:=h2.len
 have h3:=hd.lg.len
 simp only[aj]at h2 hl2 h3
 simp (disch:=first|assumption|omega|(simp only[zL];omega)) only[F_du,jI,uz,zV,aV,dN,aj,Int.reduceEq,reduceIte,zU,zT,aa]
 cases up with
 | false=>rfl
 | true =>
  simp only[Bool.true_and]
  cases ch (aC ⟨rs,f⟩ false) ⟨k,t,m⟩with
  | false=>rfl
  | true=>simp only[dd,ml];by_cases h:rs.length>=40<;>simp[h,Desk.e,aG]
theorem fH{td:List Word}(hL:td.length<=1099511627775){k h t m:Int} :
  gv [.list (td.map Word.e),.int .i64 k,.int .i64 h,.int .i64 t,.int .i64 m]=some [.bool (td.contains ⟨k,h,t,m⟩)]:=by
 rw[q_fd];unfold F_fd
 have key:=ak (l:=td) (F:=fun ps=>si (td.map Word.e) k h t m ((aa ps 0).toInt)) (enc:=fun i (_:Unit)=>[.int .i64 i])
  (res:=fun xs _ _=>.ret [.bool (xs.contains ⟨k,h,t,m⟩)]) (fun _ _=>True) (s:=()) trivial ?_ ?_
 ·have key:am _ [C.int .i64 0]=_:=key
  rw[key];rfl
 ·intro i x xs s hx _
  have hi:=(List.getElem?_eq_some_iff.1 hx).1
  have hi':(i:Int)<(td.length:Nat):=by omega
  have hw:=uy x ⟨k,h,t,m⟩
  simp only at hw
  simp (disch:=first|assumption|omega|(simp only[zL];omega)) only[si,gG hx,Word.e,ap,hi',if_true,hw,Int.reduceEq,reduceIte,zU,zT,aa]
  by_cases e:x=⟨k,h,t,m⟩
  ·exact .inr ⟨_,by rw[if_pos e],by simp[e]⟩
  ·exact .inl ⟨(),by rw[if_neg e],trivial,by simp[Ne.symm e]⟩
 ·intro s _
  have h:¬ ((td.length:Int)<(td.length:Nat)):=by omega
  simp only[si,h,if_false,Int.reduceEq,reduceIte,zU,zT,aa]
  rfl
theorem jJ{k h t m:Int}:iJ [.int .i64 k,.int .i64 h,.int .i64 t,.int .i64 m]=some [.bool (bj ⟨k,h,t,m⟩)]:=by
 rw[q_fy]
 simp (disch:=first|assumption|omega|(simp only[zL];omega)) only[F_fy,bC,bj,Int.reduceEq,reduceIte,zU,zT,aa]
 cases in_ h 1 3<;>cases in_ t 1 6<;>cases in_ k 1 7<;>simp only[aI,aF,Bool.true_and,Bool.false_and,aG]
 split<;>rfl
theorem Cy{up:Bool}{rs:List (List C)}{f:Int}{td:List Word}(hL:td.length<=1099511627775){t k:Int}{m:List Int}(hm:m.length<=1000) :
  vP [.bool up,.list rs,.int .i64 f,.list (td.map Word.e),.int .i64 t,.list (m.map eI),.int .i64 k]=some [.bool (aY td t k 1 m)]:=by
 rw[q_ge];unfold F_ge
 have key:=ak (l:=m) (F:=fun ps=>su (td.map Word.e) t (m.map eI) k ((aa ps 0).toInt)) (enc:=fun i (_:Unit)=>[.int .i64 i])
  (res:=fun xs i _=>.ret [.bool (aY td t k ((i+1:Nat):Int) xs)]) (fun _ _=>True) (s:=()) trivial ?_ ?_
 ·have key:am _ [C.int .i64 0]=_:=key
  rw[key];rfl
 ·intro i x xs s hx _
  have hi:=(List.getElem?_eq_some_iff.1 hx).1
  have hi':(i:Int)<(m.length:Nat):=by omega
  simp (disch:=first|assumption|omega|(simp only[zL];omega)) only[su,gF hx,eI,ap,hi',if_true,fH,Int.reduceEq,reduceIte,zU,zT,aa]
  have e1:((i+1:Nat):Int)+1=((i+1+1:Nat):Int):=by omega
  by_cases hx0:x>0
  ·simp only[hx0,if_true]
   cases hc:td.contains ⟨k,((i+1:Nat):Int),t,0⟩with
   | true=>exact .inr ⟨_,rfl,by simp only[aY,hx0,hc,decide_true,Bool.and_self,Bool.true_or]⟩
   | false=>exact .inl ⟨(),rfl,trivial,by simp only[aY,hx0,hc,e1,Bool.and_false,Bool.false_or]⟩
  ·simp only[hx0,if_false]
   exact .inl ⟨(),by first|rfl|trivial,trivial,by simp only[aY,hx0,e1,decide_false,Bool.false_and,Bool.false_or]⟩
 ·intro s _
  have h:¬ ((m.length:Int)<(m.length:Nat)):=by omega
  simp only[su,h,if_false,Int.reduceEq,reduceIte,zU,zT,aa]
  rfl
theorem nM{up:Bool}{rs:List (List C)}{f:Int}{td:List Word}(hL:td.length<=1099511627775){t k:Int}{m:List Int}(hm:m.length<=1000) :
  lr [.bool up,.list rs,.int .i64 f,.list (td.map Word.e),.int .i64 t,.list (m.map eI),.int .i64 k]=some [.bool (aB td t k 1 m)]:=by
 rw[q_gh];unfold F_gh
 have key:=ak (l:=m) (F:=fun ps=>sw (td.map Word.e) t (m.map eI) k ((aa ps 0).toInt)) (enc:=fun i (_:Unit)=>[.int .i64 i])
  (res:=fun xs i _=>.ret [.bool (aB td t k ((i+1:Nat):Int) xs)]) (fun _ _=>True) (s:=()) trivial ?_ ?_
 ·have key:am _ [C.int .i64 0]=_:=key
  rw[key];rfl
 ·intro i x xs s hx _
  have hi:=(List.getElem?_eq_some_iff.1 hx).1
  have hi':(i:Int)<(m.length:Nat):=by omega
  simp (disch:=first|assumption|omega|(simp only[zL];omega)) only[sw,gF hx,eI,ap,hi',if_true,fH,Int.reduceEq,reduceIte,zU,zT,aa]
  have e1:((i+1:Nat):Int)+1=((i+1+1:Nat):Int):=by omega
  by_cases hx0:x>0
  ·simp only[hx0,if_true]
   cases hc:td.contains ⟨k,((i+1:Nat):Int),t,0⟩with
   | true=>exact .inl ⟨(),rfl,trivial,by simp only[aB,hx0,hc,e1,Bool.or_true,Bool.true_and]⟩
   | false=>exact .inr ⟨_,rfl,by simp only[aB,hx0,hc,decide_true,Bool.not_true,Bool.or_self,Bool.false_and]⟩
  ·simp only[hx0,if_false]
   exact .inl ⟨(),by first|rfl|trivial,trivial,by simp only[aB,hx0,e1,decide_false,Bool.not_false,Bool.true_or,Bool.true_and]⟩
 ·intro s _
  have h:¬ ((m.length:Int)<(m.length:Nat)):=by omega
  simp only[sw,h,if_false,Int.reduceEq,reduceIte,zU,zT,aa]
  rfl
end Dx
namespace Dx
open Go
theorem mG{room:Int}:pr [.int .i64 room]=some ((if in_ room 0 9 then bS room else⟨0,[]⟩).e++[.bool (in_ room 0 9)]):=by
 rw[q_dq]
 simp (disch:=first|assumption|omega|(simp only[zL];omega)) only[F_dq,bC,Int.reduceEq,reduceIte,zU,zT,aa]
 cases in_ room 0 9<;>rfl
theorem uB{h:Hold}(ho:bf h=true):0<=had h/\had h<=3/\(h.s=1\/h.s=2->had h=h.m)/\0<=h.m/\h.m<=3:=by
 unfold bf at ho
 unfold had
 split at ho
 ·rename_i e;simp at ho;simp[e];omega
 ·split at ho
  ·rename_i e;have h1:=in_iff.1 ho;simp only[e,if_true];exact⟨by omega,by omega,by simp,by omega,by omega⟩
  ·rename_i e;simp only[e,if_false]
   split at ho
   ·have h1:=in_iff.1 ho;exact⟨by omega,by omega,by simp,by omega,by omega⟩
   ·cases ho
theorem Cz{room:Int}{hs:List Hold}(hr:0<=room/\room<=9)(ho:∀ h∈hs,bf h=true)(hl:hs.length<=100) :
  vH [.int .i64 room,.list (hs.map Hold.e)]=some [.int .i64 (free ⟨room,hs⟩)]:=by
 rw[q_gt];unfold F_gt
 have key:=ak (l:=hs) (F:=fun ps=>sk (hs.map Hold.e) ((aa ps 0).toInt) ((aa ps 1).toInt)) (enc:=fun i (s:Int)=>[.int .i64 s,.int .i64 i])
  (res:=fun xs _ s=>.ret [.int .i64 (s-(xs.map had).sum)]) (fun i s=>room-3*i<=s/\s<=room) (s:=room) (by simp) ?_ ?_
 ·have key:am _ [C.int .i64 room,C.int .i64 0]=_:=key
  rw[key];rfl
 ·intro i x xs s hx ⟨h1,h2⟩
  have hi:=(List.getElem?_eq_some_iff.1 hx).1
  have hi':(i:Int)<(hs.length:Nat):=by omega
  have hm:=uB (ho x (List.mem_of_getElem? hx))
  simp (disch:=first|assumption|omega|(simp only[zL];omega)) only[sk,E7 hx,Hold.e,ap,hi',if_true,wrap64,Int.reduceEq,reduceIte,zU,zT,aa]
  refine .inl ⟨s-had x,?_,by omega,by simp[Int.sub_sub]⟩
  unfold had
  by_cases e1:x.s=1
  ·simp[e1]
  ·by_cases e2:x.s=2<;>simp[e1,e2]
 ·intro s _
  have h:¬ ((hs.length:Int)<(hs.length:Nat)):=by omega
  simp only[sk,h,if_false,Int.reduceEq,reduceIte,zU,zT,aa]
  simp
theorem FP{n:Int}{f:List C->Option Out}:aH (.list ([n].map eI)) (.int .i64 0) [.int .i64] f=f (eI n):=rfl
theorem zX{room:Int}{hs:List Hold}(ho:StOk ⟨room,hs⟩){k t:Int}{m:List Int}(hr:aD ⟨k,t,m⟩=true) :
  pu [.int .i64 room,.list (hs.map Hold.e),.int .i64 k,.int .i64 t,.list (m.map eI)]=some [.bool (may ⟨room,hs⟩ ⟨k,t,m⟩)]:=by
 have ht:=cw hr
 have hl:=ho.len
 simp only at ht hl
 rw[q_hj]
 simp (disch:=first|assumption|omega|(simp only[zL];omega)) only[F_hj,wrap64,FN,Hold.e,may,dX,Cz ho.room ho.hold (show hs.length<=100 by omega),Int.reduceEq,reduceIte,zU,zT,aa]
 by_cases h1:k=1
 ·obtain⟨n,e,_⟩:=dv hr h1
  simp only at e;subst e
  simp only[h1,if_true,FP,eI,Int.reduceEq,reduceIte,zU,zT,aa]
  by_cases h0:(hAt hs t).s=0<;>simp[h0,aG]
 ·by_cases h2:k=2
  ·simp[h2,aG]
  ·by_cases h3:k=3
   ·by_cases h0:(hAt hs t).s=1<;>simp[h3,h0,aG]
   ·simp[h1,h2,h3,aG]
theorem J9{room:Int}{hs:List Hold}(ho:StOk ⟨room,hs⟩){k t:Int}{m:List Int}(hr:aD ⟨k,t,m⟩=true) :
  db [.int .i64 room,.list (hs.map Hold.e),.int .i64 k,.int .i64 t,.list (m.map eI)]=some (act ⟨room,hs⟩ ⟨k,t,m⟩).e:=by
 have ht:=cw hr
 have hl:=ho.len
 simp only at ht hl
 have hx:=rA (l:=hs) ht.1 (by omega)
 have st:∀ a b:Int,setRow 0 (hs.map Hold.e) (t-1).toNat [C.int .i64 a,C.int .i64 b]=(hs.set (t-1).toNat ⟨a,b⟩).map Hold.e:=fun a b=>bR hx rfl
 rw[tR]
 simp (disch:=first|assumption|omega|(simp only[zL];omega)) only[kN,wrap64,FN,Hold.e,act,gU,st,Int.reduceEq,reduceIte,zU,zT,aa]
 by_cases h1:k=1
 ·obtain⟨n,e,_⟩:=dv hr h1
  simp only at e;subst e
  simp only[h1,if_true,FP,eI,Int.reduceEq,reduceIte,zU,zT,aa]
  rfl
 ·by_cases h2:k=2
  ·simp only[h2,if_true];rfl
  ·by_cases h3:k=3
   ·simp only[h3,if_true];rfl
   ·simp only[h1,h2,h3,if_false];rfl
theorem Dv{room:Int}{rs:List Rec}(hL:rs.length<=2000000)(hm:∀ r∈rs,r.m.length<=1099511627776) :
  lq [.int .i64 room,.list (rs.map Rec.e)]=some (((bP room rs).getD ⟨0,[]⟩).e++[.bool (bP room rs).isSome]):=by
 rw[q_hm]
 simp (disch:=first|assumption|omega|(simp only[zL];omega)) only[F_hm,mG,Stock.e,List.cons_append,Int.reduceEq,reduceIte,zU,zT,aa]
 cases hr:in_ room 0 9 with
 | false=>simp[bP,hr,aG]
 | true =>
  simp only[if_true]
  have key:=ak (l:=rs) (F:=fun ps=>sm (rs.map Rec.e) ((aa ps 0).toInt) ((aa ps 1).toInt) ((aa ps 2).toList)) (enc:=fun i (s:Stock)=>[.int .i64 i,.int .i64 s.room,.list (s.hs.map Hold.e)])
   (res:=fun xs _ s=>.ret (((bD xs s).getD ⟨0,[]⟩).e++[.bool (bD xs s).isSome])) (fun _ s=>StOk s) (s:=bS room) (eV (in_iff.1 hr)) ?_ ?_
  ·have key:am _ [C.int .i64 0,C.int .i64 (bS room).room,C.list ((bS room).hs.map Hold.e)]=_:=key
   rw[key];simp[bP,hr,aG,Stock.e]
  ·intro i x xs s hx hs
   have hi:=(List.getElem?_eq_some_iff.1 hx).1
   have hi':(i:Int)<(rs.length:Nat):=by omega
   have hxm:=hm x (List.mem_of_getElem? hx)
   simp (disch:=first|assumption|omega|(simp only[zL];omega)) only[sm,fE hx,Rec.e,mC,ap,hi',if_true,Int.reduceEq,reduceIte,zU,zT,aa]
   cases hr:aD x with
   | false=>exact .inr ⟨_,rfl,by simp[bD,hr];rfl⟩
   | true =>
    have hs':StOk ⟨s.room,s.hs⟩:=hs
    have hr':aD ⟨x.k,x.t,x.m⟩=true:=hr
    simp (disch:=first|assumption|omega|(simp only[zL];omega)) only[zX,Int.reduceEq,reduceIte,zU,zT,aa]
    cases hmay:may s x with
    | false=>exact .inr ⟨_,rfl,by simp[bD,hr,hmay];rfl⟩
    | true =>
     simp (disch:=first|assumption|omega|(simp only[zL];omega)) only[J9,Stock.e,Int.reduceEq,reduceIte,zU,zT,aa]
     exact .inl ⟨act s x,rfl,oC hs hr hmay,by simp[bD,hr,hmay]⟩
  ·intro s _
   have h:¬ ((rs.length:Int)<(rs.length:Nat)):=by omega
   simp only[sm,h,if_false,Int.reduceEq,reduceIte,zU,zT,aa]
   rfl
theorem xG{id room f:Int}{up b:Bool}{rs:List Rec}(ho:LgOk ⟨rs,f⟩) :
  pz [.int .i64 id,.bool up,.int .i64 room,.list (rs.map Rec.e),.int .i64 f,.bool b]=some (aq ⟨id,up,room,⟨rs,f⟩⟩ b).e:=by
 rw[q_dj]
 have hl:=ho.S
 have h2:=ho.lo
 have h3:=ho.hi
 simp only at h2 h3
 have ht:∀ n:Nat,(rs.map Rec.e).take n=(rs.take n).map Rec.e:=fun n=>by simp
 have h1:∀ n:Nat,lq [.int .i64 room,.list ((rs.take n).map Rec.e)]=_:=fun n=>Dv (by simp;have:=hl.1;simp only at this;omega) (fun r hr=>hl.2 r (List.mem_of_mem_take hr))
 cases b with
 | true =>
  simp (disch:=first|assumption|omega|(simp only[zL];omega)) only[F_dj,ht,h1,aq,aO,Stock.e,List.cons_append,if_true,Int.reduceEq,reduceIte,zU,zT,aa]
 | false =>
  simp (disch:=first|assumption|omega|(simp only[zL];omega)) only[F_dj,ht,h1,aq,aO,Stock.e,List.cons_append,Int.reduceEq,reduceIte,zU,zT,aa]
  simp
theorem CA{k h t m:Int}:vR [.int .i64 k,.int .i64 h,.int .i64 t,.int .i64 m]=some (bl ⟨k,h,t,m⟩).e:=by
 rw[q_gl]
 simp (disch:=first|assumption|omega|(simp only[zL];omega)) only[F_gl,bl,Int.reduceEq,reduceIte,zU,zT,aa]
 split
 ·rfl
 ·split<;>rfl
theorem zd(l:Log)(r:Rec):(dd l r).f=l.f:=by unfold dd;split<;>rfl
def oW(o:Option Word):Word:=o.getD ⟨0,0,0,0⟩
theorem tY{id room f:Int}{up:Bool}{rs:List (List C)}{k h t m st:Int} :
  sy [.int .i64 id,.bool up,.int .i64 room,.list rs,.int .i64 f,.int .i64 k,.int .i64 h,.int .i64 t,.int .i64 m,.int .i64 st]=some ((oW (answer id ⟨k,h,t,m⟩ st)).e++[.bool (answer id ⟨k,h,t,m⟩ st).isSome]):=by
 rw[q_co]
 by_cases h1:k=1
 ·subst h1
  by_cases s1:st=1
  ·subst s1;rfl
  ·by_cases s2:st=2
   ·subst s2;rfl
   ·by_cases s3:st=3
    ·subst s3;rfl
    ·simp[Ft,ot,ou,answer,s1,s2,s3,bo,aI,aF,aZ,fG,C.toBool_bool,aa,aG,oW,Word.e]
 ·by_cases h2:k=2
  ·subst h2
   by_cases s2:st=2
   ·subst s2;rfl
   ·simp[Ft,ot,ou,answer,s2,bo,aI,aF,aZ,fG,C.toBool_bool,aa,aG,oW,Word.e]
  ·by_cases h3:k=3
   ·subst h3
    by_cases s3:st=3
    ·subst s3;rfl
    ·simp[Ft,ot,ou,answer,s3,bo,aI,aF,aZ,fG,C.toBool_bool,aa,aG,oW,Word.e]
   ·simp[Ft,ot,ou,answer,h1,h2,h3,bo,aI,aF,aZ,fG,C.toBool_bool,aa,aG,oW,Word.e]
theorem Bp{id room f:Int}{up:Bool}{rs:List Rec}(ho:HsOk ⟨id,up,room,⟨rs,f⟩⟩){k h t m:Int} :
  vS [.int .i64 id,.bool up,.int .i64 room,.list (rs.map Rec.e),.int .i64 f,.int .i64 k,.int .i64 h,.int .i64 t,.int .i64 m] =
   some ((bZ ⟨id,up,room,⟨rs,f⟩⟩ ⟨k,h,t,m⟩).1.e++((oW (bZ ⟨id,up,room,⟨rs,f⟩⟩ ⟨k,h,t,m⟩).2).e++[.bool (bZ ⟨id,up,room,⟨rs,f⟩⟩ ⟨k,h,t,m⟩).2.isSome])):=by
 rw[q_fp]
 have hlg:LgOk ⟨rs,f⟩:=ho.lg
 have hlen:rs.length<=40:=ho.lg.len
 have sA:=ho.stOk false
 have sF:=ho.stOk true
 have lA:=sA.len
 have lF:=sF.len
 simp (disch:=first|assumption|omega|(simp only[zL];omega)) only[F_fp,jJ,bZ,Int.reduceEq,reduceIte,zU,zT,aa]
 cases up with
 | false=>rfl
 | true =>
  cases hw:bj ⟨k,h,t,m⟩with
  | false=>rfl
  | true =>
   have wok:=wordOk_iff.1 hw
   have wt:=wok.t
   simp only at wt
   have hr:=cy wok
   have sA':StOk ⟨(aq ⟨id,true,room,⟨rs,f⟩⟩ false).room,(aq ⟨id,true,room,⟨rs,f⟩⟩ false).hs⟩:=sA
   have hr':aD ⟨(bl ⟨k,h,t,m⟩).k,(bl ⟨k,h,t,m⟩).t,(bl ⟨k,h,t,m⟩).m⟩=true:=hr
   simp (disch:=first|assumption|omega|(simp only[zL];omega)) only[xG,CA,Stock.e,Rec.e,zX,zV,tY,FN,wrap64,Hold.e,Word.e,List.cons_append,Int.reduceEq,reduceIte,zU,zT,aa]
   by_cases e1:h=id
   ·by_cases e2:k>3
    ·simp[e1,e2,aG,House.e,oW,Word.e]
    ·simp only[e1,e2,if_true,if_false,dX]
     cases may (aq ⟨id,true,room,⟨rs,f⟩⟩ false) (bl ⟨k,id,t,m⟩)with
     | true=>simp[aG,House.e,oW,Word.e,zd]
     | false =>
      by_cases e3:k=1
      ·by_cases e4:(hAt (aq ⟨id,true,room,⟨rs,f⟩⟩ false).hs t).s=0
       ·simp[e3,e4,aG,House.e,oW,Word.e]
       ·simp[e3,e4,aG,House.e,oW,Word.e]
      ·simp[e3,aG,House.e,oW,Word.e]
   ·simp[e1,aG,House.e,oW,Word.e]
end Dx
namespace Dx
open Go
def lM(s:Int)(sure:Bool)(td:List Word)(t:Int)(m:List Int):Int :=
 if s=1/\aY td t 5 1 m then 6
 else if s=1/\aB td t 4 1 m then 5
 else if s=2/\sure/\aB td t 6 1 m then 7
 else if s=3/\sure/\aB td t 7 1 m then 7
 else 0
theorem CB(d:Desk)(t:Int):fD d t=lM (tAt (aj d false) t).s (lC d t) d.td t (tAt (aj d false) t).m:=rfl
section
variable {up:Bool} {rs:List Rec} {f:Int} {td:List Word} {t:Int} {m:List Int} {s:Int} {b:Bool}
theorem jD0(hL:td.length<=1099511627775)(hm:m.length<=1000){d5 d7:Desk}{b5 b7:Bool}
  (w5:dn [.bool up,.list (rs.map Rec.e),.int .i64 f,.list (td.map Word.e),.int .i64 5,.int .i64 t,.list []]=some (d5.e++[.bool b5]))
  (w7:dn [.bool up,.list (rs.map Rec.e),.int .i64 f,.list (td.map Word.e),.int .i64 7,.int .i64 t,.list []]=some (d7.e++[.bool b7])) (c:Bool) :
  ah (yF up (rs.map Rec.e) f (td.map Word.e) t (m.map eI) s b c)=some (if c then d5 else if s=2/\b/\aB td t 6 1 m then d7 else if s=3/\b/\aB td t 7 1 m then d7 else⟨up,⟨rs,f⟩,td⟩).e:=by
 simp only[Desk.e,List.cons_append,List.nil_append]at w5 w7
 unfold yF
 cases c with
 | true=>simp only[aI,w5,gV,aG,aa,C.toInt_int,C.toBool_bool,C.toList_list,if_true];rfl
 | false =>
  simp only[aF,bo,Bool.false_eq_true,if_false]
  by_cases h2:s=2
  ·subst h2
   simp (disch:=first|assumption|omega|(simp only[zL];omega)) only[if_true,nM,w7,ru,gV,aa,C.toInt_int,C.toBool_bool,C.toList_list]
   cases b<;>cases aB td t 6 1 m<;>simp[Desk.e]
  ·simp only[h2,if_false,false_and]
   by_cases h3:s=3
   ·subst h3
    simp (disch:=first|assumption|omega|(simp only[zL];omega)) only[if_true,nM,w7,ru,gV,aa,C.toInt_int,C.toBool_bool,C.toList_list]
    cases b<;>cases aB td t 7 1 m<;>simp[Desk.e]
   ·simp only[h3,if_false,false_and];rfl
theorem jD1(hL:td.length<=1099511627775)(hm:m.length<=1000){d5 d6 d7:Desk}{b5 b6 b7:Bool}
  (w5:dn [.bool up,.list (rs.map Rec.e),.int .i64 f,.list (td.map Word.e),.int .i64 5,.int .i64 t,.list []]=some (d5.e++[.bool b5]))
  (w6:dn [.bool up,.list (rs.map Rec.e),.int .i64 f,.list (td.map Word.e),.int .i64 6,.int .i64 t,.list []]=some (d6.e++[.bool b6]))
  (w7:dn [.bool up,.list (rs.map Rec.e),.int .i64 f,.list (td.map Word.e),.int .i64 7,.int .i64 t,.list []]=some (d7.e++[.bool b7])) (c:Bool) :
  ah (yG up (rs.map Rec.e) f (td.map Word.e) t (m.map eI) s b c)=some (if c then d6 else if s=1/\aB td t 4 1 m then d5 else if s=2/\b/\aB td t 6 1 m then d7 else if s=3/\b/\aB td t 7 1 m then d7 else⟨up,⟨rs,f⟩,td⟩).e:=by
 have j0:=fun c=>jD0 (s:=s) (b:=b) hL hm w5 w7 c
 simp only[Desk.e,List.cons_append,List.nil_append]at w6
 unfold yG
 cases c with
 | true=>simp only[aI,w6,gV,aG,aa,C.toInt_int,C.toBool_bool,C.toList_list,if_true];rfl
 | false =>
  simp only[aF,bo,Bool.false_eq_true,if_false]
  by_cases h1:s=1
  ·simp (disch:=first|assumption|omega|(simp only[zL];omega)) only[h1,if_true,nM,ru,aa,C.toBool_bool,aZ]
   rw[<-h1,j0]
   simp[h1]
  ·simp only[h1,if_false,aZ,aa,C.toBool_bool]
   rw[j0];simp
theorem jD2(hL:td.length<=1099511627775)(hm:m.length<=1000){d5 d6 d7:Desk}{b5 b6 b7:Bool}
  (w5:dn [.bool up,.list (rs.map Rec.e),.int .i64 f,.list (td.map Word.e),.int .i64 5,.int .i64 t,.list []]=some (d5.e++[.bool b5]))
  (w6:dn [.bool up,.list (rs.map Rec.e),.int .i64 f,.list (td.map Word.e),.int .i64 6,.int .i64 t,.list []]=some (d6.e++[.bool b6]))
  (w7:dn [.bool up,.list (rs.map Rec.e),.int .i64 f,.list (td.map Word.e),.int .i64 7,.int .i64 t,.list []]=some (d7.e++[.bool b7])) :
  ah (yH up (rs.map Rec.e) f (td.map Word.e) t (m.map eI) s b) =
   some (if s=1/\aY td t 5 1 m then d6 else if s=1/\aB td t 4 1 m then d5 else if s=2/\b/\aB td t 6 1 m then d7 else if s=3/\b/\aB td t 7 1 m then d7 else⟨up,⟨rs,f⟩,td⟩).e:=by
 have j1:=fun c=>jD1 (s:=s) (b:=b) hL hm w5 w6 w7 c
 unfold yH
 simp only[bo]
 by_cases h1:s=1
 ·simp (disch:=first|assumption|omega|(simp only[zL];omega)) only[h1,if_true,Cy,ru,aa,C.toBool_bool,aZ]
  rw[<-h1,j1]
  simp[h1]
 ·simp only[h1,if_false,aZ,aa,C.toBool_bool]
  rw[j1];simp[h1]
end
theorem kR{up:Bool}{rs:List Rec}{f:Int}{td:List Word}(hd:DkOk ⟨up,⟨rs,f⟩,td⟩)(hL:td.length<=1099511627775){t:Int}(h1:1<=t)(h2:t<=(aC ⟨rs,f⟩ false).length) :
  sx [.bool up,.list (rs.map Rec.e),.int .i64 f,.list (td.map Word.e),.int .i64 t]=some (cU ⟨up,⟨rs,f⟩,td⟩ t).e:=by
 rw[q_ca]
 have hlg:LgOk ⟨rs,f⟩:=hd.lg
 have hS:=hlg.S
 have tA:TrOk (aC ⟨rs,f⟩ false):=hd.trOk false
 have tF:TrOk (aC ⟨rs,f⟩ true):=hd.trOk true
 have lA:=tA.len
 have lF:=tF.len
 have hml:=bw (tripOk_iff.1 (tA.ok _ (gl (t:=t) (by omega)))).1
 have w5:=eJ hd (k:=5) (t:=t) (m:=[]) (by simp[aD,in_iff];omega)
 have w6:=eJ hd (k:=6) (t:=t) (m:=[]) (by simp[aD,in_iff];omega)
 have w7:=eJ hd (k:=7) (t:=t) (m:=[]) (by simp[aD,in_iff];omega)
 have j:=fun s b=>jD2 (s:=s) (b:=b) hL (by omega:(tAt (aC ⟨rs,f⟩ false) t).m.length<=1000) w5 w6 w7
 simp (disch:=first|assumption|omega|(simp only[zL];omega)) only[F_ca,jI,uA,Du,wrap64,Trip.e,Int.reduceEq,reduceIte,zU,zT,aa]
 rw[j,j]
 unfold cU
 rw[CB]
 unfold lC aj
 have fin:∀ b:Bool,(if lM (tAt (aC ⟨rs,f⟩ false) t).s b td t (tAt (aC ⟨rs,f⟩ false) t).m>0 then aV ⟨up,⟨rs,f⟩,td⟩ ⟨lM (tAt (aC ⟨rs,f⟩ false) t).s b td t (tAt (aC ⟨rs,f⟩ false) t).m,t,[]⟩ else⟨up,⟨rs,f⟩,td⟩) =
   (if(tAt (aC ⟨rs,f⟩ false) t).s=1/\aY td t 5 1 (tAt (aC ⟨rs,f⟩ false) t).m then aV ⟨up,⟨rs,f⟩,td⟩ ⟨6,t,[]⟩ else if(tAt (aC ⟨rs,f⟩ false) t).s=1/\aB td t 4 1 (tAt (aC ⟨rs,f⟩ false) t).m then aV ⟨up,⟨rs,f⟩,td⟩ ⟨5,t,[]⟩ else if(tAt (aC ⟨rs,f⟩ false) t).s=2/\b/\aB td t 6 1 (tAt (aC ⟨rs,f⟩ false) t).m then aV ⟨up,⟨rs,f⟩,td⟩ ⟨7,t,[]⟩ else if(tAt (aC ⟨rs,f⟩ false) t).s=3/\b/\aB td t 7 1 (tAt (aC ⟨rs,f⟩ false) t).m then aV ⟨up,⟨rs,f⟩,td⟩ ⟨7,t,[]⟩ else⟨up,⟨rs,f⟩,td⟩):=by
  intro b
  unfold lM
  split
  ·rfl
  ·split
   ·rfl
   ·split
    ·rfl
    ·split<;>rfl
 dsimp only
 rw[fin]
 by_cases h:t<=((aC ⟨rs,f⟩ true).length:Nat)
 ·simp only[h,if_true,decide_true,Bool.true_and]
 ·simp only[h,if_false,decide_false,Bool.false_and]
theorem fI(up:Bool)(l:Log)(td:List Word)(k h t m:Int):cA ⟨up,l,td⟩ ⟨k,h,t,m⟩=(up && (bj ⟨k,h,t,m⟩ && (decide (k>=4) && decide (t<=(aC l false).length)))):=rfl
theorem Bq{up:Bool}{rs:List Rec}{f:Int}{td:List Word}(hd:DkOk ⟨up,⟨rs,f⟩,td⟩)(hL:td.length<=1099511627774){k h t m:Int} :
  vQ [.bool up,.list (rs.map Rec.e),.int .i64 f,.list (td.map Word.e),.int .i64 k,.int .i64 h,.int .i64 t,.int .i64 m]=some (da ⟨up,⟨rs,f⟩,td⟩ ⟨k,h,t,m⟩).e:=by
 rw[q_fw]
 have hlg:LgOk ⟨rs,f⟩:=hd.lg
 have hS:=hlg.S
 have hL':td.length<=1099511627775:=by omega
 unfold da
 simp (disch:=first|assumption|omega|(simp only[zL];omega)) only[F_fw,jJ,jI,fH,Int.reduceEq,reduceIte,zU,zT,aa]
 have nh:cA ⟨up,⟨rs,f⟩,td⟩ ⟨k,h,t,m⟩=false->(if cA ⟨up,⟨rs,f⟩,td⟩ ⟨k,h,t,m⟩=true then cU (bI ⟨up,⟨rs,f⟩,td⟩ ⟨k,h,t,m⟩) t else⟨up,⟨rs,f⟩,td⟩)=⟨up,⟨rs,f⟩,td⟩:=fun e=>by rw[e];rfl
 cases up with
 | false=>rw[nh rfl];rfl
 | true =>
  cases hw:bj ⟨k,h,t,m⟩with
  | false=>rw[nh (by simp[cA,hw])];rfl
  | true =>
   have wt:=(wordOk_iff.1 hw).t
   simp only at wt
   simp only[aI,kw]
   by_cases h4:k<4
   ·rw[nh (by simp[cA,hw];omega)]
    simp only[h4,if_true];rfl
   ·by_cases ht:t>((aC ⟨rs,f⟩ false).length:Nat)
    ·rw[nh (by rw[fI,hw];simp only[Bool.true_and];rw[Bool.and_eq_false_iff];right;exact decide_eq_false (by omega))]
     simp only[h4,ht,if_true,if_false];rfl
    ·have c1:cA ⟨true,⟨rs,f⟩,td⟩ ⟨k,h,t,m⟩=true:=by rw[fI,hw];simp only[Bool.true_and];rw[Bool.and_eq_true];exact⟨decide_eq_true (by omega),decide_eq_true (by omega)⟩
     rw[if_pos c1]
     simp only[h4,ht,if_false,bI]
     cases hc:td.contains ⟨k,h,t,m⟩with
     | true =>
      simp (disch:=first|assumption|omega|(simp only[zL];omega)) only[kR,Desk.e,aI,aG,rx,aa,C.toInt_int,C.toBool_bool,C.toList_list,if_true]
     | false =>
      have hd2:DkOk ⟨true,⟨rs,f⟩,td++[⟨k,h,t,m⟩]⟩:=by
       have:=hd.tell (w:=⟨k,h,t,m⟩) c1
       unfold bI at this
       rw[if_neg (by rw[hc];simp)]at this
       exact this
      have e1:(td.map Word.e)++[[C.int .i64 k,C.int .i64 h,C.int .i64 t,C.int .i64 m]]=(td++[(⟨k,h,t,m⟩:Word)]).map Word.e:=by simp[Word.e]
      have hd3:=kR hd2 (by simp;omega) wt.1 (show t<=((aC ⟨rs,f⟩ false).length:Nat) by omega)
      simp only[aF,e1,hd3]
      simp (disch:=first|assumption|omega|(simp only[zL];omega)) only[Desk.e,Bool.false_eq_true,if_false,Int.reduceEq,reduceIte,zU,zT,aa]
theorem rowI3{m:List Int}{i:Nat}{n:Int}(h:m[i]?=some n){f:List C->Option Out}:aH (.list (m.map eI)) (.int .i64 i) [.int .i64] f=f (eI n):=gF h
theorem FQ{td:List Word}(hL:td.length<=1099511627775){l:List Trip}{ti:Nat}{x:Trip}(hx:l[ti]?=some x)(hti:ti<=1000)(hs:1<=x.s/\x.s<=3)(hml:x.m.length=3){acc:List Word}(ha:acc.length<=3000) :
  am (fun ps=>oq (td.map Word.e) (l.map Trip.e) (ti:Int) ((aa ps 0).toInt) ((aa ps 1).toList)) [.int .i64 0,.list (acc.map Word.e)] =
   some (.jump [.int .i64 ((ti+1:Nat):Int),.list ((acc++aT td x.s ((ti+1:Nat):Int) 1 x.m).map Word.e)]):=by
 have key:=ak (l:=x.m) (F:=fun ps=>oq (td.map Word.e) (l.map Trip.e) (ti:Int) ((aa ps 0).toInt) ((aa ps 1).toList)) (enc:=fun i (s:List Word)=>[.int .i64 i,.list (s.map Word.e)])
  (res:=fun xs i s=>.jump [.int .i64 ((ti+1:Nat):Int),.list ((s++aT td x.s ((ti+1:Nat):Int) ((i+1:Nat):Int) xs).map Word.e)]) (fun i s=>s.length<=3000+i) (s:=acc) (by omega) ?_ ?_
 ·exact key
 ·intro i n xs s hn hs'
  have hi:=(List.getElem?_eq_some_iff.1 hn).1
  have hi':(i:Int)<3:=by omega
  have e1:((i+1:Nat):Int)+1=((i+1+1:Nat):Int):=by omega
  have ra:∀ g:List C->Option Out,aH (.list [[C.int .i64 0],[C.int .i64 4],[C.int .i64 6],[C.int .i64 7]]) (.int .i64 x.s) [.int .i64] g=g [.int .i64 (lD x.s)]:=by
   intro g
   have:x.s=1\/x.s=2\/x.s=3:=by omega
   rcases this with e|e|e<;>rw[e]<;>rfl
  have h4:x.s<((([[C.int .i64 0],[C.int .i64 4],[C.int .i64 6],[C.int .i64 7]]:List (List C)).length:Nat):Int):=by simp;omega
  have h5:(0:Int)<=x.s:=by omega
  have hb:=cY (p:=(0:Int)<=x.s) (q:=x.s<((([[C.int .i64 0],[C.int .i64 4],[C.int .i64 6],[C.int .i64 7]]:List (List C)).length:Nat):Int)) h5 h4
  unfold oq
  simp only[aa,C.toInt_int,C.toList_list,aK,hi',if_true,xF hx,Trip.e,hb,ra,rowI3 hn,eI,bo]
  simp (disch:=first|assumption|omega|(simp only[zL];omega)) only[ap,fH,ru,aa,C.toBool_bool]
  simp only[aT,fk]
  by_cases hn0:n=0
  ·simp only[hn0,if_true,true_or]
   exact .inl ⟨s,rfl,by omega,by rw[e1];simp⟩
  ·simp only[hn0,if_false,false_or]
   cases hc:td.contains ⟨lD x.s,((i+1:Nat):Int),((ti+1:Nat):Int),0⟩with
   | true=>exact .inl ⟨s,rfl,by omega,by rw[e1];simp⟩
   | false =>
    have hlen:∀ w:List C,decide ((s.map Word.e).length+[w].length<=aQ)=true:=fun w=>by simp[ce];omega
    refine .inl ⟨s++[⟨x.s,((i+1:Nat):Int),((ti+1:Nat):Int),if x.s=1 then n else 0⟩],?_,by simp;omega,by rw[e1];simp⟩
    simp only[aF,bQ (hlen _)]
    split<;>simp[Word.e]
 ·intro s _
  unfold oq
  have h:¬ ((x.m.length:Int)<3):=by omega
  simp only[aa,C.toInt_int,C.toList_list,aK,h,if_false]
  simp (disch:=first|assumption|omega|(simp only[zL];omega)) only[ap,jX]
  simp[aT]
theorem tZ{up:Bool}{rs:List Rec}{f:Int}{td:List Word}(hd:DkOk ⟨up,⟨rs,f⟩,[]⟩)(hL:td.length<=1099511627775) :
  l9 [.bool up,.list (rs.map Rec.e),.int .i64 f,.list (td.map Word.e)]=some [.list ((aW ⟨up,⟨rs,f⟩,td⟩).map Word.e)]:=by
 rw[q_dk]
 have hlg:LgOk ⟨rs,f⟩:=hd.lg
 have hS:=hlg.S
 have tF:TrOk (aC ⟨rs,f⟩ true):=hd.trOk true
 have lF:=tF.len
 simp (disch:=first|assumption|omega|(simp only[zL];omega)) only[F_dk,uA,aW,aj,Int.reduceEq,reduceIte,zU,zT,aa]
 cases up with
 | false=>rfl
 | true =>
  simp only[aI,if_true]
  have key:=ak (l:=aC ⟨rs,f⟩ true) (F:=fun ps=>sr (td.map Word.e) ((aC ⟨rs,f⟩ true).map Trip.e) ((aa ps 0).toInt) ((aa ps 1).toList)) (enc:=fun i (s:List Word)=>[.int .i64 i,.list (s.map Word.e)])
   (res:=fun xs i s=>.ret [.list ((s++cC td ((i+1:Nat):Int) xs).map Word.e)]) (fun i s=>s.length<=3*i) (s:=[]) (by simp) ?_ ?_
  ·have key:am _ [C.int .i64 0,C.list []]=_:=key
   rw[key];simp
  ·intro i x xs s hx hs
   have hi:=(List.getElem?_eq_some_iff.1 hx).1
   have hi':(i:Int)<((aC ⟨rs,f⟩ true).length:Nat):=by omega
   have hxo:=tripOk_iff.1 (tF.ok x (List.mem_of_getElem? hx))
   have hml:=bw hxo.1
   have e1:((i+1:Nat):Int)+1=((i+1+1:Nat):Int):=by omega
   unfold sr
   simp only[aa,C.toInt_int,C.toList_list,List.length_map,aK,hi',if_true,xF hx,Trip.e,cC]
   by_cases h3:x.s>3
   ·simp only[h3,if_true]
    simp (disch:=first|assumption|omega|(simp only[zL];omega)) only[ap]
    exact .inl ⟨s,rfl,by omega,by rw[e1];simp⟩
   ·simp only[h3,if_false]
    rw[FQ hL hx (by omega) (by omega) hml (by omega)]
    refine .inl ⟨s++aT td x.s ((i+1:Nat):Int) 1 x.m,rfl,?_,by rw[e1];simp⟩
    have:=dZ td x.s ((i+1:Nat):Int) x.m 1
    simp only[List.length_append];omega
  ·intro s _
   unfold sr
   have h:¬ (((aC ⟨rs,f⟩ true).length:Int)<((aC ⟨rs,f⟩ true).length:Nat)):=by omega
   simp only[aa,C.toInt_int,C.toList_list,List.length_map,aK,h,if_false,jX]
   simp[cC]
theorem DkOk.bare{d:Desk}(h:DkOk d):DkOk ⟨d.up,d.lg,[]⟩:=⟨h.lg,h.tr,by simp,by simp,.inr rfl⟩
theorem mJ{up:Bool}{rs:List Rec}{f:Int}{td:List Word}(hd:DkOk ⟨up,⟨rs,f⟩,td⟩)(hL:td.length<=1099511627775) :
  l9 [.bool up,.list (rs.map Rec.e),.int .i64 f,.list (td.map Word.e)]=some [.list ((aW ⟨up,⟨rs,f⟩,td⟩).map Word.e)]:=tZ hd.bare hL
end Dx
namespace Dx
open Go
def dm(hs:List House)(i:Int):House:=(hs[(i-1).toNat]?).getD ⟨0,false,0,⟨[],0⟩⟩
theorem bp(w:Wd)(i:Int):houseAt w i=dm w.hs i:=rfl
theorem uC{l:List House}{t:Int}(h1:1<=t)(h2:t<=l.length):l[(t-1).toNat]?=some (dm l t):=by
 have:(t-1).toNat<l.length:=by omega
 unfold dm;rw[List.getElem?_eq_getElem this];rfl
theorem mK{l:List House}{t:Int}(h1:1<=t)(h2:t<=l.length){kk:IntKind}{f:List C->Option Out}:aH (.list (l.map House.e)) (.int kk (t-1)) [.int .i64,.bool,.int .i64,.list,.int .i64] f=f (dm l t).e :=
 eg (by omega) (uC h1 h2) rfl
theorem jx{l:List House}{t:Int}{x:House}(h1:1<=t)(h2:t<=l.length){kk:IntKind}{f:List C->Option Out}:aH (.list ((l.set (t-1).toNat x).map House.e)) (.int kk (t-1)) [.int .i64,.bool,.int .i64,.list,.int .i64] f=f x.e:=by
 refine eg (by omega) ?_ rfl
 rw[List.getElem?_set];simp;omega
theorem lE(l:List House)(n:Nat)(id:Int)(up:Bool)(room:Int)(rs:List Rec)(f:Int):(l.map House.e).set n [.int .i64 id,.bool up,.int .i64 room,.list (rs.map Rec.e),.int .i64 f]=(l.set n ⟨id,up,room,⟨rs,f⟩⟩).map House.e:=by
 simp[List.map_set,House.e]
theorem eqD(a:Int)(k:Option Out):af (a==a) k=k:=by simp
theorem CC{l:List House}{t:Int}(h1:1<=t)(h2:t<=l.length):l.set (t-1).toNat (dm l t)=l:=by
 have hi:(t-1).toNat<l.length:=by omega
 have:dm l t=l[(t-1).toNat]:=by unfold dm;rw[List.getElem?_eq_getElem hi];rfl
 rw[this];exact List.set_getElem_self hi
section
variable {up:Bool} {rs:List Rec} {f:Int} {td:List Word} {hs:List House} {ns:List Word}
theorem nN(hL:ns.length<=1000){k h t m:Int} :
  ma [.bool up,.list (rs.map Rec.e),.int .i64 f,.list (td.map Word.e),.list (hs.map House.e),.list (ns.map Word.e),.int .i64 k,.int .i64 h,.int .i64 t,.int .i64 m]=some (mm ⟨⟨up,⟨rs,f⟩,td⟩,hs,ns⟩ ⟨k,h,t,m⟩).e:=by
 rw[q_gr]
 simp (disch:=first|assumption|omega|(simp only[zL];omega)) only[F_gr,mm,Int.reduceEq,reduceIte,zU,zT,aa]
 by_cases hn:ns.length<14
 ·have h':((ns.length:Nat):Int)<14:=by omega
  have hc:ns.length+1<=1099511627776:=by omega
  simp[hn,h',Wd.e,Word.e,ce,hc]
 ·have h':¬ (((ns.length:Nat):Int)<14):=by omega
  simp[hn,h',Wd.e]
theorem qr(hL:ns.length<=1000){i:Int}(h0:0<=i)(h1:i<ns.length) :
  ss [.bool up,.list (rs.map Rec.e),.int .i64 f,.list (td.map Word.e),.list (hs.map House.e),.list (ns.map Word.e),.int .i64 i]=some (gC ⟨⟨up,⟨rs,f⟩,td⟩,hs,ns⟩ i).e:=by
 rw[q_em]
 obtain⟨n,rfl⟩:=Int.eq_ofNat_of_zero_le h0
 have e1:(ns.map Word.e).take n=(ns.take n).map Word.e:=by simp
 have e2:(ns.map Word.e).drop (n+1)=(ns.drop (n+1)).map Word.e:=by simp
 have c1:(0:Int)<=((n+1:Nat):Int):=by omega
 have c2:((n+1:Nat):Int)<=(ns.length:Nat):=by omega
 have c3:(n:Int)<=(ns.length:Nat):=by omega
 have c4:(ns.take n).length<=1000:=by simp;omega
 have c5:(ns.drop (n+1)).length<=1000:=by simp;omega
 simp (disch:=first|assumption|omega|(simp only[zL];omega)) only[F_em,ap,Int.toNat_natCast,e1,e2,eH,Int.reduceEq,reduceIte,zU,zT,aa]
 simp[Wd.e,gC,List.eraseIdx_eq_take_drop_succ]
theorem kx(ho:WOk ⟨⟨up,⟨rs,f⟩,td⟩,hs,ns⟩)(hL:td.length<=1099511627774){k h t m:Int}(hx:WdOk ⟨k,h,t,m⟩) :
  mb [.bool up,.list (rs.map Rec.e),.int .i64 f,.list (td.map Word.e),.list (hs.map House.e),.list (ns.map Word.e),.int .i64 k,.int .i64 h,.int .i64 t,.int .i64 m] =
   some ((ba ⟨⟨up,⟨rs,f⟩,td⟩,hs,ns⟩ ⟨k,h,t,m⟩).1.e++((oW (ba ⟨⟨up,⟨rs,f⟩,td⟩,hs,ns⟩ ⟨k,h,t,m⟩).2).e++[.bool (ba ⟨⟨up,⟨rs,f⟩,td⟩,hs,ns⟩ ⟨k,h,t,m⟩).2.isSome])):=by
 rw[q_ek]
 have hd:DkOk ⟨up,⟨rs,f⟩,td⟩:=ho.dk
 have hl:hs.length=3:=ho.len
 have hh:=hx.h
 simp only at hh
 by_cases h4:k>=4
 ·simp (disch:=first|assumption|omega|(simp only[zL];omega)) only[F_ek,Bq,ba,h4,if_true,decide_true,Desk.e,Int.reduceEq,reduceIte,zU,zT,aa]
  simp[Wd.e,oW,Word.e]
 ·have hho:=(ho.houseAt (i:=h) hh).2.1
  rw[bp]at hho
  simp only at hho
  have hho':HsOk ⟨(dm hs h).id,(dm hs h).up,(dm hs h).room,⟨(dm hs h).lg.rs,(dm hs h).lg.f⟩⟩:=hho
  simp (disch:=first|assumption|omega|(simp only[zL];omega)) only[F_ek,ba,h4,if_false,wrap64,mK,House.e,Bp,eqD,List.cons_append,Word.e,lE,bp,Int.reduceEq,reduceIte,zU,zT,aa]
  simp[Wd.e,setHouse,House.e]
theorem uD(ho:LgOk ⟨rs,f⟩){keep:Int} :
  pC [.list (rs.map Rec.e),.int .i64 f,.int .i64 keep]=some (fC ⟨rs,f⟩ keep).e:=by
 rw[q_gx]
 have h1:=ho.lo
 have h2:=ho.hi
 have h3:=ho.len
 have hk:=ho.keep keep
 simp only at h1 h2 h3 hk
 unfold ez at hk
 have e1:∀ n:Nat,(rs.map Rec.e).take n=(rs.take n).map Rec.e:=fun n=>by simp
 simp only[F_gx,fC,ez,aK,List.length_map]
 by_cases h:keep>0
 ·simp only[h,if_true]at hk ⊢
  have em:(if((rs.length:Nat):Int)-f<keep then((rs.length:Nat):Int)-f else keep)=min keep (rs.length-f):=by rw[Int.min_def];split<;>split<;>omega
  rw[wrap64 (x:=((rs.length:Nat):Int)-f) (by omega) (by omega),em,wrap64 (by omega) (by omega)]
  rw[cY (by omega) (by omega),e1]
  simp[Log.e]
 ·simp only[h,if_false]at hk ⊢
  rw[cY (by omega) (by omega),e1]
  simp[Log.e]
theorem Br(ho:LgOk ⟨rs,f⟩){keep:Int} :
  vT [.bool up,.list (rs.map Rec.e),.int .i64 f,.list (td.map Word.e),.int .i64 keep]=some (dfall ⟨up,⟨rs,f⟩,td⟩ keep).e:=by
 rw[q_ey]
 simp (disch:=first|assumption|omega|(simp only[zL];omega)) only[F_ey,uD,Log.e,Int.reduceEq,reduceIte,zU,zT,aa]
 simp[dfall,Desk.e]
theorem mL(hl:hs.length=3)(hh:∀ h∈hs,h.lg.rs.length<=2000000){i:Int}(hi:0<=i/\i<=3) :
  pB [.bool up,.list (rs.map Rec.e),.int .i64 f,.list (td.map Word.e),.list (hs.map House.e),.list (ns.map Word.e),.int .i64 i]=some (ct ⟨⟨up,⟨rs,f⟩,td⟩,hs,ns⟩ i).e:=by
 rw[q_dr]
 by_cases h0:i=0
 ·subst h0
  have e0:in_ 0 1 3=false:=rfl
  cases up<;>simp (disch:=first|assumption|omega|(simp only[zL];omega)) only[F_dr,yI,bC,ct,bd,e0,if_true,Int.reduceEq,reduceIte,zU,zT,aa]<;>simp[Wd.e,fj]
 ·have e1:in_ i 1 3=true:=in_iff.2 (by omega)
  simp (disch:=first|assumption|omega|(simp only[zL];omega)) only[F_dr,yI,bC,ct,h0,if_false,e1,if_true,wrap64,mK,House.e,eqD,lE,jx,bp,Int.reduceEq,reduceIte,zU,zT,aa]
  unfold bA
  cases hu:(dm hs i).up with
  | true =>
   simp (disch:=first|assumption|omega|(simp only[zL];omega)) only[lE,jx,House.e,eqD,Int.reduceEq,reduceIte,zU,zT,aa]
   simp[Wd.e,setHouse,hu,fj]
  | false =>
   have:setHouse ⟨⟨up,⟨rs,f⟩,td⟩,hs,ns⟩ i (dm hs i)=⟨⟨up,⟨rs,f⟩,td⟩,hs,ns⟩:=by
    unfold setHouse;simp only;rw[CC (by omega) (by omega)]
   simp only[Bool.false_eq_true,if_false,this,aF,aG]
   rfl
theorem Bs(ho:WOk ⟨⟨up,⟨rs,f⟩,td⟩,hs,ns⟩){k a b:Int}{m:List (List C)} :
  pD [.bool up,.list (rs.map Rec.e),.int .i64 f,.list (td.map Word.e),.list (hs.map House.e),.list (ns.map Word.e),.int .i64 k,.int .i64 a,.int .i64 b,.list m]=some (cg ⟨⟨up,⟨rs,f⟩,td⟩,hs,ns⟩ ⟨k,a,b,[]⟩).e:=by
 rw[q_ew]
 have hd:DkOk ⟨up,⟨rs,f⟩,td⟩:=ho.dk
 have hlg:LgOk ⟨rs,f⟩:=hd.lg
 have hl:hs.length=3:=ho.len
 have hh:∀ h∈hs,h.lg.rs.length<=2000000:=fun h hm=>by
  obtain⟨i,hi⟩:=List.mem_iff_getElem?.1 hm
  have:=(ho.hs i h hi).1.lg.len;omega
 unfold cg
 simp only
 cases ha:in_ a 0 3 with
 | false=>simp (disch:=first|assumption|omega|(simp only[zL];omega)) only[zN,bC,ha,Bool.not_false,Int.reduceEq,reduceIte,zU,zT,aa];rfl
 | true =>
  have ha':=in_iff.1 ha
  simp only[if_true]
  by_cases h7:k=7
  ·subst h7
   simp (disch:=first|assumption|omega|(simp only[zL];omega)) only[zN,bC,ha,Bool.not_true,if_true,mL,Wd.e,Int.reduceEq,reduceIte,zU,zT,aa]
  ·by_cases h8:k=8
   ·subst h8
    by_cases a0:a=0
    ·subst a0
     simp (disch:=first|assumption|omega|(simp only[zL];omega)) only[zN,bC,ha,Bool.not_true,if_true,if_false,Br,Desk.e,Int.reduceEq,reduceIte,zU,zT,aa]
     simp[Wd.e]
    ·have hho:=(ho.houseAt (i:=a) (by omega)).2.1
     rw[bp]at hho
     have hlo:LgOk ⟨(dm hs a).lg.rs,(dm hs a).lg.f⟩:=hho.lg
     simp (disch:=first|assumption|omega|(simp only[zL];omega)) only[zN,bC,ha,Bool.not_true,if_true,if_false,a0,wrap64,mK,House.e,eqD,lE,jx,uD,Log.e,bp,List.length_set,Int.reduceEq,reduceIte,zU,zT,aa]
     simp[Wd.e,setHouse,hfall,House.e]
   ·by_cases h9:k=9
    ·subst h9
     by_cases a0:a=0
     ·subst a0
      simp (disch:=first|assumption|omega|(simp only[zL];omega)) only[zN,bC,ha,Bool.not_true,if_true,if_false,Int.reduceEq,reduceIte,zU,zT,aa]
      simp[Wd.e,dK]
     ·simp (disch:=first|assumption|omega|(simp only[zL];omega)) only[zN,bC,ha,Bool.not_true,if_true,if_false,a0,wrap64,mK,House.e,eqD,lE,bp,Int.reduceEq,reduceIte,zU,zT,aa]
      simp[Wd.e,setHouse,eU]
    ·simp (disch:=first|assumption|omega|(simp only[zL];omega)) only[zN,bC,ha,Bool.not_true,if_false,h7,h8,h9,Int.reduceEq,reduceIte,zU,zT,aa]
     rfl
theorem CD(ho:WOk ⟨⟨up,⟨rs,f⟩,td⟩,hs,ns⟩)(hL:td.length<=1099511627774){k a b:Int}{m:List (List C)} :
  pA [.bool up,.list (rs.map Rec.e),.int .i64 f,.list (td.map Word.e),.list (hs.map House.e),.list (ns.map Word.e),.int .i64 k,.int .i64 a,.int .i64 b,.list m]=some (lW ⟨⟨up,⟨rs,f⟩,td⟩,hs,ns⟩ ⟨k,a,b,[]⟩).e:=by
 rw[q_gd]
 have hnl:ns.length<=14:=ho.nlen
 unfold lW
 simp only
 by_cases h0:0<=a
 ·by_cases h1:a<ns.length
  ·have e1:in_ a 0 ((ns.length:Nat)-1)=true:=in_iff.2 (by omega)
   obtain⟨n,rfl⟩:=Int.eq_ofNat_of_zero_le h0
   have hn:n<ns.length:=by omega
   have hx:ns[n]?=some ns[n]:=by simp[hn]
   have hxw:=ho.ns ns[n] (List.mem_of_getElem? hx)
   have hxw':WdOk ⟨ns[n].k,ns[n].h,ns[n].t,ns[n].m⟩:=hxw
   simp only[Int.toNat_natCast,h0,if_true,hx]
   by_cases h5:k=5
   ·subst h5
    simp (disch:=first|assumption|omega|(simp only[zL];omega)) only[Dn,bC,wrap64,e1,Bool.not_true,gG hx,Word.e,if_true,qr,Wd.e,Int.reduceEq,reduceIte,zU,zT,aa]
   ·by_cases h6:k=6
    ·subst h6
     simp (disch:=first|assumption|omega|(simp only[zL];omega)) only[Dn,bC,wrap64,e1,Bool.not_true,gG hx,Word.e,if_true,if_false,h5,nN,Wd.e,Int.reduceEq,reduceIte,zU,zT,aa]
    ·have ho2:=ho.take (n:Int)
     generalize hw2:gC ⟨⟨up,⟨rs,f⟩,td⟩,hs,ns⟩ (n:Int)=w2 at ho2
     have htk:=qr (up:=up) (rs:=rs) (f:=f) (td:=td) (hs:=hs) (ns:=ns) (by omega) h0 h1
     rw[hw2]at htk
     have ho2':WOk ⟨⟨w2.dk.up,⟨w2.dk.lg.rs,w2.dk.lg.f⟩,w2.dk.td⟩,w2.hs,w2.ns⟩:=ho2
     have hL2:w2.dk.td.length<=1099511627774:=by rw[<-hw2];exact hL
     have hhe:=ho2.hear hxw
     have hm:=kx ho2' hL2 hxw'
     simp only[jG,jH,iu,te]at hm
     generalize (ba w2 ns[n])=p at hhe hm
     obtain⟨w3,o⟩:=p
     have hn3:w3.ns.length<=1000:=by have:=hhe.1.nlen;simp only at this;omega
     simp only[Wd.e,Word.e,List.cons_append,List.nil_append]at hm htk
     simp (disch:=first|assumption|omega|(simp only[zL];omega)) only[Dn,bC,wrap64,e1,Bool.not_true,gG hx,Word.e,h5,h6,if_false,htk,hm,Int.reduceEq,reduceIte,zU,zT,aa]
     cases o with
     | none=>simp[E6,Wd.e]
     | some y =>
      simp (disch:=first|assumption|omega|(simp only[zL];omega)) only[Option.isSome_some,oW,Option.getD_some,nN,Wd.e,E6,Int.reduceEq,reduceIte,zU,zT,aa]
  ·have e1:in_ a 0 ((ns.length:Nat)-1)=false:=in_false.2 (by omega)
   have hx:ns[a.toNat]?=none:=List.getElem?_eq_none (by omega)
   simp (disch:=first|assumption|omega|(simp only[zL];omega)) only[Dn,bC,wrap64,e1,Bool.not_false,h0,if_true,hx,Int.reduceEq,reduceIte,zU,zT,aa]
   rfl
 ·have e1:in_ a 0 ((ns.length:Nat)-1)=false:=in_false.2 (by omega)
  simp (disch:=first|assumption|omega|(simp only[zL];omega)) only[Dn,bC,wrap64,e1,Bool.not_false,h0,if_false,Int.reduceEq,reduceIte,zU,zT,aa]
  rfl
theorem Bt(ho:WOk ⟨⟨up,⟨rs,f⟩,td⟩,hs,ns⟩)(hL:td.length<=1099511627774){k a b:Int}{m:List Int}(hm:m.length<=2000000) :
  vO [.bool up,.list (rs.map Rec.e),.int .i64 f,.list (td.map Word.e),.list (hs.map House.e),.list (ns.map Word.e),.int .i64 k,.int .i64 a,.int .i64 b,.list (m.map eI)]=some (iO ⟨⟨up,⟨rs,f⟩,td⟩,hs,ns⟩ ⟨k,a,b,m⟩).e:=by
 rw[q_ff]
 have hd:DkOk ⟨up,⟨rs,f⟩,td⟩:=ho.dk
 have hlg:LgOk ⟨rs,f⟩:=hd.lg
 have hS:=hlg.S
 have tA:TrOk (aC ⟨rs,f⟩ false):=hd.trOk false
 have lA:=tA.len
 have hnl:ns.length<=14:=ho.nlen
 unfold iO
 simp only
 by_cases h1:k=1
 ·subst h1
  simp (disch:=first|assumption|omega|(simp only[zL];omega)) only[Cc,jI,mC,wrap64,eH,if_true,fO,eE,aj,Int.reduceEq,reduceIte,zU,zT,aa]
  rcases Bool.eq_false_or_eq_true (aD ⟨4,((aC ⟨rs,f⟩ false).length:Int)+1,m⟩)with hr|hr
  ·simp (disch:=first|assumption|omega|(simp only[zL];omega)) only[hr,eJ,Desk.e,List.cons_append,if_true,Int.reduceEq,reduceIte,zU,zT,aa]
   simp[Wd.e]
  ·simp[hr,Wd.e]
 ·by_cases h2:k=2
  ·subst h2
   simp (disch:=first|assumption|omega|(simp only[zL];omega)) only[Cc,bC,if_true,if_false,jB,Int.reduceEq,reduceIte,zU,zT,aa]
   cases hi:in_ a 1 6 with
   | false=>simp[Wd.e]
   | true =>
    have hw:=eJ hd (k:=6) (t:=a) (m:=[]) (by simp[aD,in_iff,in_iff.1 hi])
    simp only[List.map_nil,Desk.e,List.cons_append,List.nil_append]at hw
    simp (disch:=first|assumption|omega|(simp only[zL];omega)) only[hw,Int.reduceEq,reduceIte,zU,zT,aa]
    simp[Wd.e]
  ·by_cases h3:k=3
   ·subst h3
    have hwl:(aW ⟨up,⟨rs,f⟩,td⟩).length<=1000:=by have:=gc hd;omega
    generalize hwd:aW ⟨up,⟨rs,f⟩,td⟩=l at hwl
    have hmw:=mJ hd (by omega)
    rw[hwd]at hmw
    by_cases h0:0<=a
    ·by_cases hlt:a<l.length
     ·have e1:in_ a 0 ((l.length:Nat)-1)=true:=in_iff.2 (by omega)
      obtain⟨n,rfl⟩:=Int.eq_ofNat_of_zero_le h0
      have hn:n<l.length:=by omega
      have hx:l[n]?=some l[n]:=by simp[hn]
      simp (disch:=first|assumption|omega|(simp only[zL];omega)) only[Cc,hmw,bC,wrap64,e1,Int.toNat_natCast,h0,if_true,if_false,hx,gG hx,Word.e,nN,Wd.e,Int.reduceEq,reduceIte,zU,zT,aa]
     ·have e1:in_ a 0 ((l.length:Nat)-1)=false:=in_false.2 (by omega)
      have hx:l[a.toNat]?=none:=List.getElem?_eq_none (by omega)
      simp (disch:=first|assumption|omega|(simp only[zL];omega)) only[Cc,hmw,bC,wrap64,e1,h0,if_true,if_false,hx,Int.reduceEq,reduceIte,zU,zT,aa]
      rfl
    ·have e1:in_ a 0 ((l.length:Nat)-1)=false:=in_false.2 (by omega)
     simp (disch:=first|assumption|omega|(simp only[zL];omega)) only[Cc,hmw,bC,wrap64,e1,h0,if_true,if_false,Int.reduceEq,reduceIte,zU,zT,aa]
     rfl
   ·simp (disch:=first|assumption|omega|(simp only[zL];omega)) only[Cc,h1,h2,h3,if_false,Int.reduceEq,reduceIte,zU,zT,aa]
    rfl
theorem FR(ho:WOk ⟨⟨up,⟨rs,f⟩,td⟩,hs,ns⟩)(hL:td.length<=1099511627774){k a b:Int}{m:List Int}(hm:m.length<=2000000) :
  me [.bool up,.list (rs.map Rec.e),.int .i64 f,.list (td.map Word.e),.list (hs.map House.e),.list (ns.map Word.e),.int .i64 k,.int .i64 a,.int .i64 b,.list (m.map eI)]=some (wdo ⟨⟨up,⟨rs,f⟩,td⟩,hs,ns⟩ ⟨k,a,b,m⟩).e:=by
 rw[q_hg]
 have hA:=fun k=>Bt ho hL (k:=k) (a:=a) (b:=b) hm
 have hB:=fun k=>CD ho hL (k:=k) (a:=a) (b:=b) (m:=m.map eI)
 have hC:=fun k=>Bs ho (k:=k) (a:=a) (b:=b) (m:=m.map eI)
 have eB:∀ k,lW ⟨⟨up,⟨rs,f⟩,td⟩,hs,ns⟩ ⟨k,a,b,[]⟩=lW ⟨⟨up,⟨rs,f⟩,td⟩,hs,ns⟩ ⟨k,a,b,m⟩:=fun _=>rfl
 have eC:∀ k,cg ⟨⟨up,⟨rs,f⟩,td⟩,hs,ns⟩ ⟨k,a,b,[]⟩=cg ⟨⟨up,⟨rs,f⟩,td⟩,hs,ns⟩ ⟨k,a,b,m⟩:=fun _=>rfl
 simp only[eB,eC,Wd.e]at hA hB hC
 unfold wdo
 simp only[F_hg,bo]
 by_cases c1:k=1\/k=2\/k=3
 ·simp only[c1,if_true]
  rcases c1 with e|e|e<;>subst e<;>simp (disch:=first|assumption|omega|(simp only[zL];omega)) only[yJ,hA,Wd.e,if_true,if_false,BEq.rfl,Int.reduceEq,reduceIte,zU,zT,aa]
 ·simp only[c1,if_false]
  have n1:¬ k=1:=by omega
  have n2:¬ k=2:=by omega
  have n3:(k==3)=false:=by simpa using(by omega:¬ k=3)
  simp only[n1,n2,n3,if_false,aZ,aa,C.toBool_bool,yJ,aF,bo]
  by_cases c2:k=4\/k=5\/k=6
  ·simp only[c2,if_true]
   rcases c2 with e|e|e<;>subst e<;>simp (disch:=first|assumption|omega|(simp only[zL];omega)) only[hB,Wd.e,if_true,if_false,Int.reduceEq,reduceIte,zU,zT,aa]
  ·simp only[c2,if_false]
   have n4:¬ k=4:=by omega
   have n5:¬ k=5:=by omega
   have n6:¬ k=6:=by omega
   simp only[n4,n5,n6,if_false]
   by_cases c3:k=7\/k=8\/k=9
   ·simp only[c3,if_true]
    rcases c3 with e|e|e<;>subst e<;>simp (disch:=first|assumption|omega|(simp only[zL];omega)) only[hC,Wd.e,if_true,if_false,Int.reduceEq,reduceIte,zU,zT,aa]
   ·simp only[c3,if_false]
    have n7:¬ k=7:=by omega
    have n8:¬ k=8:=by omega
    have n9:¬ k=9:=by omega
    simp only[n7,n8,n9,if_false]
    rfl
end
end Dx
namespace Dx
open Go
@[simp] theorem uE (o:Out) (k:List C->Option Out):bH (some (.up o)) k=some o:=rfl
theorem Bu:xg []=some deskNew.e:=by rw[q_es];rfl
theorem xH{id room:Int}:xh [.int .i64 id,.int .i64 room] =
  some (if in_ id 1 3 && in_ room 0 9 then(⟨id,true,room,⟨[],0⟩⟩:House).e++[.bool true] else(⟨0,false,0,⟨[],0⟩⟩:House).e++[.bool false]):=by
 rw[q_dp]
 simp (disch:=first|assumption|omega|(simp only[zL];omega)) only[F_dp,mG,bC,Stock.e,List.cons_append,Int.reduceEq,reduceIte,zU,zT,aa]
 cases in_ id 1 3<;>cases in_ room 0 9<;>rfl
def nh:Nat->List Int->List House
 | _,[]=>[]
 | i,r::rs=>⟨((i+1:Nat):Int),true,r,⟨[],0⟩⟩::nh (i+1) rs
theorem E8:∀(rs:List Int) (i:Nat),nh i rs=(rs.zipIdx (i+1)).map fun p=>⟨p.2,true,p.1,⟨[],0⟩⟩
 | [],i=>rfl
 | r::rs,i=>by simp[nh,E8 rs (i+1)]
def wd0:Wd:=⟨⟨false,⟨[],0⟩,[]⟩,[],[]⟩
theorem xI{rooms:List Int}(hL:rooms.length<=1099511627775):xi [.list (rooms.map eI)]=some (((bg rooms).getD wd0).e++[.bool (bg rooms).isSome]):=by
 rw[q_dz]
 simp (disch:=first|assumption|omega|(simp only[zL];omega)) only[F_dz,Bu,Desk.e,deskNew,Int.reduceEq,reduceIte,zU,zT,aa]
 have key:=ak (l:=rooms) (F:=fun ps=>s5 (rooms.map eI) true [] 0 [] ((aa ps 0).toInt) ((aa ps 1).toList)) (enc:=fun i (s:List House)=>[.int .i64 i,.list (s.map House.e)])
  (res:=fun xs i s=>.ret (((if rooms.length=3/\xs.all (fun n=>in_ n 0 9)=true then some (⟨deskNew,s++nh i xs,[]⟩:Wd) else none).getD wd0).e++[.bool (if rooms.length=3/\xs.all (fun n=>in_ n 0 9)=true then some (⟨deskNew,s++nh i xs,[]⟩:Wd) else none).isSome])) (fun i s=>s.length=i) (s:=[]) (by simp) ?_ ?_
 ·have key:am _ [C.int .i64 0,C.list []]=_:=key
  simp only[List.map_nil]at key ⊢
  rw[key]
  have:(if rooms.length=3/\rooms.all (fun n=>in_ n 0 9)=true then some (⟨deskNew,[]++nh 0 rooms,[]⟩:Wd) else none)=bg rooms:=by
   unfold bg c8
   rw[E8];simp
  rw[this];rfl
 ·intro i x xs s hx hs
  have hi:=(List.getElem?_eq_some_iff.1 hx).1
  have hi':(i:Int)<(rooms.length:Nat):=by omega
  simp only[s5,aa,C.toInt_int,C.toList_list,List.length_map,aK,hi',if_true,gF hx,eI]
  simp (disch:=first|assumption|omega|(simp only[zL];omega)) only[ap,xH]
  by_cases hok:(in_ ((i+1:Nat):Int) 1 3 && in_ x 0 9)=true
  ·have hr:=in_iff.1 (Bool.and_eq_true_iff.1 hok).1
   rw[if_pos hok]
   simp only[House.e,List.cons_append,List.nil_append,kv,aa,C.toInt_int,C.toList_list,C.toBool_bool,List.map_nil,Bool.not_true,aF]
   rw[bQ (by simp[ce];omega)]
   refine .inl ⟨s++[⟨((i+1:Nat):Int),true,x,⟨[],0⟩⟩],by simp[House.e],by simp[hs],?_⟩
   have:=(Bool.and_eq_true_iff.1 hok).2
   simp[nh,this]
  ·rw[if_neg hok]
   refine .inr ⟨_,rfl,?_⟩
   have:¬ (rooms.length=3/\(x::xs).all (fun n=>in_ n 0 9)=true):=by
    intro ⟨h3,ha⟩
    simp only[List.all_cons,Bool.and_eq_true]at ha
    exact hok (Bool.and_eq_true_iff.2 ⟨in_iff.2 (by omega),ha.1⟩)
   simp only[this,if_false];rfl
 ·intro s hs
  have h:¬ ((rooms.length:Int)<(rooms.length:Nat)):=by omega
  simp only[s5,aa,C.toInt_int,C.toList_list,List.length_map,aK,h,if_false,zR]
  by_cases h3:rooms.length=3
  ·have h3':((rooms.length:Nat):Int)=3:=by omega
   simp[h3,upD,nh,Wd.e,deskNew]
  ·have h3':¬ ((rooms.length:Nat):Int)=3:=by omega
   simp[h3,h3',upD,Wd.e,wd0]
end Dx
namespace Dx
open Go
def EvS(e:Ev):Prop:=e.m.length<=2000000
section
variable {bs:List Int}
def EvOut(bs:List Int)(p:Int)(r:Option (List C)):Prop:=∃(e:Ev) (p':Int),r=some (e.e++[.list (bs.map eB),.int .i64 p'])/\p<=p'/\p'<=p+10/\EvS e
theorem EvOut.ite{p:Int}{c:Prop}[Decidable c]{a b:Option (List C)}(ha:EvOut bs p a)(hb:EvOut bs p b):EvOut bs p (if c then a else b):=by split<;>assumption
def EvOut'(bs:List Int)(p:Int)(r:Option (List C)):Prop:=∃(e:Ev) (p':Int),r=some (e.e++[.list (bs.map eB),.int .i64 p'])/\p<=p'/\p'<=p+20/\EvS e
theorem EvOut.up{p q:Int}{r:Option (List C)}(h:EvOut bs p r)(h1:q<=p)(h2:p<=q+10):EvOut' bs q r:=by
 obtain⟨e,p',e1,e2,e3,e4⟩:=h
 exact⟨e,p',e1,by omega,by omega,e4⟩
theorem EvOut'.ite{p:Int}{c:Prop}[Decidable c]{a b:Option (List C)}(ha:EvOut' bs p a)(hb:EvOut' bs p b):EvOut' bs p (if c then a else b):=by split<;>assumption
end
structure Drawn (w0:Wd) (es:List Ev) (w:Wd) (n:Nat):Prop where
 play:w=gD w0 es
 len:es.length<=n
 sz:∀ e∈es,EvS e
theorem uF{w:Wd}(ho:WOk w){e:Ev}(he:EvS e) :
  me [.bool w.dk.up,.list (w.dk.lg.rs.map Rec.e),.int .i64 w.dk.lg.f,.list (w.dk.td.map Word.e),.list (w.hs.map House.e),.list (w.ns.map Word.e),.int .i64 e.k,.int .i64 e.a,.int .i64 e.b,.list (e.m.map eI)]=some (wdo w e).e :=
 FR (up:=w.dk.up) (rs:=w.dk.lg.rs) (f:=w.dk.lg.f) (td:=w.dk.td) (hs:=w.hs) (ns:=w.ns) ho (by have:=ho.dk.tdlen;omega) he
theorem mM{l:List Ev}{i:Nat}{x:Ev}(h:l[i]?=some x){kk:IntKind}{f:List C->Option Out}:aH (.list (l.map Ev.e)) (.int kk i) [.int .i64,.int .i64,.int .i64,.list] f=f x.e:=eO h rfl
theorem t5{rooms:List Int}{es:List Ev}(hr:rooms.length<=1099511627775)(hl:es.length<=1099511627776)(hs:∀ e∈es,EvS e) :
  xj [.list (rooms.map eI),.list (es.map Ev.e)]=some (((bN rooms es).getD wd0).e++[.bool (bN rooms es).isSome]):=by
 rw[q_ci]
 have hwn:=xI (rooms:=rooms) hr
 simp only[Wd.e,List.cons_append,List.nil_append]at hwn
 simp (disch:=first|assumption|omega|(simp only[zL];omega)) only[F_ci,hwn,Int.reduceEq,reduceIte,zU,zT,aa]
 unfold bN
 cases hw:bg rooms with
 | none=>simp[Wd.e,wd0]
 | some w0 =>
  have ok0:=dH hw
  simp only[Option.isSome_some,Bool.not_true,aI,aF,Option.getD_some,Option.map_some]
  by_cases h80:((es.length:Nat):Int)>80
  ·have h80':es.length>80:=by omega
   simp[h80,h80',Wd.e,wd0]
  ·have h80':¬ es.length>80:=by omega
   simp only[h80,h80',if_false]
   have key:=ak (l:=es) (F:=fun ps=>s6 (es.map Ev.e) ((aa ps 0).toInt) ((aa ps 1).toBool) ((aa ps 2).toInt) ((aa ps 3).toList) ((aa ps 4).toList) ((aa ps 5).toList) ((aa ps 6).toList))
    (enc:=fun i (w:Wd)=>[.int .i64 i,.bool w.dk.up,.int .i64 w.dk.lg.f,.list (w.dk.lg.rs.map Rec.e),.list (w.dk.td.map Word.e),.list (w.hs.map House.e),.list (w.ns.map Word.e)])
    (res:=fun xs _ w=>.ret ((gD w xs).e++[.bool true])) (fun _ w=>WOk w) (s:=w0) ok0 ?_ ?_
   ·have key:am _ [C.int .i64 0,C.bool w0.dk.up,C.int .i64 w0.dk.lg.f,C.list (w0.dk.lg.rs.map Rec.e),C.list (w0.dk.td.map Word.e),C.list (w0.hs.map House.e),C.list (w0.ns.map Word.e)]=_:=key
    rw[key];rfl
   ·intro i x xs w hx ow
    have hi:=(List.getElem?_eq_some_iff.1 hx).1
    have hi':(i:Int)<(es.length:Nat):=by omega
    have hx3:=hs x (List.mem_of_getElem? hx)
    simp only[aa,C.toInt_int,C.toBool_bool,C.toList_list]
    unfold s6
    simp only[aK,List.length_map,hi',if_true,mM hx,Ev.e,aa,C.toInt_int,C.toList_list,uF ow hx3]
    simp only[Wd.e,bE,aa,C.toInt_int,C.toList_list,C.toBool_bool]
    rw[ap (by omega)]
    exact .inl ⟨wdo w x,rfl,ow.do_ x,rfl⟩
   ·intro w ow
    have h:¬ ((es.length:Int)<(es.length:Nat)):=by omega
    simp only[aa,C.toInt_int,C.toBool_bool,C.toList_list]
    unfold s6
    simp only[aK,List.length_map,h,if_false,jX]
    rfl
end Dx
namespace Dx
open Go
def lX{α:Type}(p:α->Bool):Nat->List α->Int
 | _,[]=>-1
 | i,x::xs=>if p x then(i:Int) else lX p (i+1) xs
theorem dP{α:Type}(p:α->Bool):∀(xs:List α) (i:Nat),(lX p i xs>=0)↔xs.any p=true
 | [],i=>by simp[lX]
 | x::xs,i=>by
  simp only[lX,List.any_cons,Bool.or_eq_true]
  by_cases h:p x=true
  ·rw[if_pos h];simp[h]
  ·rw[if_neg h,dP p xs (i+1)];simp[h]
theorem gn{α:Type}{F:List C->Option Out}{l:List α}(p:α->Bool)
  (hs:∀(i:Nat) (x:α),l[i]?=some x->F [.int .i64 i]=if p x then some (.up (.ret [.int .i64 i])) else some (.jump [.int .i64 ((i+1:Nat):Int)]))
  (hf:F [.int .i64 (l.length:Nat)]=some (.up (.ret [.int .i64 (-1)]))):am F [.int .i64 0]=some (.ret [.int .i64 (lX p 0 l)]):=by
 have:=ak (l:=l) (F:=F) (enc:=fun i (_:Unit)=>[.int .i64 i]) (res:=fun xs i _=>.ret [.int .i64 (lX p i xs)]) (fun _ _=>True) (s:=()) trivial
  (fun i x xs s hx _=>by
   rw[hs i x hx]
   cases h:p x with
   | true=>exact .inr ⟨_,rfl,by simp[lX,h]⟩
   | false=>exact .inl ⟨(),rfl,trivial,by simp[lX,h]⟩)
  (fun s _=>hf)
 exact this
theorem jY(n lo hi:Int):bv [.int .i64 n,.int .i64 lo,.int .i64 hi]=some [.bool (in_ n lo hi)]:=by
 rw[q_ho]
 simp only[F_ho,ge_iff_le,in_]
 cases decide (lo<=n)<;>rfl
theorem nO(n:Int):gw [.int .i64 n]=some [.bool (in_ n 1 6)]:=by
 rw[q_gv];simp (disch:=first|assumption|omega|(simp only[zL];omega)) only[F_gv,jY,Int.reduceEq,reduceIte,zU,zT,aa]
theorem cP(n:Int):eS [.int .i64 n]=some [.bool (in_ n 1 3)]:=by
 rw[q_fe];simp (disch:=first|assumption|omega|(simp only[zL];omega)) only[F_fe,jY,Int.reduceEq,reduceIte,zU,zT,aa]
theorem i_w1(n:Int):vV [.int .i64 n]=some [.bool (!in_ n 0 3)]:=by
 rw[q_bu];simp (disch:=first|assumption|omega|(simp only[zL];omega)) only[F_bu,jY,Int.reduceEq,reduceIte,zU,zT,aa]
theorem i_w2(n:Int):vY [.int .i64 n]=some [.bool (n != 0)]:=by
 rw[q_by];simp (disch:=first|assumption|omega|(simp only[zL];omega)) only[F_by,Int.reduceEq,reduceIte,zU,zT,aa]
theorem i_ix1{m:List Int}(hL:m.length<=1099511627776):vW [.list (m.map eI)]=some [.int .i64 (lX (fun n=>!in_ n 0 3) 0 m)]:=by
 rw[q_ao];unfold F_ao
 simp only[List.length_map]
 rw[gn (l:=m) (fun n=>!in_ n 0 3)]
 ·rfl
 ·intro i x hx
  have hi:=(List.getElem?_eq_some_iff.1 hx).1
  have hi':(i:Int)<(m.length:Nat):=by omega
  simp (disch:=first|assumption|omega|(simp only[zL];omega)) only[yK,gF hx,eI,ap,hi',if_true,i_w1,Int.reduceEq,reduceIte,zU,zT,aa]
  cases in_ x 0 3<;>rfl
 ·have h:¬ ((m.length:Int)<(m.length:Nat)):=by omega
  simp (disch:=first|assumption|omega|(simp only[zL];omega)) only[yK,h,if_false,Int.reduceEq,reduceIte,zU,zT,aa]
theorem i_ix2{m:List Int}(hL:m.length<=1099511627776):vZ [.list (m.map eI)]=some [.int .i64 (lX (fun n=>n != 0) 0 m)]:=by
 rw[q_an];unfold F_an
 simp only[List.length_map]
 rw[gn (l:=m) (fun n=>n != 0)]
 ·rfl
 ·intro i x hx
  have hi:=(List.getElem?_eq_some_iff.1 hx).1
  have hi':(i:Int)<(m.length:Nat):=by omega
  simp (disch:=first|assumption|omega|(simp only[zL];omega)) only[yL,gF hx,eI,ap,hi',if_true,i_w2,Int.reduceEq,reduceIte,zU,zT,aa]
  by_cases h:x=0<;>simp[h]
 ·have h:¬ ((m.length:Int)<(m.length:Nat)):=by omega
  simp (disch:=first|assumption|omega|(simp only[zL];omega)) only[yL,h,if_false,Int.reduceEq,reduceIte,zU,zT,aa]
theorem i_cf1{m:List Int}(hL:m.length<=1099511627776):vX [.list (m.map eI)]=some [.bool (m.any fun n=>!in_ n 0 3)]:=by
 rw[q_al];simp (disch:=first|assumption|omega|(simp only[zL];omega)) only[F_al,i_ix1,dP,Bool.decide_eq_true,Int.reduceEq,reduceIte,zU,zT,aa]
theorem i_cf2{m:List Int}(hL:m.length<=1099511627776):v6 [.list (m.map eI)]=some [.bool (m.any fun n=>n != 0)]:=by
 rw[q_ak];simp (disch:=first|assumption|omega|(simp only[zL];omega)) only[F_ak,i_ix2,dP,Bool.decide_eq_true,Int.reduceEq,reduceIte,zU,zT,aa]
theorem mN{m:List Int}(hL:m.length<=1099511627776):pE [.list (m.map eI)]=some [.bool (cH m)]:=by
 rw[q_de]
 simp (disch:=first|assumption|omega|(simp only[zL];omega)) only[F_de,i_cf1,i_cf2,Int.reduceEq,reduceIte,zU,zT,aa]
 by_cases h:m.length=3
 ·have h':((m.length:Nat):Int)=3:=by omega
  simp only[h',if_true]
  match m,h with
  | [a,b,c],_ =>
   have e1:∀ x:Int,in_ x 0 3=true->0<=x:=fun x hx=>(in_iff.1 hx).1
   cases ha:in_ a 0 3<;>cases hb:in_ b 0 3<;>cases hc:in_ c 0 3<;>simp[cH,ha,hb,hc]
   have:=e1 a ha;have:=e1 b hb;have:=e1 c hc
   rw[Bool.eq_iff_iff];simp;omega
 ·have h':¬ ((m.length:Nat):Int)=3:=by omega
  simp[h,h',cH]
theorem jZ{k t:Int}{m:List Int}(hL:m.length<=1099511627776):gx [.int .i64 k,.int .i64 t,.list (m.map eI)]=some [.bool (aD ⟨k,t,m⟩)]:=by
 rw[q_he]
 simp (disch:=first|assumption|omega|(simp only[zL];omega)) only[F_he,jY,nO,mN,aD,Int.reduceEq,reduceIte,zU,zT,aa]
 by_cases h1:k=1
 ·subst h1
  have e1:in_ 1 1 7=true:=rfl
  simp only[if_true,e1]
  match m with
  | []=>cases in_ t 1 6<;>rfl
  | [n]=>simp (disch:=first|assumption|omega|(simp only[zL];omega)) only[List.length_cons,List.length_nil,FP,eI,jY,Int.reduceEq,reduceIte,zU,zT,aa]
         cases in_ t 1 6<;>simp
  | a::b::l =>
   have:¬ ((((a::b::l).length:Nat):Int)=1):=by simp;omega
   simp only[this,if_false]
   cases in_ t 1 6<;>simp
 ·by_cases h4:k=4
  ·subst h4
   have e1:in_ 4 1 7=true:=rfl
   simp only[e1]
   cases in_ t 1 6<;>simp
  ·simp only[h1,h4,if_false]
   have e1:in_ k 1 7=in_ k 2 7:=by rw[Bool.eq_iff_iff,in_iff,in_iff];omega
   rw[e1]
   have e2:(((m.length:Nat):Int)==0)=m.isEmpty:=by cases m<;>simp;omega
   rw[e2]
   cases in_ t 1 6<;>cases in_ k 2 7<;>simp
theorem CE{k t:Int}{m:List Int}(hL:m.length<=1099511627776):v7 [.int .i64 k,.int .i64 t,.list (m.map eI)]=some [.bool (!aD ⟨k,t,m⟩)]:=by
 rw[q_fl];simp (disch:=first|assumption|omega|(simp only[zL];omega)) only[F_fl,jZ,Int.reduceEq,reduceIte,zU,zT,aa]
theorem i_ixR{rs:List Rec}(hL:rs.length<=1099511627776)(hm:∀ r∈rs,r.m.length<=1099511627776):v8 [.list (rs.map Rec.e)]=some [.int .i64 (lX (fun r=>!aD r) 0 rs)]:=by
 rw[q_am];unfold F_am
 simp only[List.length_map]
 rw[gn (l:=rs) (fun r=>!aD r)]
 ·rfl
 ·intro i x hx
  have hi:=(List.getElem?_eq_some_iff.1 hx).1
  have hi':(i:Int)<(rs.length:Nat):=by omega
  have hxm:=hm x (List.mem_of_getElem? hx)
  simp (disch:=first|assumption|omega|(simp only[zL];omega)) only[yM,fE hx,Rec.e,ap,hi',if_true,CE,Int.reduceEq,reduceIte,zU,zT,aa]
  cases aD x<;>rfl
 ·have h:¬ ((rs.length:Int)<(rs.length:Nat)):=by omega
  simp (disch:=first|assumption|omega|(simp only[zL];omega)) only[yM,h,if_false,Int.reduceEq,reduceIte,zU,zT,aa]
theorem i_cfR{rs:List Rec}(hL:rs.length<=1099511627776)(hm:∀ r∈rs,r.m.length<=1099511627776):v9 [.list (rs.map Rec.e)]=some [.bool (rs.any fun r=>!aD r)]:=by
 rw[q_ag];simp (disch:=first|assumption|omega|(simp only[zL];omega)) only[F_ag,i_ixR,dP,Bool.decide_eq_true,Int.reduceEq,reduceIte,zU,zT,aa]
theorem j8{rs:List Rec}{f:Int}(hl:LgS ⟨rs,f⟩):gy [.list (rs.map Rec.e),.int .i64 f]=some [.bool (fB ⟨rs,f⟩)]:=by
 rw[q_hi]
 have h1:rs.length<=1099511627776:=by have:=hl.1;simp only at this;omega
 have h2:∀ r∈rs,r.m.length<=1099511627776:=hl.2
 simp (disch:=first|assumption|omega|(simp only[zL];omega)) only[F_hi,jY,i_cfR h1 h2,fB,Int.reduceEq,reduceIte,zU,zT,aa]
 have e:rs.any (fun r=>!aD r)=!rs.all aD:=by simp[List.any_eq_not_all_not]
 rw[e,Bool.not_not]
 by_cases h40:rs.length<=40
 ·have h40':((rs.length:Nat):Int)<=40:=by omega
  simp only[h40,h40',if_true,decide_true,Bool.true_and]
  cases in_ f 0 (rs.length:Nat)<;>simp
 ·have h40':¬ ((rs.length:Nat):Int)<=40:=by omega
  simp only[h40,h40',if_false,decide_false,Bool.false_and,Bool.and_false]
def TrS(l:List Trip):Prop:=l.length<=2000000/\∀ t∈l,t.m.length<=1099511627776
theorem TrOk.S{l:List Trip}(h:TrOk l):TrS l:=⟨by have:=h.len;omega,fun t ht=>by have:=bw (tripOk_iff.1 (h.ok t ht)).1;omega⟩
theorem xJ{m:List Int}{s:Int}(hL:m.length<=1099511627776):wa [.list (m.map eI),.int .i64 s]=some [.bool (!ec ⟨m,s⟩)]:=by
 rw[q_cp];simp (disch:=first|assumption|omega|(simp only[zL];omega)) only[F_cp,mN,jY,ec,Int.reduceEq,reduceIte,zU,zT,aa]
 cases cH m<;>simp
theorem i_ixT{l:List Trip}(hl:TrS l):wc [.list (l.map Trip.e)]=some [.int .i64 (lX (fun t=>!ec t) 0 l)]:=by
 rw[q_ah];unfold F_ah
 have h1:=hl.1
 simp only[List.length_map]
 rw[gn (l:=l) (fun t=>!ec t)]
 ·rfl
 ·intro i x hx
  have hi:=(List.getElem?_eq_some_iff.1 hx).1
  have hi':(i:Int)<(l.length:Nat):=by omega
  have hxm:=hl.2 x (List.mem_of_getElem? hx)
  simp (disch:=first|assumption|omega|(simp only[zL];omega)) only[yN,xF hx,Trip.e,ap,hi',if_true,xJ,Int.reduceEq,reduceIte,zU,zT,aa]
  cases ec x<;>rfl
 ·have h:¬ ((l.length:Int)<(l.length:Nat)):=by omega
  simp (disch:=first|assumption|omega|(simp only[zL];omega)) only[yN,h,if_false,Int.reduceEq,reduceIte,zU,zT,aa]
theorem Bv{l:List Trip}(hl:TrS l):we [.list (l.map Trip.e)]=some [.bool (dM l)]:=by
 rw[q_fg]
 have hc:wd [.list (l.map Trip.e)]=some [.bool (l.any fun t=>!ec t)]:=by
  rw[q_ad];simp (disch:=first|assumption|omega|(simp only[zL];omega)) only[F_ad,i_ixT,dP,Bool.decide_eq_true,Int.reduceEq,reduceIte,zU,zT,aa]
 simp (disch:=first|assumption|omega|(simp only[zL];omega)) only[F_fg,hc,dM,Int.reduceEq,reduceIte,zU,zT,aa]
 have e:l.any (fun t=>!ec t)=!l.all ec:=by simp[List.any_eq_not_all_not]
 rw[e,Bool.not_not]
 by_cases h:l.length<=6
 ·have h':((l.length:Nat):Int)<=6:=by omega
  simp[h,h']
 ·have h':¬ ((l.length:Nat):Int)<=6:=by omega
  simp[h,h']
theorem qt{l:List Trip}(hl:l.length<=1099511627776){t:Int}:pF [.list (l.map Trip.e),.int .i64 t]=some [.int .i64 (if in_ t 1 l.length then(tAt l t).s else 0)]:=by
 rw[q_eu]
 simp (disch:=first|assumption|omega|(simp only[zL];omega)) only[F_eu,jY,Int.reduceEq,reduceIte,zU,zT,aa]
 rcases Bool.eq_false_or_eq_true (in_ t 1 (l.length:Nat))with h|h
 ·have h':=in_iff.1 h
  simp (disch:=first|assumption|omega|(simp only[zL];omega)) only[h,Bool.not_true,if_true,wrap64,Du,Trip.e,Int.reduceEq,reduceIte,zU,zT,aa]
 ·simp[h]
theorem mO{l:List Trip}(hl:TrS l){k t:Int}{m:List Int}(hL:m.length<=1099511627776) :
  pG [.list (l.map Trip.e),.int .i64 k,.int .i64 t,.list (m.map eI)]=some [.bool (dM l && (aD ⟨k,t,m⟩ && ch l ⟨k,t,m⟩))]:=by
 rw[q_dg]
 have h1:=hl.1
 simp (disch:=first|assumption|omega|(simp only[zL];omega)) only[F_dg,Bv,jZ,qt,wrap64,Int.reduceEq,reduceIte,zU,zT,aa]
 cases dM l with
 | false=>rfl
 | true =>
  cases hr:aD ⟨k,t,m⟩with
  | false=>rfl
  | true =>
   have ht:=cw hr
   simp only at ht
   simp only[aI,Bool.not_true,aF,Bool.true_and,ch]
   by_cases h4:k=4
   ·simp[h4]
   ·simp only[h4,if_false]
    by_cases hlt:t>(l.length:Nat)
    ·have hf:in_ t 1 (l.length:Nat)=false:=in_false.2 (by omega)
     simp only[hlt,if_true,hf,Bool.false_eq_true,if_false]
     by_cases h5:k=5
     ·simp[h5]
     ·by_cases h6:k=6
      ·simp[h6]
      ·by_cases h7:k=7<;>simp[h5,h6,h7]
    ·have hf:in_ t 1 (l.length:Nat)=true:=in_iff.2 (by omega)
     simp only[hlt,hf,if_true,if_false]
     by_cases h5:k=5
     ·simp[h5]
     ·by_cases h6:k=6
      ·simp[h6]
      ·by_cases h7:k=7
       ·by_cases hs:(tAt l t).s=2<;>simp[h7,hs]
       ·simp[h5,h6,h7]
theorem nP{m:List Int}(hL:m.length<=1099511627776):mf [.list (m.map eI)]=some [.list (m.map eI)]:=by
 rw[q_bf]
 cases m with
 | nil=>simp[F_bf,eH,bQ,ce]
 | cons a l =>
  have:((a::l).map eI).isEmpty=false:=rfl
  simp only[F_bf,this,aF,List.nil_append,ry,dO]
  rw[bQ (by simp[ce]at *;omega)]
  rfl
theorem Bw{l:List Trip}(hl:TrS l){k t:Int}{m:List Int}(hL:m.length<=1099511627776) :
  wg [.list (l.map Trip.e),.int .i64 k,.int .i64 t,.list (m.map eI)] =
   some (if dM l && (aD ⟨k,t,m⟩ && ch l ⟨k,t,m⟩) then [.list ((cr l ⟨k,t,m⟩).map Trip.e),.bool true] else [.list [],.bool false]):=by
 rw[q_eg]
 simp (disch:=first|assumption|omega|(simp only[zL];omega)) only[F_eg,mO,Int.reduceEq,reduceIte,zU,zT,aa]
 rcases Bool.eq_false_or_eq_true (dM l && (aD ⟨k,t,m⟩ && ch l ⟨k,t,m⟩))with h|h
 case inr=>simp[h]
 simp only[h,Bool.not_true,aI,aF,if_true]
 simp only[Bool.and_eq_true]at h
 obtain⟨ho,hr,hm⟩:=h
 have ht:=cw hr
 have hml:=dw hr
 have hT:=tripsOk_iff.1 ho
 have hl6:=hT.len
 simp only at ht hml
 have key:=ak (l:=l) (F:=fun ps=>sB (l.map Trip.e) k t (m.map eI) ((l.length:Nat):Int) ((aa ps 0).toInt) ((aa ps 1).toList)) (enc:=fun i (s:List Trip)=>[.int .i64 i,.list (s.map Trip.e)])
  (res:=fun xs _ s=>.ret [.list ((cr (s++xs) ⟨k,t,m⟩).map Trip.e),.bool true]) (fun i s=>s=l.take i) (s:=[]) (by simp) ?_ ?_
 ·have key:am _ [C.int .i64 0,C.list []]=_:=key
  rw[key];rfl
 ·intro i x xs s hx hs
  have hi:=(List.getElem?_eq_some_iff.1 hx).1
  have hi':(i:Int)<(l.length:Nat):=by omega
  have hxm:=hl.2 x (List.mem_of_getElem? hx)
  have hsl:s.length=i:=by rw[hs];simp;omega
  simp (disch:=first|assumption|omega|(simp only[zL];omega)) only[sB,xF hx,Trip.e,ap,hi',if_true,nP,Int.reduceEq,reduceIte,zU,zT,aa]
  refine .inl ⟨s++[x],?_,?_,by simp⟩
  ·simp[Trip.e]
  ·rw[hs,List.take_succ,hx];rfl
 ·intro s hs
  have hs:s=l:=by rw[hs,List.take_length]
  subst hs
  have h:¬ ((s.length:Int)<(s.length:Nat)):=by omega
  simp only[sB,aa,C.toInt_int,C.toList_list,aK,h,if_false,List.append_nil]
  rcases jC hr hm with ⟨h4,h⟩|⟨h1,h2,h⟩
  ·simp only at h4;subst h4
   have hml':m.length<=1099511627776:=by omega
   simp only[bo,if_true,nP hml',Dr,aa,C.toList_list]
   rw[bQ (by simp[ce];omega)]
   simp[jX,cr,Trip.e]
  ·simp only at h1 h2 h
   have hx:=rz h1 h2
   have hw:IntKind.wrap .i64 (t-1)=t-1:=wrap64 (by omega) (by omega)
   have hb:(decide ((0:Int)<=t-1) && decide (t-1<((s.map Trip.e).length:Nat)))=true:=lt_B (by omega) (by simp;omega)
   have st:∀ z:Int,setRow 1 (s.map Trip.e) (t-1).toNat [C.int .i64 z]=(s.set (t-1).toNat ⟨(tAt s t).m,z⟩).map Trip.e:=fun z=>bR hx rfl
   simp only[hw,cr,bo,bQ hb,Du h1 h2,Trip.e,aa,C.toInt_int,st]
   rcases h with ⟨h|h,_⟩|⟨h,hs⟩
   ·subst h;rfl
   ·subst h;rfl
   ·subst h
    rcases hs with hs|hs<;>simp[hs,upD]
theorem qu{rs:List Rec}(hL:rs.length<=2000000)(hm:∀ r∈rs,r.m.length<=1099511627776) :
  pH [.list (rs.map Rec.e)]=some [.list (((aS rs).getD []).map Trip.e),.bool (aS rs).isSome]:=by
 rw[q_eo];unfold F_eo
 have key:=ak (l:=rs) (F:=fun ps=>ov (rs.map Rec.e) ((aa ps 0).toList) ((aa ps 1).toBool) ((aa ps 2).toInt)) (enc:=fun i (s:Option (List Trip))=>[.list ((s.getD []).map Trip.e),.bool s.isSome,.int .i64 i])
  (res:=fun xs _ s=>match s with
   | some l=>.ret [.list (((bL xs l).getD []).map Trip.e),.bool (bL xs l).isSome]
   | none=>.ret [.list [],.bool false]) (fun _ s=>∀ l,s=some l->TrOk l) (s:=some []) (fun l e=>by simp only[Option.some.injEq]at e;rw[<-e];exact TrOk.nil) ?_ ?_
 ·have key:am _ [C.list [],C.bool true,C.int .i64 0]=_:=key
  rw[key];rfl
 ·intro i x xs s hx hs
  have hi:=(List.getElem?_eq_some_iff.1 hx).1
  have hi':(i:Int)<(rs.length:Nat):=by omega
  have hxm:=hm x (List.mem_of_getElem? hx)
  cases s with
  | none=>exact .inr ⟨_,rfl,rfl⟩
  | some l =>
   have hT:=hs l rfl
   have hS:=hT.S
   simp (disch:=first|assumption|omega|(simp only[zL];omega)) only[ov,Option.isSome_some,Option.getD_some,fE hx,Rec.e,hi',if_true,Bw,Int.reduceEq,reduceIte,zU,zT,aa]
   have e1:dM l=true:=tripsOk_iff.2 hT
   simp only[e1,Bool.true_and]
   rcases Bool.eq_false_or_eq_true (aD x && ch l x)with h|h
   ·simp only[h,if_true]
    refine .inl ⟨some (cr l x),?_,fun l' e=>?_,by simp[bL,h]⟩
    ·simp (disch:=first|assumption|omega|(simp only[zL];omega)) only[ap,Option.isSome_some,Option.getD_some,Int.reduceEq,reduceIte,zU,zT,aa]
    ·simp only[Option.some.injEq]at e;rw[<-e]
     simp only[Bool.and_eq_true]at h
     exact mo hT h.1 h.2
   ·simp only[h,Bool.false_eq_true,if_false]
    refine .inl ⟨none,?_,?_,?_⟩
    ·simp (disch:=first|assumption|omega|(simp only[zL];omega)) only[ap,Option.isSome_none,Option.getD_none,Int.reduceEq,reduceIte,zU,zT,aa]
     try simp
    ·intro l' e;cases e
    ·simp[bL,h]
 ·intro s hs
  have h:¬ ((rs.length:Int)<(rs.length:Nat)):=by omega
  cases s with
  | none=>simp[ov,aa]
  | some l=>simp[ov,aa,aK,bL]
end Dx
namespace Dx
open Go
theorem jK{k h t m:Int}:iK [.int .i64 k,.int .i64 h,.int .i64 t,.int .i64 m]=some [.bool (bj ⟨k,h,t,m⟩)]:=by
 rw[q_go]
 simp (disch:=first|assumption|omega|(simp only[zL];omega)) only[F_go,jY,cP,nO,bj,Int.reduceEq,reduceIte,zU,zT,aa]
 by_cases h1:k=1
 ·simp only[h1,if_true]
  cases in_ h 1 3<;>cases in_ t 1 6<;>cases in_ 1 1 7<;>simp
 ·simp only[h1,if_false]
  cases in_ h 1 3<;>cases in_ t 1 6<;>cases in_ k 1 7<;>simp
theorem gW{k h t m:Int}:gz [.int .i64 k,.int .i64 h,.int .i64 t,.int .i64 m]=some [.bool (decide (k>=4))]:=by
 rw[q_bh];simp (disch:=first|assumption|omega|(simp only[zL];omega)) only[F_bh,Int.reduceEq,reduceIte,zU,zT,aa]
theorem iV{td:List Word}(hL:td.length<=1099511627776){k h t m:Int}:lu [.list (td.map Word.e),.int .i64 k,.int .i64 h,.int .i64 t,.int .i64 m]=some [.bool (td.contains ⟨k,h,t,m⟩)]:=by
 rw[q_ap]
 have hi:wh [.list (td.map Word.e),.int .i64 k,.int .i64 h,.int .i64 t,.int .i64 m]=some [.int .i64 (lX (fun x=>decide ((⟨k,h,t,m⟩:Word)=x)) 0 td)]:=by
  rw[q_au];unfold F_au
  simp only[List.length_map]
  rw[gn (l:=td) (fun x=>decide ((⟨k,h,t,m⟩:Word)=x))]
  ·rfl
  ·intro i x hx
   have hi:=(List.getElem?_eq_some_iff.1 hx).1
   have hi':(i:Int)<(td.length:Nat):=by omega
   have hw:=uy ⟨k,h,t,m⟩ x
   simp only at hw
   simp (disch:=first|assumption|omega|(simp only[zL];omega)) only[yO,gG hx,Word.e,ap,hi',if_true,hw,decide_eq_true_eq,Int.reduceEq,reduceIte,zU,zT,aa]
  ·have h:¬ ((td.length:Int)<(td.length:Nat)):=by omega
   simp (disch:=first|assumption|omega|(simp only[zL];omega)) only[yO,h,if_false,Int.reduceEq,reduceIte,zU,zT,aa]
 simp (disch:=first|assumption|omega|(simp only[zL];omega)) only[F_ap,hi,dP,Bool.decide_eq_true,Int.reduceEq,reduceIte,zU,zT,aa]
 rw[List.contains_eq_any_beq]
 congr
theorem kS{k t:Int}{m:List Int}(hL:m.length<=1099511627776):pL [.int .i64 k,.int .i64 t,.list (m.map eI)]=some [.int .i64 k,.int .i64 t,.list (m.map eI)]:=by
 rw[q_bt];simp (disch:=first|assumption|omega|(simp only[zL];omega)) only[F_bt,nP,Int.reduceEq,reduceIte,zU,zT,aa]
theorem rB{rs:List Rec}{f many forced:Int}(hl:LgS ⟨rs,f⟩)(h1:0<=many)(h2:many<=rs.length) :
  lv [.list (rs.map Rec.e),.int .i64 f,.int .i64 many,.int .i64 forced]=some [.list ((rs.take many.toNat).map Rec.e),.int .i64 forced]:=by
 rw[q_ch]
 have e1:∀ n:Nat,(rs.map Rec.e).take n=(rs.take n).map Rec.e:=fun n=>by simp
 unfold F_ch
 simp only[e1,List.length_map]
 rw[cY h1 h2]
 have hm:∀ r∈rs.take many.toNat,r.m.length<=1099511627776:=fun r hr=>hl.2 r (List.mem_of_mem_take hr)
 have hlen:(rs.take many.toNat).length<=2000000:=by simp;have:=hl.1;simp only at this;omega
 generalize rs.take many.toNat=l at hm hlen
 have key:=ak (l:=l) (F:=fun ps=>sG forced (l.map Rec.e) ((l.length:Nat):Int) ((aa ps 0).toInt) ((aa ps 1).toList)) (enc:=fun i (s:List Rec)=>[.int .i64 i,.list (s.map Rec.e)])
  (res:=fun xs _ s=>.ret [.list ((s++xs).map Rec.e),.int .i64 forced]) (fun i s=>s.length=i) (s:=[]) rfl ?_ ?_
 ·have key:am _ [C.int .i64 0,C.list []]=_:=key
  rw[key];rfl
 ·intro i x xs s hx hs
  have hi:=(List.getElem?_eq_some_iff.1 hx).1
  have hi':(i:Int)<(l.length:Nat):=by omega
  have hxm:=hm x (List.mem_of_getElem? hx)
  simp (disch:=first|assumption|omega|(simp only[zL];omega)) only[sG,fE hx,Rec.e,ap,hi',if_true,kS,Int.reduceEq,reduceIte,zU,zT,aa]
  refine .inl ⟨s++[x],?_,by simp[hs],by simp⟩
  simp[Rec.e]
 ·intro s hs
  have h:¬ ((l.length:Int)<(l.length:Nat)):=by omega
  simp (disch:=first|assumption|omega|(simp only[zL];omega)) only[sG,h,if_false,Int.reduceEq,reduceIte,zU,zT,aa]
  simp
theorem gQ{rs:List Rec}{f:Int}(hl:LgS ⟨rs,f⟩):lw [.list (rs.map Rec.e),.int .i64 f]=some [.list (rs.map Rec.e),.int .i64 f]:=by
 rw[q_bs]
 have h:=rB hl (many:=((rs.length:Nat):Int)) (forced:=f) (by omega) (by omega)
 simp only[Int.toNat_natCast,List.take_length]at h
 simp (disch:=first|assumption|omega|(simp only[zL];omega)) only[F_bs,h,Int.reduceEq,reduceIte,zU,zT,aa]
theorem uG{m:List Word}(hL:m.length<=1099511627776):pM [.list (m.map Word.e)]=some [.list (m.map Word.e)]:=by
 rw[q_at]
 cases m with
 | nil=>simp[F_at,eH,bQ,ce]
 | cons a l =>
  have:((a::l).map Word.e).isEmpty=false:=rfl
  simp only[F_at,this,aF,List.nil_append,mB,dO]
  rw[bQ (by simp[ce]at *;omega)]
  rfl
structure DkS (d:Desk):Prop where
 lg:LgS d.lg
 td:d.td.length<=2000000
theorem DkOk.S{d:Desk}(h:DkOk d):DkS d:=⟨h.lg.S,by have:=h.tdlen;omega⟩
theorem LgS.m{rs:List Rec}{f:Int}(h:LgS ⟨rs,f⟩):∀ r∈rs,r.m.length<=1099511627776:=h.2
theorem LgS.l{rs:List Rec}{f:Int}(h:LgS ⟨rs,f⟩):rs.length<=2000000:=h.1
section
variable {up b:Bool} {rs:List Rec} {f:Int} {td:List Word} {k h t m keep:Int} {ms:List Int}
theorem dg(hs:DkS ⟨up,⟨rs,f⟩,td⟩):gB [.bool up,.list (rs.map Rec.e),.int .i64 f,.list (td.map Word.e)]=some (Desk.e ⟨up,⟨rs,f⟩,td⟩):=by
 rw[q_bg]
 have h1:LgS ⟨rs,f⟩:=hs.lg
 have h2:td.length<=1099511627776:=by have:=hs.td;simp only at this;omega
 simp (disch:=first|assumption|omega|(simp only[zL];omega)) only[F_bg,gQ,uG,Int.reduceEq,reduceIte,zU,zT,aa]
 rfl
theorem zY(hl:b=true->0<=f/\f<=rs.length):pO [.list (rs.map Rec.e),.int .i64 f,.bool b]=some [.list ((aO ⟨rs,f⟩ b).map Rec.e)]:=by
 rw[q_cx]
 cases b with
 | false=>simp[F_cx,aO]
 | true =>
  obtain⟨h1,h2⟩:=hl rfl
  simp only[F_cx,aI,List.length_map]
  rw[cY h1 h2]
  simp[aO]
theorem rC(hs:LgS ⟨rs,f⟩)(hl:b=true->0<=f/\f<=rs.length){tl:List (List C)}:eT [.bool up,.list (rs.map Rec.e),.int .i64 f,.list tl,.bool b]=some [.list ((aC ⟨rs,f⟩ b).map Trip.e)]:=by
 rw[q_bp]
 have h1:(aO ⟨rs,f⟩ b).length<=2000000:=by have:=hs.l;unfold aO;split<;>simp<;>omega
 have h2:∀ r∈aO ⟨rs,f⟩ b,r.m.length<=1099511627776:=fun r hr=>hs.2 r (by unfold aO at hr;split at hr;exact List.mem_of_mem_take hr;exact hr)
 simp (disch:=first|assumption|omega|(simp only[zL];omega)) only[F_bp,zY hl,qu h1 h2,aC,Int.reduceEq,reduceIte,zU,zT,aa]
theorem jL(hs:LgS ⟨rs,f⟩){tl:List (List C)}:eT [.bool up,.list (rs.map Rec.e),.int .i64 f,.list tl,.bool false]=some [.list ((aC ⟨rs,f⟩ false).map Trip.e)]:=rC hs (fun h=>by cases h)
theorem CF(hs:LgOk ⟨rs,f⟩){tl:List (List C)}:eT [.bool up,.list (rs.map Rec.e),.int .i64 f,.list tl,.bool true]=some [.list ((aC ⟨rs,f⟩ true).map Trip.e)]:=rC hs.S (fun _=>⟨hs.lo,hs.hi⟩)
theorem dp(hs:DkS ⟨up,⟨rs,f⟩,td⟩):fA [.bool up,.list (rs.map Rec.e),.int .i64 f,.list (td.map Word.e)]=some [.bool (du ⟨up,⟨rs,f⟩,td⟩)]:=by
 rw[q_gc]
 have h1:LgS ⟨rs,f⟩:=hs.lg
 have h2:td.length<=2000000:=hs.td
 have hj:ah (yP (rs.map Rec.e) (td.map Word.e))=some [.bool (di ((aS rs).getD []).length [] td && (aS rs).isSome)]:=by
  unfold yP
  have ht:=qu h1.l h1.m
  simp only[ht,Jq,aa,C.toBool_bool,C.toList_list,List.length_map]
  have key:=ak (l:=td) (F:=fun ps=>sC (td.map Word.e) (((aS rs).getD []).map Trip.e) (aS rs).isSome ((td.length:Nat):Int) ((aa ps 0).toInt)) (enc:=fun i (_:Unit)=>[.int .i64 i])
   (res:=fun xs i _=>.ret [.bool (di ((aS rs).getD []).length (td.take i) xs && (aS rs).isSome)]) (fun _ _=>True) (s:=()) trivial ?_ ?_
  ·have key:am _ [C.int .i64 0]=_:=key
   rw[key];rfl
  ·intro i x xs s hx _
   have hi:=(List.getElem?_eq_some_iff.1 hx).1
   have hi':(i:Int)<(td.length:Nat):=by omega
   have e1:(td.map Word.e).take i=(td.take i).map Word.e:=by simp
   have c1:(0:Int)<=(i:Int):=by omega
   have c2:(i:Int)<=(td.length:Nat):=by omega
   have c3:(td.take i).length<=1099511627776:=by simp;omega
   have e2:td.take (i+1)=td.take i++[x]:=by rw[List.take_succ,hx];rfl
   have e3:∀ n:Nat,decide (x.t>(n:Int))=!decide (x.t<=(n:Int)):=fun n=>by rw[Bool.eq_iff_iff];simp
   simp (disch:=first|assumption|omega|(simp only[zL];omega)) only[sC,gG hx,Word.e,ap,hi',if_true,jK,gW,e1,Int.toNat_natCast,iV,cY c1 c2,Int.reduceEq,reduceIte,zU,zT,aa]
   simp only[di,e2]
   cases bj x with
   | false=>exact .inr ⟨_,rfl,by simp⟩
   | true =>
    by_cases h4:x.k>=4
    ·by_cases h5:x.t>((((aS rs).getD []).length:Nat):Int)
     ·have h5':¬ x.t<=((((aS rs).getD []).length:Nat):Int):=by omega
      exact .inr ⟨_,by simp only[h4,h5,if_true,aI,Bool.not_true,aF];rfl,by simp[h5']⟩
     ·have h5':x.t<=((((aS rs).getD []).length:Nat):Int):=by omega
      cases hc:(td.take i).contains x with
      | true =>
       refine .inr ⟨.ret [.bool false],?_,by simp⟩
       simp only[h4,h5,if_true,if_false,aI,Bool.not_true,aF]
       try rw[bQ (by simp;omega)]
      | false =>
       refine .inl ⟨(),?_,trivial,by simp[h4,h5']⟩
       simp only[h4,h5,if_true,if_false,aI,Bool.not_true,aF]
       try rw[bQ (by simp;omega)]
    ·exact .inr ⟨_,by simp only[h4,if_false,aI,Bool.not_true,aF];rfl,by simp[h4]⟩
  ·intro s _
   have h:¬ ((td.length:Int)<(td.length:Nat)):=by omega
   simp (disch:=first|assumption|omega|(simp only[zL];omega)) only[sC,h,if_false,Int.reduceEq,reduceIte,zU,zT,aa]
   rfl
 simp (disch:=first|assumption|omega|(simp only[zL];omega)) only[F_gc,j8,uE,hj,Int.reduceEq,reduceIte,zU,zT,aa]
 unfold du
 cases fB ⟨rs,f⟩with
 | false=>simp
 | true =>
  simp only[Bool.not_true,aF,Bool.true_and]
  cases up with
  | true =>
   simp only[aI,aZ]
   rw[hj]
   cases aS rs<;>simp
  | false =>
   simp only[aF]
   by_cases hz:((td.length:Nat):Int)>0
   ·have:td.isEmpty=false:=by
     cases td with
     | nil=>simp at hz
     | cons a l=>rfl
    simp only[hz,if_true,uE,aI,aF,aG]
    cases aS rs<;>simp[this]
   ·have:td=[]:=by
     cases td with
     | nil=>rfl
     | cons a l=>simp at hz
    simp only[hz,if_false,aI,aF,aZ]
    rw[hj,this]
    cases aS rs<;>simp
end
end Dx
namespace Dx
open Go
def dz:Desk:=⟨false,⟨[],0⟩,[]⟩
section
variable {up b:Bool} {rs:List Rec} {f:Int} {td:List Word} {k h t m keep:Int} {ms:List Int}
theorem uH(hl:LgS ⟨rs,f⟩)(hm:ms.length<=1099511627776) :
  pP [.list (rs.map Rec.e),.int .i64 f,.int .i64 k,.int .i64 t,.list (ms.map eI)] =
   some (if fB ⟨rs,f⟩ && aD ⟨k,t,ms⟩ then [.list ((dd ⟨rs,f⟩ ⟨k,t,ms⟩).rs.map Rec.e),.int .i64 f,.bool (ml ⟨rs,f⟩)] else [.list [],.int .i64 0,.bool false]):=by
 rw[q_gw]
 simp (disch:=first|assumption|omega|(simp only[zL];omega)) only[F_gw,j8,jZ,gQ,kS,Int.reduceEq,reduceIte,zU,zT,aa]
 cases hlo:fB ⟨rs,f⟩with
 | false=>simp
 | true =>
  cases aD ⟨k,t,ms⟩with
  | false=>simp
  | true =>
   have hl40:rs.length<=40:=(logOk_iff.1 hlo).len
   simp only[aI,Bool.and_self,if_true]
   by_cases h40:((rs.length:Nat):Int)=40
   ·have h':rs.length>=40:=by omega
    simp[h40,dd,ml,h']
   ·have h':¬ rs.length>=40:=by omega
    have hc:rs.length+1<=1099511627776:=by omega
    simp[h40,dd,ml,h',hc,Rec.e]
theorem j9(hd:DkOk ⟨up,⟨rs,f⟩,td⟩)(hr:aD ⟨k,t,ms⟩=true) :
  ga [.bool up,.list (rs.map Rec.e),.int .i64 f,.list (td.map Word.e),.int .i64 k,.int .i64 t,.list (ms.map eI)] =
   some (.bool (dN ⟨up,⟨rs,f⟩,td⟩ ⟨k,t,ms⟩)::(aV ⟨up,⟨rs,f⟩,td⟩ ⟨k,t,ms⟩).e):=by
 rw[q_bm]
 have hlg:LgOk ⟨rs,f⟩:=hd.lg
 have hS:=hlg.S
 have hT:TrOk (aC ⟨rs,f⟩ false):=hd.trOk false
 have hTS:=hT.S
 have hml:=dw hr
 have hml':ms.length<=1099511627776:=by simp only at hml;omega
 have hto:dM (aC ⟨rs,f⟩ false)=true:=tripsOk_iff.2 hT
 have hlo:fB ⟨rs,f⟩=true:=logOk_iff.2 hlg
 simp (disch:=first|assumption|omega|(simp only[zL];omega)) only[F_bm,jL,mO,uH,hto,hr,hlo,Bool.true_and,Bool.and_self,if_true,aV,dN,aj,Int.reduceEq,reduceIte,zU,zT,aa]
 cases up with
 | false=>simp[Desk.e]
 | true =>
  simp only[aI,Bool.true_and]
  cases ch (aC ⟨rs,f⟩ false) ⟨k,t,ms⟩with
  | false=>simp[Desk.e]
  | true=>simp[Desk.e,zd]
theorem Dw(hL:td.length<=1099511627776){r:List (List C)}:pQ [.bool up,.list r,.int .i64 f,.list (td.map Word.e),.int .i64 k,.int .i64 h,.int .i64 t]=some [.bool (td.contains ⟨k,h,t,0⟩)]:=by
 rw[q_cd];simp (disch:=first|assumption|omega|(simp only[zL];omega)) only[F_cd,iV,Int.reduceEq,reduceIte,zU,zT,aa]
theorem FS(hL:td.length<=1099511627776)(hm:ms.length<=1000)(hn:∀ n∈ms,0<=n){r:List (List C)} :
  mh [.bool up,.list r,.int .i64 f,.list (td.map Word.e),.int .i64 k,.int .i64 t,.list (ms.map eI)]=some [.bool (aY td t k 1 ms),.bool (aB td t k 1 ms)]:=by
 rw[q_bj];unfold F_bj
 simp only[List.length_map]
 have key:=ak (l:=ms) (F:=fun ps=>sK up r f (td.map Word.e) k t (ms.map eI) ((ms.length:Nat):Int) ((aa ps 0).toBool) ((aa ps 1).toBool) ((aa ps 2).toInt)) (enc:=fun i (s:Bool×Bool)=>[.bool s.1,.bool s.2,.int .i64 i])
  (res:=fun xs i s=>.ret [.bool (s.1 || aY td t k ((i+1:Nat):Int) xs),.bool (s.2 && aB td t k ((i+1:Nat):Int) xs)]) (fun _ _=>True) (s:=(false,true)) trivial ?_ ?_
 ·have key:am _ [C.bool false,C.bool true,C.int .i64 0]=_:=key
  rw[key];simp
 ·rintro i x xs ⟨a,b⟩ hx _
  have hi:=(List.getElem?_eq_some_iff.1 hx).1
  have hi':(i:Int)<(ms.length:Nat):=by omega
  have hx0:=hn x (List.mem_of_getElem? hx)
  have e1:((i+1:Nat):Int)+1=((i+1+1:Nat):Int):=by omega
  simp (disch:=first|assumption|omega|(simp only[zL];omega)) only[sK,gF hx,eI,ap,hi',if_true,Dw,Int.reduceEq,reduceIte,zU,zT,aa]
  by_cases h0:x=0
  ·have h0':¬ x>0:=by omega
   simp only[h0,if_true]
   refine .inl ⟨(a,b),?_,trivial,?_⟩
   ·rfl
   ·simp only[aY,aB,e1];simp
  ·have h0':x>0:=by omega
   simp only[h0,if_false]
   generalize hc:td.contains ⟨k,((i+1:Nat):Int),t,0⟩=c
   refine .inl ⟨(a || c,b && c),?_,trivial,?_⟩
   ·cases a<;>cases b<;>simp
   ·simp only[aY,aB,e1,hc,h0',decide_true,Bool.true_and,Bool.not_true,Bool.false_or]
    cases a<;>cases b<;>cases c<;>simp
 ·rintro⟨a,b⟩ _
  have h:¬ ((ms.length:Int)<(ms.length:Nat)):=by omega
  simp (disch:=first|assumption|omega|(simp only[zL];omega)) only[sK,h,if_false,Int.reduceEq,reduceIte,zU,zT,aa]
  simp[aY,aB]
def Dy(d:Desk)(t K:Int):Desk:=if K>0 then aV d ⟨K,t,[]⟩ else d
theorem xK(d:Desk)(t:Int):cU d t=Dy d t (lM (tAt (aj d false) t).s (lC d t) d.td t (tAt (aj d false) t).m):=rfl
theorem uI(Φ:Phi)(f:Nat)(args:List Cell)(ks:List CK)(t:Tree)(env:List C):den Φ (.call f args ks t) env=ac (Φ f (aL env args)) ks fun r=>den Φ t (env++r):=by rw[den]
theorem uJ(hd:DkOk ⟨up,⟨rs,f⟩,td⟩)(h1:1<=t)(h2:t<=(aC ⟨rs,f⟩ false).length) :
  sL [.bool up,.list (rs.map Rec.e),.int .i64 f,.list (td.map Word.e),.int .i64 t]=some (cU ⟨up,⟨rs,f⟩,td⟩ t).e:=by
 have hlg:LgOk ⟨rs,f⟩:=hd.lg
 have hS:=hlg.S
 have tA:TrOk (aC ⟨rs,f⟩ false):=hd.trOk false
 have tF:TrOk (aC ⟨rs,f⟩ true):=hd.trOk true
 have lA:=tA.len
 have lF:=tF.len
 have hx:=tripOk_iff.1 (tA.ok _ (gl (t:=t) (by omega)))
 have hml:=bw hx.1
 have hml':(tAt (aC ⟨rs,f⟩ false) t).m.length<=1000:=by omega
 have hn:∀ n∈(tAt (aC ⟨rs,f⟩ false) t).m,0<=n:=fun n hn=>(gb hx.1 hn).1
 have htd:td.length<=1099511627776:=by have:=hd.tdlen;simp only at this;omega
 have w5:=j9 hd (k:=5) (t:=t) (ms:=[]) (by simp[aD,in_iff];omega)
 have w6:=j9 hd (k:=6) (t:=t) (ms:=[]) (by simp[aD,in_iff];omega)
 have w7:=j9 hd (k:=7) (t:=t) (ms:=[]) (by simp[aD,in_iff];omega)
 simp only[List.map_nil,Desk.e]at w5 w6 w7
 unfold sL t_bd
 simp (disch:=first|assumption|omega|(simp only[zL];omega)) only[den,E5,aL,Cell.den,At.den,jL,CF,FS,qt,Du,wrap64,Trip.e,Prim.den,List.cons_append,Int.reduceEq,reduceIte,zT,aa]
 rw[xK]
 have hsure:((if in_ t 1 ((aC ⟨rs,f⟩ true).length:Nat)=true then(tAt (aC ⟨rs,f⟩ true) t).s else 0)==(tAt (aC ⟨rs,f⟩ false) t).s)=lC ⟨up,⟨rs,f⟩,td⟩ t:=by
  have hs1:=hx.2.1
  unfold lC aj
  by_cases h:t<=((aC ⟨rs,f⟩ true).length:Nat)
  ·have hi:in_ t 1 ((aC ⟨rs,f⟩ true).length:Nat)=true:=in_iff.2 ⟨h1,h⟩
   simp[hi,h]
  ·have hi:in_ t 1 ((aC ⟨rs,f⟩ true).length:Nat)=false:=in_false.2 (by omega)
   simp[hi,h];omega
 simp only[hsure]
 dsimp only[aj]
 have hs:=hx.2
 generalize lC ⟨up,⟨rs,f⟩,td⟩ t=b
 generalize (tAt (aC ⟨rs,f⟩ false) t).s=s at hs ⊢
 generalize (tAt (aC ⟨rs,f⟩ false) t).m=m
 unfold lM
 generalize aY td t 5 1 m=a5
 generalize aB td t 4 1 m=a4
 generalize aB td t 6 1 m=a6
 generalize aB td t 7 1 m=a7
 rcases (by omega:s=1\/s=2\/s=3\/s=4\/s=5)with e|e|e|e|e<;>subst e
 ·cases a5<;>cases a4<;>simp[kf,CK.of,aa,w5,w6,w7,bo,jF,Dy,Desk.e]
 ·cases b<;>cases a6<;>simp[kf,CK.of,aa,w5,w6,w7,bo,jF,Dy,Desk.e]
 ·cases b<;>cases a7<;>simp[kf,CK.of,aa,w5,w6,w7,bo,jF,Dy,Desk.e]
 ·simp[kf,CK.of,aa,bo,Dy,Desk.e]
 ·simp[kf,CK.of,aa,bo,Dy,Desk.e]
end
end Dx
namespace Dx
open Go
section
variable {up b:Bool} {rs:List Rec} {f:Int} {td:List Word} {k h t m keep:Int} {ms:List Int} {id room:Int}
theorem Dz(hd:DkOk ⟨up,⟨rs,f⟩,td⟩) :
  lx [.bool up,.list (rs.map Rec.e),.int .i64 f,.list (td.map Word.e),.int .i64 k,.int .i64 h,.int .i64 t,.int .i64 m]=some (da ⟨up,⟨rs,f⟩,td⟩ ⟨k,h,t,m⟩).e:=by
 rw[q_cv]
 have hlg:LgOk ⟨rs,f⟩:=hd.lg
 have hS:=hlg.S
 have htd:td.length<=72:=hd.tdlen
 unfold da
 simp (disch:=first|assumption|omega|(simp only[zL];omega)) only[F_cv,jK,gW,jL,iV,Int.reduceEq,reduceIte,zU,zT,aa]
 have nh:cA ⟨up,⟨rs,f⟩,td⟩ ⟨k,h,t,m⟩=false->(if cA ⟨up,⟨rs,f⟩,td⟩ ⟨k,h,t,m⟩=true then cU (bI ⟨up,⟨rs,f⟩,td⟩ ⟨k,h,t,m⟩) t else⟨up,⟨rs,f⟩,td⟩)=⟨up,⟨rs,f⟩,td⟩:=fun e=>by rw[e];rfl
 cases up with
 | false=>rw[nh rfl];rfl
 | true =>
  cases hw:bj ⟨k,h,t,m⟩with
  | false=>rw[nh (by simp[cA,hw])];rfl
  | true =>
   have wt:=(wordOk_iff.1 hw).t
   simp only at wt
   simp only[aI,kw]
   by_cases h4:k>=4
   ·by_cases ht:t>((aC ⟨rs,f⟩ false).length:Nat)
    ·rw[nh (by rw[fI,hw];simp only[Bool.true_and];rw[Bool.and_eq_false_iff];right;exact decide_eq_false (by omega))]
     simp only[h4,ht,if_true,if_false];rfl
    ·have c1:cA ⟨true,⟨rs,f⟩,td⟩ ⟨k,h,t,m⟩=true:=by rw[fI,hw];simp only[Bool.true_and];rw[Bool.and_eq_true];exact⟨decide_eq_true (by omega),decide_eq_true (by omega)⟩
     rw[if_pos c1]
     simp only[h4,ht,if_false,if_true,bI]
     cases hc:td.contains ⟨k,h,t,m⟩with
     | true =>
      simp (disch:=first|assumption|omega|(simp only[zL];omega)) only[uJ,Desk.e,aI,aF,aG,rx,aa,C.toInt_int,C.toBool_bool,C.toList_list,if_true]
     | false =>
      have hd2:DkOk ⟨true,⟨rs,f⟩,td++[⟨k,h,t,m⟩]⟩:=by
       have:=hd.tell (w:=⟨k,h,t,m⟩) c1
       unfold bI at this
       rw[if_neg (by rw[hc];simp)]at this
       exact this
      have e1:(td.map Word.e)++[[C.int .i64 k,C.int .i64 h,C.int .i64 t,C.int .i64 m]]=(td++[(⟨k,h,t,m⟩:Word)]).map Word.e:=by simp[Word.e]
      have hd3:=uJ hd2 wt.1 (show t<=((aC ⟨rs,f⟩ false).length:Nat) by omega)
      simp only[aF,aI,e1,hd3]
      simp (disch:=first|assumption|omega|(simp only[zL];omega)) only[Desk.e,Bool.false_eq_true,if_false,Int.reduceEq,reduceIte,zU,zT,aa]
   ·rw[nh (by rw[fI,hw];simp[h4])]
    simp only[h4,if_false];rfl
theorem qv(hl:LgOk ⟨rs,f⟩):pV [.list (rs.map Rec.e),.int .i64 f,.int .i64 keep]=some (fC ⟨rs,f⟩ keep).e:=by
 rw[q_fk]
 have hS:=hl.S
 have h1:=hl.lo
 have h2:=hl.hi
 have h3:=hl.len
 have hk:=hl.keep keep
 simp only at h1 h2 h3 hk
 have hlo:=logOk_iff.2 hl
 have e1:f+(if(0:Int)>(if((rs.length:Nat):Int)-f<keep then((rs.length:Nat):Int)-f else keep) then 0 else(if((rs.length:Nat):Int)-f<keep then((rs.length:Nat):Int)-f else keep))=ez ⟨rs,f⟩ keep:=by
  unfold ez
  simp only[Int.min_def]
  split<;>split<;>split<;>(try split)<;>omega
 have w1:IntKind.wrap .i64 (((rs.length:Nat):Int)-f)=((rs.length:Nat):Int)-f:=wrap64 (by omega) (by omega)
 simp (disch:=first|assumption|omega|(simp only[zL];omega)) only[F_fk,j8,hlo,Int.reduceEq,reduceIte,zU,zT,aa]
 rw[w1,wrap64 (by rw[e1];omega) (by rw[e1];omega),e1,rB hS (by omega) (by omega)]
 simp only[Jr,aa,C.toInt_int,C.toList_list,aG]
 rfl
theorem xL(hd:DkOk ⟨up,⟨rs,f⟩,td⟩) :
  wG [.bool up,.list (rs.map Rec.e),.int .i64 f,.list (td.map Word.e),.int .i64 keep]=some (dfall ⟨up,⟨rs,f⟩,td⟩ keep).e:=by
 rw[q_dm]
 have hS:=hd.S
 have ho:=deskOk_iff.2 hd
 have hlg:LgOk ⟨rs,f⟩:=hd.lg
 simp (disch:=first|assumption|omega|(simp only[zL];omega)) only[F_dm,dp,ho,qv hlg,Log.e,Int.reduceEq,reduceIte,zU,zT,aa]
 rfl
theorem mP(hl:LgOk ⟨rs,f⟩):pT [.list (rs.map Rec.e),.int .i64 f]=some (fj ⟨rs,f⟩).e:=by
 rw[q_dw]
 have hS:=hl.S
 have hlo:=logOk_iff.2 hl
 have hf:=rB hS (many:=((rs.length:Nat):Int)) (forced:=((rs.length:Nat):Int)) (by omega) (by omega)
 simp only[Int.toNat_natCast,List.take_length]at hf
 simp (disch:=first|assumption|omega|(simp only[zL];omega)) only[F_dw,j8,hlo,hf,Int.reduceEq,reduceIte,zU,zT,aa]
 rfl
theorem t6(hd:DkOk ⟨up,⟨rs,f⟩,td⟩):wE [.bool up,.list (rs.map Rec.e),.int .i64 f,.list (td.map Word.e)]=some (bd ⟨up,⟨rs,f⟩,td⟩).e:=by
 rw[q_cq]
 have hS:=hd.S
 have ho:=deskOk_iff.2 hd
 have hlg:LgOk ⟨rs,f⟩:=hd.lg
 simp (disch:=first|assumption|omega|(simp only[zL];omega)) only[F_cq,dp,ho,dg,mP hlg,Log.e,Desk.e,Int.reduceEq,reduceIte,zU,zT,aa]
 cases up<;>rfl
theorem xM(hd:DkOk ⟨up,⟨rs,f⟩,td⟩):wL [.bool up,.list (rs.map Rec.e),.int .i64 f,.list (td.map Word.e)]=some (dK ⟨up,⟨rs,f⟩,td⟩).e:=by
 rw[q_ec]
 have hS:=hd.S
 have ho:=deskOk_iff.2 hd
 simp (disch:=first|assumption|omega|(simp only[zL];omega)) only[F_ec,dp,ho,dg,Desk.e,Int.reduceEq,reduceIte,zU,zT,aa]
 rfl
theorem t7(hs:DkS ⟨up,⟨rs,f⟩,td⟩)(hm:ms.length<=1099511627776) :
  wA [.bool up,.list (rs.map Rec.e),.int .i64 f,.list (td.map Word.e),.list (ms.map eI)] =
   some (if du ⟨up,⟨rs,f⟩,td⟩ && aD (eE ⟨up,⟨rs,f⟩,td⟩ ms) then(aV ⟨up,⟨rs,f⟩,td⟩ (eE ⟨up,⟨rs,f⟩,td⟩ ms)).e++[.bool (dN ⟨up,⟨rs,f⟩,td⟩ (eE ⟨up,⟨rs,f⟩,td⟩ ms))] else dz.e++[.bool false]):=by
 rw[q_cy]
 cases ho:du ⟨up,⟨rs,f⟩,td⟩with
 | false=>simp (disch:=first|assumption|omega|(simp only[zL];omega)) only[F_cy,dp,ho,Int.reduceEq,reduceIte,zU,zT,aa];simp[Desk.e,dz]
 | true =>
  have hd:=deskOk_iff.1 ho
  have hlg:LgOk ⟨rs,f⟩:=hd.lg
  have hS:=hlg.S
  have hT:TrOk (aC ⟨rs,f⟩ false):=hd.trOk false
  have hl:=hT.len
  have eR:eE ⟨up,⟨rs,f⟩,td⟩ ms=⟨4,((aC ⟨rs,f⟩ false).length:Nat)+1,ms⟩:=rfl
  rw[eR]
  simp (disch:=first|assumption|omega|(simp only[zL];omega)) only[F_cy,dp,ho,dg,Desk.e,jL,wrap64,jZ,Bool.true_and,Int.reduceEq,reduceIte,zU,zT,aa]
  rcases Bool.eq_false_or_eq_true (aD ⟨4,((aC ⟨rs,f⟩ false).length:Nat)+1,ms⟩)with hr|hr
  ·simp (disch:=first|assumption|omega|(simp only[zL];omega)) only[hr,j9,Desk.e,if_true,Int.reduceEq,reduceIte,zU,zT,aa]
   simp
  ·simp[hr,dz]
theorem xN(hs:DkS ⟨up,⟨rs,f⟩,td⟩) :
  wB [.bool up,.list (rs.map Rec.e),.int .i64 f,.list (td.map Word.e),.int .i64 t] =
   some (if du ⟨up,⟨rs,f⟩,td⟩ && in_ t 1 6 then(aV ⟨up,⟨rs,f⟩,td⟩ ⟨6,t,[]⟩).e++[.bool (dN ⟨up,⟨rs,f⟩,td⟩ ⟨6,t,[]⟩)] else dz.e++[.bool false]):=by
 rw[q_ed]
 cases ho:du ⟨up,⟨rs,f⟩,td⟩with
 | false=>simp (disch:=first|assumption|omega|(simp only[zL];omega)) only[F_ed,dp,ho,Int.reduceEq,reduceIte,zU,zT,aa];simp[Desk.e,dz]
 | true =>
  have hd:=deskOk_iff.1 ho
  simp (disch:=first|assumption|omega|(simp only[zL];omega)) only[F_ed,dp,ho,nO,dg,Desk.e,Bool.true_and,Int.reduceEq,reduceIte,zU,zT,aa]
  cases ht:in_ t 1 6 with
  | false=>simp[dz]
  | true =>
   have hw:=j9 hd (k:=6) (t:=t) (ms:=[]) (by simp[aD,in_iff,in_iff.1 ht])
   simp only[List.map_nil,Desk.e]at hw
   simp (disch:=first|assumption|omega|(simp only[zL];omega)) only[hw,Int.reduceEq,reduceIte,zU,zT,aa]
   simp
theorem Ka(s:Int):wj [.int .i64 m,.int .i64 s]=some [.bool (bf ⟨m,s⟩)]:=by
 rw[q_fs]
 simp (disch:=first|assumption|omega|(simp only[zL];omega)) only[F_fs,jY,bf,Int.reduceEq,reduceIte,zU,zT,aa]
 by_cases h0:s=0
 ·simp[h0]
 ·by_cases h1:s=1
  ·simp[h1]
  ·by_cases h2:s=2
   ·simp[h2]
   ·by_cases h3:s=3
    ·simp[h3]
    ·simp[h0,h1,h2,h3]
theorem DA{hs:List Hold}(hr:0<=room/\room<=9)(ho:∀ h∈hs,bf h=true)(hl:hs.length<=100) :
  pI [.int .i64 room,.list (hs.map Hold.e)]=some [.int .i64 (free ⟨room,hs⟩)]:=by
 rw[q_bo];unfold F_bo
 simp only[List.length_map]
 have key:=ak (l:=hs) (F:=fun ps=>sD (hs.map Hold.e) ((hs.length:Nat):Int) ((aa ps 0).toInt) ((aa ps 1).toInt)) (enc:=fun i (s:Int)=>[.int .i64 s,.int .i64 i])
  (res:=fun xs _ s=>.ret [.int .i64 (s-(xs.map had).sum)]) (fun i s=>room-3*i<=s/\s<=room) (s:=room) (by simp) ?_ ?_
 ·have key:am _ [C.int .i64 room,C.int .i64 0]=_:=key
  rw[key];rfl
 ·intro i x xs s hx ⟨h1,h2⟩
  have hi:=(List.getElem?_eq_some_iff.1 hx).1
  have hi':(i:Int)<(hs.length:Nat):=by omega
  have hm:=uB (ho x (List.mem_of_getElem? hx))
  simp (disch:=first|assumption|omega|(simp only[zL];omega)) only[sD,E7 hx,Hold.e,ap,hi',if_true,wrap64,Int.reduceEq,reduceIte,zU,zT,aa]
  refine .inl ⟨s-had x,?_,by omega,by simp[Int.sub_sub]⟩
  unfold had
  by_cases e1:x.s=1
  ·simp[e1]
  ·by_cases e2:x.s=2<;>simp[e1,e2]
 ·intro s _
  have h:¬ ((hs.length:Int)<(hs.length:Nat)):=by omega
  simp (disch:=first|assumption|omega|(simp only[zL];omega)) only[sD,h,if_false,Int.reduceEq,reduceIte,zU,zT,aa]
  simp
theorem Bx{hs:List Hold}(ho:StOk ⟨room,hs⟩):wq [.int .i64 room,.list (hs.map Hold.e)]=some [.bool true]:=by
 rw[q_eq]
 have hl:hs.length=6:=ho.len
 have hc:wo [.list (hs.map Hold.e)]=some [.bool (hs.any fun x=>!bf x)]:=by
  have hi:wn [.list (hs.map Hold.e)]=some [.int .i64 (lX (fun x=>!bf x) 0 hs)]:=by
   rw[q_ai];unfold F_ai
   simp only[List.length_map]
   rw[gn (l:=hs) (fun x=>!bf x)]
   ·rfl
   ·intro i x hx
    have hi:=(List.getElem?_eq_some_iff.1 hx).1
    have hi':(i:Int)<(hs.length:Nat):=by omega
    have h1:wl [.int .i64 x.m,.int .i64 x.s]=some [.bool (!bf x)]:=by rw[q_cg];simp (disch:=first|assumption|omega|(simp only[zL];omega)) only[F_cg,Ka,Int.reduceEq,reduceIte,zU,zT,aa]
    simp (disch:=first|assumption|omega|(simp only[zL];omega)) only[yQ,E7 hx,Hold.e,ap,hi',if_true,h1,Int.reduceEq,reduceIte,zU,zT,aa]
    cases bf x<;>rfl
   ·have h:¬ ((hs.length:Int)<(hs.length:Nat)):=by omega
    simp (disch:=first|assumption|omega|(simp only[zL];omega)) only[yQ,h,if_false,Int.reduceEq,reduceIte,zU,zT,aa]
  rw[q_ae];simp (disch:=first|assumption|omega|(simp only[zL];omega)) only[F_ae,hi,dP,Bool.decide_eq_true,Int.reduceEq,reduceIte,zU,zT,aa]
 have e1:hs.any (fun x=>!bf x)=false:=by rw[List.any_eq_false];intro x hx;simp[ho.hold x hx]
 have e2:in_ room 0 9=true:=in_iff.2 ho.room
 have e3:((hs.length:Nat):Int)=6:=by omega
 have e4:free ⟨room,hs⟩>=0:=ho.free
 simp (disch:=first|assumption|omega|(simp only[zL];omega)) only[F_eq,jY,e2,e3,hc,e1,DA ho.room ho.hold (show hs.length<=100 by omega),e4,decide_true,if_true,Int.reduceEq,reduceIte,zU,zT,aa]
theorem xO:wi [.int .i64 room]=some ((if in_ room 0 9 then bS room else⟨0,[]⟩).e++[.bool (in_ room 0 9)]):=by
 rw[q_dt]
 simp (disch:=first|assumption|omega|(simp only[zL];omega)) only[F_dt,jY,Int.reduceEq,reduceIte,zU,zT,aa]
 cases in_ room 0 9<;>rfl
theorem mQ{hs:List Hold}(ho:StOk ⟨room,hs⟩)(hL:ms.length<=1099511627776) :
  pJ [.int .i64 room,.list (hs.map Hold.e),.int .i64 k,.int .i64 t,.list (ms.map eI)]=some [.bool (aD ⟨k,t,ms⟩ && may ⟨room,hs⟩ ⟨k,t,ms⟩)]:=by
 rw[q_df]
 have hl:hs.length=6:=ho.len
 simp (disch:=first|assumption|omega|(simp only[zL];omega)) only[F_df,Bx ho,jZ,Int.reduceEq,reduceIte,zU,zT,aa]
 cases hr:aD ⟨k,t,ms⟩with
 | false=>rfl
 | true =>
  have ht:=cw hr
  simp only at ht
  simp (disch:=first|assumption|omega|(simp only[zL];omega)) only[wrap64,FN,Hold.e,may,dX,DA ho.room ho.hold (show hs.length<=100 by omega),Bool.true_and,Int.reduceEq,reduceIte,zU,zT,aa]
  by_cases h1:k=1
  ·obtain⟨n,e,_⟩:=dv hr h1
   simp only at e;subst e
   simp only[h1,if_true,FP,eI,Int.reduceEq,reduceIte,zU,zT,aa]
   by_cases h0:(hAt hs t).s=0<;>simp[h0,aG]
  ·by_cases h2:k=2
   ·simp[h2,aG]
   ·by_cases h3:k=3
    ·by_cases h0:(hAt hs t).s=1<;>simp[h3,h0,aG]
    ·simp[h1,h2,h3,aG]
theorem FT(m:List Hold):(m.map Hold.e).all (ai [.int .i64,.int .i64])=true:=by simp[List.all_map,Hold.e,ai,fa,dW,Function.comp_def]
theorem CG{hs:List Hold}(hL:hs.length<=1099511627776):wu [.list (hs.map Hold.e)]=some [.list (hs.map Hold.e)]:=by
 rw[q_as]
 cases hs with
 | nil=>simp[F_as,eH,bQ,ce]
 | cons a l =>
  have:((a::l).map Hold.e).isEmpty=false:=rfl
  simp only[F_as,this,aF,List.nil_append,FT,dO]
  rw[bQ (by simp[ce]at *;omega)]
  rfl
theorem By{hs:List Hold}(ho:StOk ⟨room,hs⟩)(hL:ms.length<=1099511627776) :
  wv [.int .i64 room,.list (hs.map Hold.e),.int .i64 k,.int .i64 t,.list (ms.map eI)] =
   some (if aD ⟨k,t,ms⟩ && may ⟨room,hs⟩ ⟨k,t,ms⟩ then(act ⟨room,hs⟩ ⟨k,t,ms⟩).e++[.bool true] else [.int .i64 0,.list [],.bool false]):=by
 rw[q_fa]
 have hl:hs.length=6:=ho.len
 have hl':hs.length<=1099511627776:=by omega
 simp (disch:=first|assumption|omega|(simp only[zL];omega)) only[F_fa,mQ ho hL,CG hl',Int.reduceEq,reduceIte,zU,zT,aa]
 cases hr:aD ⟨k,t,ms⟩with
 | false=>simp
 | true =>
  cases hm:may ⟨room,hs⟩ ⟨k,t,ms⟩with
  | false=>simp
  | true =>
   have ht:=cw hr
   simp only at ht
   have hx:=rA (l:=hs) ht.1 (by omega)
   have st:∀ a b:Int,setRow 0 (hs.map Hold.e) (t-1).toNat [C.int .i64 a,C.int .i64 b]=(hs.set (t-1).toNat ⟨a,b⟩).map Hold.e:=fun a b=>bR hx rfl
   have st1:∀ a:Int,setRow 1 (hs.map Hold.e) (t-1).toNat [C.int .i64 a]=(hs.set (t-1).toNat ⟨(hAt hs t).m,a⟩).map Hold.e:=fun a=>bR hx rfl
   simp (disch:=first|assumption|omega|(simp only[zL];omega)) only[Do,wrap64,act,gU,st,st1,Bool.and_self,if_true,Int.reduceEq,reduceIte,zU,zT,aa]
   by_cases h1:k=1
   ·obtain⟨n,e,_⟩:=dv hr h1
    simp only at e;subst e
    simp only[h1,if_true,FP,eI,Int.reduceEq,reduceIte,zU,zT,aa]
    simp[Stock.e,st]
   ·by_cases h2:k=2
    ·simp[h2,Stock.e]
    ·by_cases h3:k=3
     ·simp[h3,Stock.e]
     ·exfalso;simp[may,h1,h2,h3]at hm
theorem qw(hL:rs.length<=2000000)(hm:∀ r∈rs,r.m.length<=1099511627776) :
  pK [.int .i64 room,.list (rs.map Rec.e)]=some (((bP room rs).getD ⟨0,[]⟩).e++[.bool (bP room rs).isSome]):=by
 rw[q_fu]
 simp (disch:=first|assumption|omega|(simp only[zL];omega)) only[F_fu,xO,Stock.e,List.cons_append,Int.reduceEq,reduceIte,zU,zT,aa]
 have key:=ak (l:=rs) (F:=fun ps=>ox (rs.map Rec.e) ((aa ps 0).toBool) ((aa ps 1).toInt) ((aa ps 2).toInt) ((aa ps 3).toList)) (enc:=fun i (s:Option Stock)=>[.bool s.isSome,.int .i64 i,.int .i64 (s.getD ⟨0,[]⟩).room,.list ((s.getD ⟨0,[]⟩).hs.map Hold.e)])
  (res:=fun xs _ s=>match s with
   | some l=>.ret (((bD xs l).getD ⟨0,[]⟩).e++[.bool (bD xs l).isSome])
   | none=>.ret ((⟨0,[]⟩:Stock).e++[.bool false])) (fun _ s=>∀ l,s=some l->StOk l) (s:=if in_ room 0 9 then some (bS room) else none)
   (fun l e=>by
    cases hr:in_ room 0 9 with
    | false=>simp[hr]at e
    | true=>simp only[hr,if_true,Option.some.injEq]at e;rw[<-e];exact eV (in_iff.1 hr)) ?_ ?_
 ·cases hr:in_ room 0 9 with
  | false =>
   simp only[hr,Bool.false_eq_true,if_false]at key
   have key:am _ [C.bool false,C.int .i64 0,C.int .i64 0,C.list []]=_:=key
   simp only[Bool.false_eq_true,if_false,List.map_nil]
   rw[key];simp[bP,hr,Stock.e]
  | true =>
   simp only[hr,if_true]at key
   have key:am _ [C.bool true,C.int .i64 0,C.int .i64 (bS room).room,C.list ((bS room).hs.map Hold.e)]=_:=key
   simp only[if_true]
   rw[key];simp[bP,hr,Stock.e]
 ·intro i x xs s hx hs
  have hi:=(List.getElem?_eq_some_iff.1 hx).1
  have hi':(i:Int)<(rs.length:Nat):=by omega
  have hxm:=hm x (List.mem_of_getElem? hx)
  cases s with
  | none=>exact .inr ⟨_,rfl,rfl⟩
  | some l =>
   have hT:=hs l rfl
   have hT':StOk ⟨l.room,l.hs⟩:=hT
   simp (disch:=first|assumption|omega|(simp only[zL];omega)) only[ox,Option.isSome_some,Option.getD_some,fE hx,Rec.e,hi',if_true,By hT' hxm,Int.reduceEq,reduceIte,zU,zT,aa]
   rcases Bool.eq_false_or_eq_true (aD x && may l x)with h|h
   ·simp only[h,if_true]
    refine .inl ⟨some (act l x),?_,fun l' e=>?_,by simp[bD,h]⟩
    ·simp (disch:=first|assumption|omega|(simp only[zL];omega)) only[ap,Option.isSome_some,Option.getD_some,Stock.e,List.cons_append,Int.reduceEq,reduceIte,zU,zT,aa]
    ·simp only[Option.some.injEq]at e;rw[<-e]
     simp only[Bool.and_eq_true]at h
     exact oC hT h.1 h.2
   ·simp only[h,Bool.false_eq_true,if_false]
    refine .inl ⟨none,?_,?_,?_⟩
    ·simp (disch:=first|assumption|omega|(simp only[zL];omega)) only[ap,Option.isSome_none,Option.getD_none,Int.reduceEq,reduceIte,zU,zT,aa]
     try simp
    ·intro l' e;cases e
    ·simp[bD,h]
 ·intro s hs
  have h:¬ ((rs.length:Int)<(rs.length:Nat)):=by omega
  cases s with
  | none=>simp[ox,aa,Stock.e]
  | some l=>simp[ox,aa,aK,bD,Stock.e]
end
end Dx
namespace Dx
open Go
def hz:House:=⟨0,false,0,⟨[],0⟩⟩
section
variable {up b:Bool} {rs:List Rec} {f:Int} {td:List Word} {k h t m keep:Int} {ms:List Int} {id room:Int} {hs:List House} {ns:List Word}
theorem ei(hl:LgS ⟨rs,f⟩):gA [.int .i64 id,.bool up,.int .i64 room,.list (rs.map Rec.e),.int .i64 f]=some [.bool (cD ⟨id,up,room,⟨rs,f⟩⟩)]:=by
 rw[q_fr]
 simp (disch:=first|assumption|omega|(simp only[zL];omega)) only[F_fr,cP,j8,qw hl.l hl.m,Stock.e,List.cons_append,cD,Int.reduceEq,reduceIte,zU,zT,aa]
 cases in_ id 1 3<;>cases fB ⟨rs,f⟩<;>simp
theorem dy(hl:LgS ⟨rs,f⟩):iL [.int .i64 id,.bool up,.int .i64 room,.list (rs.map Rec.e),.int .i64 f]=some (House.e ⟨id,up,room,⟨rs,f⟩⟩):=by
 rw[q_bb]
 simp (disch:=first|assumption|omega|(simp only[zL];omega)) only[F_bb,gQ,Int.reduceEq,reduceIte,zU,zT,aa]
 rfl
theorem zZ(hl:LgOk ⟨rs,f⟩):mi [.int .i64 id,.bool up,.int .i64 room,.list (rs.map Rec.e),.int .i64 f,.bool b]=some (aq ⟨id,up,room,⟨rs,f⟩⟩ b).e:=by
 rw[q_be]
 have hs:=hl.S
 have h1:(aO ⟨rs,f⟩ b).length<=2000000:=by have:=hs.l;unfold aO;split<;>simp<;>omega
 have h2:∀ r∈aO ⟨rs,f⟩ b,r.m.length<=1099511627776:=fun r hr=>hs.2 r (by unfold aO at hr;split at hr;exact List.mem_of_mem_take hr;exact hr)
 simp (disch:=first|assumption|omega|(simp only[zL];omega)) only[F_be,zY (fun _=>⟨hl.lo,hl.hi⟩),qw h1 h2,Stock.e,List.cons_append,aq,Int.reduceEq,reduceIte,zU,zT,aa]
def Js(w:Word)(all forced:Int):Int:=if w.k=1/\all=0 then 5 else(oW (answer 0 w forced)).k
theorem xP(ho:HsOk ⟨id,up,room,⟨rs,f⟩⟩)(ht:1<=t/\t<=6) :
  wC [.int .i64 id,.bool up,.int .i64 room,.list (rs.map Rec.e),.int .i64 f,.int .i64 k,.int .i64 h,.int .i64 t,.int .i64 m] =
   some [.int .i64 (Js ⟨k,h,t,m⟩ (dX (aq ⟨id,up,room,⟨rs,f⟩⟩ false) t) (dX (aq ⟨id,up,room,⟨rs,f⟩⟩ true) t))]:=by
 rw[q_ay]
 have hlg:LgOk ⟨rs,f⟩:=ho.lg
 have lA:=(ho.stOk false).len
 have lF:=(ho.stOk true).len
 have j0:∀(st:Int) (c:Bool),ah (yT k st c)=some [.int .i64 (if c then 4 else if k=1/\st=3 then 5 else if k=2/\st=2 then 6 else if k=3/\st=3 then 7 else 0)]:=by
  intro st c
  unfold yT
  cases c with
  | true=>rfl
  | false =>
   simp only[aF,bo,Bool.false_eq_true,if_false]
   by_cases h1:k=1
   ·by_cases h3:st=3<;>simp[h1,h3]
   ·by_cases h2:k=2
    ·by_cases h3:st=2<;>simp[h2,h3]
    ·by_cases h3:k=3
     ·by_cases h4:st=3<;>simp[h3,h4]
     ·simp[h1,h2,h3]
 have j1:∀(st:Int) (c:Bool),ah (yU k st c)=some [.int .i64 (if c then 5 else if k=1/\(st=1\/st=2) then 4 else if k=1/\st=3 then 5 else if k=2/\st=2 then 6 else if k=3/\st=3 then 7 else 0)]:=by
  intro st c
  unfold yU
  cases c with
  | true=>rfl
  | false =>
   simp only[aF,bo,Bool.false_eq_true,if_false]
   by_cases h1:k=1
   ·by_cases h3:st=1
    ·simp[h1,h3,aa];rw[<-h1,j0];simp
    ·simp[h1,h3,aa];rw[<-h1,j0];simp[h1]
   ·simp only[h1,if_false,aZ,aa,C.toBool_bool];rw[j0];simp[h1]
 simp (disch:=first|assumption|omega|(simp only[zL];omega)) only[F_ay,zZ hlg,Stock.e,FN,wrap64,Hold.e,dX,Int.reduceEq,reduceIte,zT,aa]
 simp only[bo]
 by_cases h1:k=1
 ·simp only[h1,if_true,aZ,aa,C.toBool_bool]
  rw[<-h1,j1]
  unfold Js answer oW
  by_cases h0:(hAt (aq ⟨id,up,room,⟨rs,f⟩⟩ false).hs t).s=0
  ·simp[h1,h0]
  ·generalize (hAt (aq ⟨id,up,room,⟨rs,f⟩⟩ true).hs t).s=st
   by_cases s1:st=1
   ·simp[h1,h0,s1]
   ·by_cases s2:st=2
    ·simp[h1,h0,s2]
    ·by_cases s3:st=3<;>simp[h1,h0,s1,s2,s3]
 ·simp only[h1,if_false,aZ,aa,C.toBool_bool]
  rw[j1]
  unfold Js answer oW
  generalize (hAt (aq ⟨id,up,room,⟨rs,f⟩⟩ true).hs t).s=st
  by_cases h2:k=2
  ·by_cases s2:st=2<;>simp[h2,s2]
  ·by_cases h3:k=3
   ·by_cases s3:st=3<;>simp[h3,s3]
   ·simp[h1,h2,h3]
theorem DB{id:Int}{w:Word}{st:Int}:(oW (answer 0 w st)).k=0↔answer id w st=none:=by
 unfold answer oW
 split
 ·simp
 ·split
  ·simp
  ·split
   ·simp
   ·split<;>simp
theorem Kb{id:Int}{w x:Word}{st:Int}(h:answer id w st=some x):x=⟨(oW (answer 0 w st)).k,id,w.t,0⟩:=by
 unfold answer oW at *
 split at h
 ·rename_i c;simp only[Option.some.injEq]at h;subst h;simp[c]
 ·rename_i c1
  split at h
  ·rename_i c;simp only[Option.some.injEq]at h;subst h;simp[c]
  ·rename_i c2
   split at h
   ·rename_i c;simp only[Option.some.injEq]at h;subst h;simp[c]
   ·rename_i c3
    split at h
    ·rename_i c;simp only[Option.some.injEq]at h;subst h;simp[c]
    ·cases h
theorem t8(ho:HsOk ⟨id,up,room,⟨rs,f⟩⟩) :
  pS [.int .i64 id,.bool up,.int .i64 room,.list (rs.map Rec.e),.int .i64 f,.int .i64 k,.int .i64 h,.int .i64 t,.int .i64 m] =
   some ((bZ ⟨id,up,room,⟨rs,f⟩⟩ ⟨k,h,t,m⟩).1.e++((oW (bZ ⟨id,up,room,⟨rs,f⟩⟩ ⟨k,h,t,m⟩).2).e++[.bool (bZ ⟨id,up,room,⟨rs,f⟩⟩ ⟨k,h,t,m⟩).2.isSome])):=by
 rw[q_cb]
 have hlg:LgOk ⟨rs,f⟩:=ho.lg
 have hS:=hlg.S
 have hok:cD ⟨id,up,room,⟨rs,f⟩⟩=true:=houseOk_iff.2 ho
 have hlo:fB ⟨rs,f⟩=true:=logOk_iff.2 hlg
 simp (disch:=first|assumption|omega|(simp only[zL];omega)) only[F_cb,ei,hok,dy,House.e,jK,gW,bZ,Int.reduceEq,reduceIte,zU,zT,aa]
 cases up with
 | false=>rfl
 | true =>
  cases hw:bj ⟨k,h,t,m⟩with
  | false=>rfl
  | true =>
   have wok:=wordOk_iff.1 hw
   have wt:=wok.t
   have wk:=wok.k
   simp only at wt wk
   simp only[aI,Bool.not_true,Bool.false_or]
   by_cases h4:k>=4
   ·have h3:k>3:=by omega
    simp[h4,h3,House.e,oW,Word.e]
   ·have h3:¬ k>3:=by omega
    by_cases e1:h=id
    ·subst e1
     have hms:(if k=1 then lL k h t m h true room (rs.map Rec.e) f [[C.int .i64 m]] else lL k h t m h true room (rs.map Rec.e) f [])=lL k h t m h true room (rs.map Rec.e) f ((bl ⟨k,h,t,m⟩).m.map eI):=by
      by_cases h1:k=1
      ·simp[h1,bl,eI]
      ·by_cases h2:k=2<;>simp[h1,h2,bl]
     have hr:=cy wok
     have er:bl ⟨k,h,t,m⟩=⟨k,t,(bl ⟨k,h,t,m⟩).m⟩:=by
      by_cases h1:k=1
      ·simp[h1,bl]
      ·by_cases h2:k=2
       ·simp[h2,bl]
       ·have:k=3:=by omega
        simp[this,bl]
     have sA:=ho.stOk false
     have sA':StOk ⟨(aq ⟨h,true,room,⟨rs,f⟩⟩ false).room,(aq ⟨h,true,room,⟨rs,f⟩⟩ false).hs⟩:=sA
     have hml:=dw hr
     have hml':(bl ⟨k,h,t,m⟩).m.length<=1099511627776:=by omega
     have hmay:=mQ (k:=k) (t:=t) sA' hml'
     have hadd:=uH (k:=k) (t:=t) hS hml'
     rw[<-er]at hmay hadd
     simp only[Dt,hr,hlo,Bool.true_and,Bool.and_self,if_true]at hmay hadd
     have hans:=xP (k:=k) (h:=h) (m:=m) ho wt
     have hj:ah (lL k h t m h true room (rs.map Rec.e) f ((bl ⟨k,h,t,m⟩).m.map eI))=some ((if may (aq ⟨h,true,room,⟨rs,f⟩⟩ false) (bl ⟨k,h,t,m⟩)=true then((⟨h,true,room,dd ⟨rs,f⟩ (bl ⟨k,h,t,m⟩)⟩:House),(none:Option Word))
       else if k=1/\dX (aq ⟨h,true,room,⟨rs,f⟩⟩ false) t=0 then(⟨h,true,room,⟨rs,f⟩⟩,some ⟨5,h,t,0⟩)
       else(⟨h,true,room,⟨rs,f⟩⟩,answer h ⟨k,h,t,m⟩ (dX (aq ⟨h,true,room,⟨rs,f⟩⟩ true) t))).1.e++((oW (if may (aq ⟨h,true,room,⟨rs,f⟩⟩ false) (bl ⟨k,h,t,m⟩)=true then((⟨h,true,room,dd ⟨rs,f⟩ (bl ⟨k,h,t,m⟩)⟩:House),(none:Option Word))
       else if k=1/\dX (aq ⟨h,true,room,⟨rs,f⟩⟩ false) t=0 then(⟨h,true,room,⟨rs,f⟩⟩,some ⟨5,h,t,0⟩)
       else(⟨h,true,room,⟨rs,f⟩⟩,answer h ⟨k,h,t,m⟩ (dX (aq ⟨h,true,room,⟨rs,f⟩⟩ true) t))).2).e++[.bool (if may (aq ⟨h,true,room,⟨rs,f⟩⟩ false) (bl ⟨k,h,t,m⟩)=true then((⟨h,true,room,dd ⟨rs,f⟩ (bl ⟨k,h,t,m⟩)⟩:House),(none:Option Word))
       else if k=1/\dX (aq ⟨h,true,room,⟨rs,f⟩⟩ false) t=0 then(⟨h,true,room,⟨rs,f⟩⟩,some ⟨5,h,t,0⟩)
       else(⟨h,true,room,⟨rs,f⟩⟩,answer h ⟨k,h,t,m⟩ (dX (aq ⟨h,true,room,⟨rs,f⟩⟩ true) t))).2.isSome])):=by
      unfold lL
      simp (disch:=first|assumption|omega|(simp only[zL];omega)) only[zZ hlg,Stock.e,hmay,hadd,hans,Int.reduceEq,reduceIte,zT,aa]
      cases may (aq ⟨h,true,room,⟨rs,f⟩⟩ false) (bl ⟨k,h,t,m⟩)with
      | true=>simp[House.e,zd,oW,Word.e]
      | false =>
       simp only[aF,bo,Bool.false_eq_true,if_false,Js]
       by_cases c:k=1/\dX (aq ⟨h,true,room,⟨rs,f⟩⟩ false) t=0
       ·simp[c,House.e,oW,Word.e]
       ·simp only[c,if_false]
        cases ha:answer h ⟨k,h,t,m⟩ (dX (aq ⟨h,true,room,⟨rs,f⟩⟩ true) t)with
        | none =>
         have:=(DB (id:=h)).2 ha
         simp only[this,if_true]
         simp[House.e,oW,Word.e]
        | some x =>
         have h0:¬ (oW (answer 0 ⟨k,h,t,m⟩ (dX (aq ⟨h,true,room,⟨rs,f⟩⟩ true) t))).k=0:=fun e=>by
          rw[(DB (id:=h)).1 e]at ha;cases ha
         have hx:=Kb ha
         simp only[h0,if_false]
         subst hx
         simp[House.e,oW,Word.e]
     simp only[h4,if_false,if_true,hms,hj,h3,decide_false,bne_self_eq_false,Bool.or_self,Bool.false_eq_true]
     rfl
    ·simp[h4,h3,e1,House.e,oW,Word.e]
end
end Dx
namespace Dx
open Go
theorem jM{l:List House}{i:Int}(h1:1<=i)(h2:i<=l.length)(id:Int)(up:Bool)(room:Int)(rs:List Rec)(f:Int) :
  setRow 0 (l.map House.e) (i-1).toNat [.int .i64 id,.bool up,.int .i64 room,.list (rs.map Rec.e),.int .i64 f]=(l.set (i-1).toNat ⟨id,up,room,⟨rs,f⟩⟩).map House.e :=
 bR (uC h1 h2) rfl
section
variable {up b:Bool} {rs:List Rec} {f:Int} {td:List Word} {k h t m keep:Int} {ms:List Int} {id room:Int} {hs:List House} {ns:List Word}
theorem re(ho:HsOk ⟨id,up,room,⟨rs,f⟩⟩):wF [.int .i64 id,.bool up,.int .i64 room,.list (rs.map Rec.e),.int .i64 f]=some (bA ⟨id,up,room,⟨rs,f⟩⟩).e:=by
 rw[q_bz]
 have hlg:LgOk ⟨rs,f⟩:=ho.lg
 have hS:=hlg.S
 have hok:=houseOk_iff.2 ho
 simp (disch:=first|assumption|omega|(simp only[zL];omega)) only[F_bz,ei,hok,dy,House.e,mP hlg,Log.e,Int.reduceEq,reduceIte,zU,zT,aa]
 cases up<;>rfl
theorem t9(ho:HsOk ⟨id,up,room,⟨rs,f⟩⟩):wM [.int .i64 id,.bool up,.int .i64 room,.list (rs.map Rec.e),.int .i64 f]=some (eU ⟨id,up,room,⟨rs,f⟩⟩).e:=by
 rw[q_cl]
 have hlg:LgOk ⟨rs,f⟩:=ho.lg
 have hS:=hlg.S
 have hok:=houseOk_iff.2 ho
 simp (disch:=first|assumption|omega|(simp only[zL];omega)) only[F_cl,ei,hok,dy,House.e,Int.reduceEq,reduceIte,zU,zT,aa]
 rfl
theorem ub(ho:HsOk ⟨id,up,room,⟨rs,f⟩⟩) :
  wI [.int .i64 id,.bool up,.int .i64 room,.list (rs.map Rec.e),.int .i64 f,.int .i64 keep]=some (hfall ⟨id,up,room,⟨rs,f⟩⟩ keep).e:=by
 rw[q_cc]
 have hlg:LgOk ⟨rs,f⟩:=ho.lg
 have hS:=hlg.S
 have hok:=houseOk_iff.2 ho
 simp (disch:=first|assumption|omega|(simp only[zL];omega)) only[F_cc,ei,hok,qv hlg,Log.e,Int.reduceEq,reduceIte,zU,zT,aa]
 rfl
theorem ze(hL:ns.length<=1000) :
  iM [.bool up,.list (rs.map Rec.e),.int .i64 f,.list (td.map Word.e),.list (hs.map House.e),.list (ns.map Word.e),.int .i64 k,.int .i64 h,.int .i64 t,.int .i64 m]=some (mm ⟨⟨up,⟨rs,f⟩,td⟩,hs,ns⟩ ⟨k,h,t,m⟩).e:=by
 rw[q_br]
 simp (disch:=first|assumption|omega|(simp only[zL];omega)) only[F_br,mm,Int.reduceEq,reduceIte,zU,zT,aa]
 by_cases hn:ns.length<14
 ·have h':((ns.length:Nat):Int)<14:=by omega
  have hc:ns.length+1<=1099511627776:=by omega
  simp[hn,h',Wd.e,Word.e,ce,hc]
 ·have h':¬ (((ns.length:Nat):Int)<14):=by omega
  simp[hn,h',Wd.e]
theorem z4(ho:WOk ⟨⟨up,⟨rs,f⟩,td⟩,hs,ns⟩)(hx:WdOk ⟨k,h,t,m⟩) :
  sM [.bool up,.list (rs.map Rec.e),.int .i64 f,.list (td.map Word.e),.list (hs.map House.e),.list (ns.map Word.e),.int .i64 k,.int .i64 h,.int .i64 t,.int .i64 m] =
   some ((oW (ba ⟨⟨up,⟨rs,f⟩,td⟩,hs,ns⟩ ⟨k,h,t,m⟩).2).e++(.bool (ba ⟨⟨up,⟨rs,f⟩,td⟩,hs,ns⟩ ⟨k,h,t,m⟩).2.isSome::(ba ⟨⟨up,⟨rs,f⟩,td⟩,hs,ns⟩ ⟨k,h,t,m⟩).1.e)):=by
 rw[q_bi]
 have hd:DkOk ⟨up,⟨rs,f⟩,td⟩:=ho.dk
 have hl:hs.length=3:=ho.len
 have hh:=hx.h
 simp only at hh
 by_cases h4:k>=4
 ·simp (disch:=first|assumption|omega|(simp only[zL];omega)) only[F_bi,gW,Dz,ba,h4,if_true,decide_true,Desk.e,Int.reduceEq,reduceIte,zU,zT,aa]
  simp[Wd.e,oW,Word.e]
 ·have hho:=(ho.houseAt (i:=h) hh).2.1
  rw[bp]at hho
  simp only at hho
  have hho':HsOk ⟨(dm hs h).id,(dm hs h).up,(dm hs h).room,⟨(dm hs h).lg.rs,(dm hs h).lg.f⟩⟩:=hho
  have h2:h<=hs.length:=by omega
  have hset:=fun id up room rs f=>jM (l:=hs) hh.1 h2 id up room rs f
  simp (disch:=first|assumption|omega|(simp only[zL];omega)) only[F_bi,gW,ba,h4,if_false,decide_false,wrap64,mK,House.e,t8,List.cons_append,Word.e,hset,lE,jx,eqD,List.set_set,bp,Int.reduceEq,reduceIte,zU,zT,aa]
  simp[Wd.e,setHouse]
theorem kT(ho:WOk ⟨⟨up,⟨rs,f⟩,td⟩,hs,ns⟩){i:Int} :
  pU [.bool up,.list (rs.map Rec.e),.int .i64 f,.list (td.map Word.e),.list (hs.map House.e),.list (ns.map Word.e),.int .i64 i]=some (ct ⟨⟨up,⟨rs,f⟩,td⟩,hs,ns⟩ i).e:=by
 rw[q_ab]
 have hd:DkOk ⟨up,⟨rs,f⟩,td⟩:=ho.dk
 have hl:hs.length=3:=ho.len
 by_cases h0:i=0
 ·subst h0
  simp (disch:=first|assumption|omega|(simp only[zL];omega)) only[Ip,ct,t6,Desk.e,Int.reduceEq,reduceIte,zU,zT,aa]
  simp[Wd.e]
 ·cases hi:in_ i 1 3 with
  | false=>simp (disch:=first|assumption|omega|(simp only[zL];omega)) only[Ip,cP,ct,h0,hi,if_false,Int.reduceEq,reduceIte,zU,zT,aa];simp[Wd.e]
  | true =>
   have hi':=in_iff.1 hi
   have hho:=(ho.houseAt (i:=i) hi').2.1
   rw[bp]at hho
   simp only at hho
   have hho':HsOk ⟨(dm hs i).id,(dm hs i).up,(dm hs i).room,⟨(dm hs i).lg.rs,(dm hs i).lg.f⟩⟩:=hho
   have h2:i<=hs.length:=by omega
   have hset:=fun id up room rs f=>jM (l:=hs) hi'.1 h2 id up room rs f
   simp (disch:=first|assumption|omega|(simp only[zL];omega)) only[Ip,cP,ct,h0,hi,if_false,if_true,wrap64,mK,House.e,re,hset,lE,jx,eqD,List.set_set,bp,Int.reduceEq,reduceIte,zU,zT,aa]
   simp[Wd.e,setHouse]
theorem mS(ho:WOk ⟨⟨up,⟨rs,f⟩,td⟩,hs,ns⟩){i:Int} :
  pW [.bool up,.list (rs.map Rec.e),.int .i64 f,.list (td.map Word.e),.list (hs.map House.e),.list (ns.map Word.e),.int .i64 i]=some (cg ⟨⟨up,⟨rs,f⟩,td⟩,hs,ns⟩ ⟨9,i,0,[]⟩).e:=by
 rw[q_af]
 have hd:DkOk ⟨up,⟨rs,f⟩,td⟩:=ho.dk
 have hl:hs.length=3:=ho.len
 by_cases h0:i=0
 ·subst h0
  have e0:in_ 0 0 3=true:=rfl
  simp (disch:=first|assumption|omega|(simp only[zL];omega)) only[IA,cg,e0,xM,Desk.e,Int.reduceEq,reduceIte,zU,zT,aa]
  simp[Wd.e]
 ·cases hi:in_ i 1 3 with
  | false =>
   have e0:in_ i 0 3=false:=by rw[in_false]at hi ⊢;omega
   simp (disch:=first|assumption|omega|(simp only[zL];omega)) only[IA,cP,cg,e0,h0,hi,if_false,Int.reduceEq,reduceIte,zU,zT,aa];simp[Wd.e]
  | true =>
   have hi':=in_iff.1 hi
   have e0:in_ i 0 3=true:=in_iff.2 (by omega)
   have hho:=(ho.houseAt (i:=i) hi').2.1
   rw[bp]at hho
   simp only at hho
   have hho':HsOk ⟨(dm hs i).id,(dm hs i).up,(dm hs i).room,⟨(dm hs i).lg.rs,(dm hs i).lg.f⟩⟩:=hho
   have h2:i<=hs.length:=by omega
   have hset:=fun id up room rs f=>jM (l:=hs) hi'.1 h2 id up room rs f
   simp (disch:=first|assumption|omega|(simp only[zL];omega)) only[IA,cP,cg,e0,h0,hi,if_false,if_true,wrap64,mK,House.e,t9,hset,lE,jx,eqD,List.set_set,bp,Int.reduceEq,reduceIte,zU,zT,aa]
   simp[Wd.e,setHouse]
theorem i_do1(hd:DkOk ⟨up,⟨rs,f⟩,td⟩){k a:Int}{mc:List (List C)} :
  wH [.bool up,.list (rs.map Rec.e),.int .i64 f,.list (td.map Word.e),.int .i64 k,.int .i64 a,.int .i64 keep,.list mc]=some (dfall ⟨up,⟨rs,f⟩,td⟩ keep).e:=by
 rw[q_bw]
 simp (disch:=first|assumption|omega|(simp only[zL];omega)) only[F_bw,xL hd,Desk.e,Int.reduceEq,reduceIte,zU,zT,aa]
theorem i_do2(ho:HsOk ⟨id,up,room,⟨rs,f⟩⟩){k a:Int}{mc:List (List C)} :
  wJ [.int .i64 id,.bool up,.int .i64 room,.list (rs.map Rec.e),.int .i64 f,.int .i64 k,.int .i64 a,.int .i64 keep,.list mc]=some (hfall ⟨id,up,room,⟨rs,f⟩⟩ keep).e:=by
 rw[q_bl]
 simp (disch:=first|assumption|omega|(simp only[zL];omega)) only[F_bl,ub ho,House.e,Int.reduceEq,reduceIte,zU,zT,aa]
theorem xQ(ho:WOk ⟨⟨up,⟨rs,f⟩,td⟩,hs,ns⟩){i:Int}{k a k' a':Int}{mc mc':List (List C)} :
  wK [.bool up,.list (rs.map Rec.e),.int .i64 f,.list (td.map Word.e),.list (hs.map House.e),.list (ns.map Word.e),.int .i64 i,.int .i64 k,.int .i64 a,.int .i64 keep,.list mc,.int .i64 k',.int .i64 a',.int .i64 keep,.list mc']=some (cg ⟨⟨up,⟨rs,f⟩,td⟩,hs,ns⟩ ⟨8,i,keep,[]⟩).e:=by
 rw[q_aa]
 have hd:DkOk ⟨up,⟨rs,f⟩,td⟩:=ho.dk
 have hl:hs.length=3:=ho.len
 by_cases h0:i=0
 ·subst h0
  have e0:in_ 0 0 3=true:=rfl
  simp (disch:=first|assumption|omega|(simp only[zL];omega)) only[Iw,cg,e0,i_do1 hd,Desk.e,Int.reduceEq,reduceIte,zU,zT,aa]
  simp[Wd.e]
 ·cases hi:in_ i 1 3 with
  | false =>
   have e0:in_ i 0 3=false:=by rw[in_false]at hi ⊢;omega
   simp (disch:=first|assumption|omega|(simp only[zL];omega)) only[Iw,cP,cg,e0,h0,hi,if_false,Int.reduceEq,reduceIte,zU,zT,aa];simp[Wd.e]
  | true =>
   have hi':=in_iff.1 hi
   have e0:in_ i 0 3=true:=in_iff.2 (by omega)
   have hho:=(ho.houseAt (i:=i) hi').2.1
   rw[bp]at hho
   simp only at hho
   have hho':HsOk ⟨(dm hs i).id,(dm hs i).up,(dm hs i).room,⟨(dm hs i).lg.rs,(dm hs i).lg.f⟩⟩:=hho
   have h2:i<=hs.length:=by omega
   have hset:=fun id up room rs f=>jM (l:=hs) hi'.1 h2 id up room rs f
   simp (disch:=first|assumption|omega|(simp only[zL];omega)) only[Iw,cP,cg,e0,h0,hi,if_false,if_true,wrap64,mK,House.e,i_do2 hho',hset,lE,jx,eqD,List.set_set,bp,Int.reduceEq,reduceIte,zU,zT,aa]
   simp[Wd.e,setHouse]
theorem Bz:xk []=some deskNew.e:=by rw[q_fh];rfl
theorem xR:xl [.int .i64 id,.int .i64 room] =
  some (if in_ id 1 3 && in_ room 0 9 then(⟨id,true,room,⟨[],0⟩⟩:House).e++[.bool true] else(⟨0,false,0,⟨[],0⟩⟩:House).e++[.bool false]):=by
 rw[q_dh]
 simp (disch:=first|assumption|omega|(simp only[zL];omega)) only[F_dh,cP,jY,Int.reduceEq,reduceIte,zU,zT,aa]
 cases in_ id 1 3<;>cases in_ room 0 9<;>rfl
theorem xS{rooms:List Int}(hL:rooms.length<=1099511627775):xm [.list (rooms.map eI)]=some (((bg rooms).getD wd0).e++[.bool (bg rooms).isSome]):=by
 rw[q_dy]
 simp (disch:=first|assumption|omega|(simp only[zL];omega)) only[F_dy,Bz,Desk.e,deskNew,Int.reduceEq,reduceIte,zU,zT,aa]
 by_cases h3:((rooms.length:Nat):Int)=3
 case neg =>
  have:bg rooms=none:=by unfold bg;rw[if_neg];omega
  simp[h3,this,Wd.e,wd0]
 have h3':rooms.length=3:=by omega
 simp only[h3,if_true]
 have key:=ak (l:=rooms) (F:=fun ps=>s7 (rooms.map eI) true [] 0 [] 3 ((aa ps 0).toInt) ((aa ps 1).toList)) (enc:=fun i (s:List House)=>[.int .i64 i,.list (s.map House.e)])
  (res:=fun xs i s=>.ret (((if xs.all (fun n=>in_ n 0 9)=true then some (⟨deskNew,s++nh i xs,[]⟩:Wd) else none).getD wd0).e++[.bool (if xs.all (fun n=>in_ n 0 9)=true then some (⟨deskNew,s++nh i xs,[]⟩:Wd) else none).isSome])) (fun i s=>s.length=i) (s:=[]) (by simp) ?_ ?_
 ·have key:am _ [C.int .i64 0,C.list []]=_:=key
  simp only[List.map_nil]at key ⊢
  rw[key]
  have:(if rooms.all (fun n=>in_ n 0 9)=true then some (⟨deskNew,[]++nh 0 rooms,[]⟩:Wd) else none)=bg rooms:=by
   unfold bg c8
   rw[E8];simp[h3']
  rw[this];rfl
 ·intro i x xs s hx hs
  have hi:=(List.getElem?_eq_some_iff.1 hx).1
  have hi':(i:Int)<3:=by omega
  simp only[s7,aa,C.toInt_int,C.toList_list,aK,hi',if_true,gF hx,eI]
  simp (disch:=first|assumption|omega|(simp only[zL];omega)) only[ap,xR]
  have hid:in_ ((i+1:Nat):Int) 1 3=true:=in_iff.2 (by omega)
  simp only[hid,Bool.true_and]
  cases hok:in_ x 0 9 with
  | true =>
   simp only[House.e,List.cons_append,List.nil_append,kv,aa,C.toInt_int,C.toList_list,C.toBool_bool,List.map_nil,Bool.not_true,aF,if_true]
   rw[bQ (by simp[ce];omega)]
   refine .inl ⟨s++[⟨((i+1:Nat):Int),true,x,⟨[],0⟩⟩],by simp[House.e],by simp[hs],?_⟩
   simp[nh,hok]
  | false =>
   refine .inr ⟨_,rfl,?_⟩
   simp only[List.all_cons,hok,Bool.false_and,Bool.false_eq_true,if_false];rfl
 ·intro s hs
  have h:¬ ((rooms.length:Int)<3):=by omega
  simp only[s7,aa,C.toInt_int,C.toList_list,aK,h,if_false]
  simp[upD,nh,Wd.e,deskNew]
end
end Dx
namespace Dx
open Go
section
variable {up b:Bool} {rs:List Rec} {f:Int} {td:List Word} {k h t m keep:Int} {ms:List Int} {id room:Int} {hs:List House} {ns:List Word}
theorem CH{r:List (List C)}{i:Nat}{x12 x13:Int}(hi:i<=100)(hm:ms.length<=3)(hL:td.length<=1099511627775)(h14:b=true->x13=lD x12){acc:List Word}(ha:acc.length<=300) :
  am (fun ps=>oy up r f (td.map Word.e) ((i:Nat):Int) (ms.map eI) x12 x13 b ((ms.length:Nat):Int) ((aa ps 0).toInt) ((aa ps 1).toList)) [.int .i64 0,.list (acc.map Word.e)] =
   some (.jump [.int .i64 ((i+1:Nat):Int),.list ((acc++if b then aT td x12 ((i+1:Nat):Int) 1 ms else []).map Word.e)]):=by
 have key:=ak (l:=ms) (F:=fun ps=>oy up r f (td.map Word.e) ((i:Nat):Int) (ms.map eI) x12 x13 b ((ms.length:Nat):Int) ((aa ps 0).toInt) ((aa ps 1).toList)) (enc:=fun j (s:List Word)=>[.int .i64 j,.list (s.map Word.e)])
  (res:=fun xs j s=>.jump [.int .i64 ((i+1:Nat):Int),.list ((s++if b then aT td x12 ((i+1:Nat):Int) ((j+1:Nat):Int) xs else []).map Word.e)]) (fun j s=>s.length<=300+j) (s:=acc) (by omega) ?_ ?_
 ·have key:am _ [C.int .i64 0,C.list (acc.map Word.e)]=_:=key
  rw[key];rfl
 ·intro j x xs s hx hs
  have hj:=(List.getElem?_eq_some_iff.1 hx).1
  have hj':(j:Int)<(ms.length:Nat):=by omega
  have e1:((j+1:Nat):Int)+1=((j+1+1:Nat):Int):=by omega
  have hc:s.length+1<=1099511627776:=by omega
  simp (disch:=first|assumption|omega|(simp only[zL];omega)) only[oy,gF hx,eI,ap,hj',if_true,Dw,Int.reduceEq,reduceIte,zU,zT,aa]
  cases b with
  | false =>
   exact .inl ⟨s,by simp,by omega,by simp⟩
  | true =>
   have h13:=h14 rfl
   simp only[aT,fk,e1,if_true]
   rw[h13]
   by_cases h0:x=0
   ·simp only[h0,if_true,true_or,List.nil_append]
    exact .inl ⟨s,rfl,by omega,rfl⟩
   ·simp only[h0,if_false,false_or]
    cases hcn:td.contains ⟨lD x12,((j+1:Nat):Int),((i+1:Nat):Int),0⟩with
    | true =>
     simp only[aI,if_true,List.nil_append]
     exact .inl ⟨s,rfl,by omega,rfl⟩
    | false =>
     simp only[aF,Bool.false_eq_true,if_false]
     by_cases h1:x12=1
     ·subst h1
      simp only[if_true,aI]
      exact .inl ⟨s++[⟨1,((j+1:Nat):Int),((i+1:Nat):Int),x⟩],by simp[Word.e],by simp;omega,by simp⟩
     ·simp only[h1,if_false]
      simp only[aI]
      exact .inl ⟨s++[⟨x12,((j+1:Nat):Int),((i+1:Nat):Int),0⟩],by simp[Word.e],by simp;omega,by simp⟩
 ·intro s hs
  have h:¬ ((ms.length:Int)<(ms.length:Nat)):=by omega
  simp (disch:=first|assumption|omega|(simp only[zL];omega)) only[oy,h,if_false,ap,Int.reduceEq,reduceIte,zU,zT,aa]
  cases b<;>simp[upD,aT]
theorem z5(hd:DkOk ⟨up,⟨rs,f⟩,td⟩):pR [.bool up,.list (rs.map Rec.e),.int .i64 f,.list (td.map Word.e)]=some [.list ((aW ⟨up,⟨rs,f⟩,td⟩).map Word.e)]:=by
 rw[q_bk]
 have hS:=hd.lg.S
 have hS':LgS ⟨rs,f⟩:=hS
 have h1:0<=f:=hd.lg.lo
 have h2:f<=rs.length:=hd.lg.hi
 have hT:TrOk (aC ⟨rs,f⟩ true):=hd.trOk true
 have htl:td.length<=1099511627775:=by have:=hd.tdlen;simp only at this;omega
 cases up with
 | false=>simp[F_bk,aW]
 | true =>
  simp (disch:=first|assumption|omega|(simp only[zL];omega)) only[F_bk,rC hS' (fun _=>⟨h1,h2⟩),Int.reduceEq,reduceIte,zU,zT,aa]
  have ed:aW ⟨true,⟨rs,f⟩,td⟩=cC td 1 (aC ⟨rs,f⟩ true):=rfl
  rw[ed]
  generalize aC ⟨rs,f⟩ true=l at hT
  have hl6:=hT.len
  have key:=ak (l:=l) (F:=fun ps=>sJ true (rs.map Rec.e) f (td.map Word.e) (l.map Trip.e) ((l.length:Nat):Int) ((aa ps 0).toInt) ((aa ps 1).toList)) (enc:=fun j (s:List Word)=>[.int .i64 j,.list (s.map Word.e)])
   (res:=fun xs j s=>.ret [.list ((s++cC td ((j+1:Nat):Int) xs).map Word.e)]) (fun j s=>s.length<=3*j) (s:=[]) (by simp) ?_ ?_
  ·have key:am _ [C.int .i64 0,C.list []]=_:=key
   rw[key];rfl
  ·intro j x xs s hx hs
   have hj:=(List.getElem?_eq_some_iff.1 hx).1
   have hj':(j:Int)<(l.length:Nat):=by omega
   have hxo:=tripOk_iff.1 (hT.ok x (List.mem_of_getElem? hx))
   have hm3:=bw hxo.1
   have e1:((j+1:Nat):Int)+1=((j+1+1:Nat):Int):=by omega
   obtain⟨hx1,hx2⟩:=hxo.2
   simp (disch:=first|assumption|omega|(simp only[zL];omega)) only[sJ,xF hx,Trip.e,hj',if_true,Int.reduceEq,reduceIte,zU,zT,aa]
   rw[CH (hi:=by omega) (hm:=by omega) (hL:=htl) (ha:=by omega)]
   ·refine .inl ⟨s++(if(([1,2,3]:List Int).any fun k=>(x.s:Int)==k) then aT td (gH [(1,1),(2,2),(3,3)] x.s) ((j+1:Nat):Int) 1 x.m else []),rfl,?_,?_⟩
    ·rw[List.length_append]
     have:=dZ td (gH [(1,1),(2,2),(3,3)] x.s) ((j+1:Nat):Int) x.m 1
     split
     ·omega
     ·simp;omega
    ·simp only[cC,e1,List.append_assoc]
     have:(if(([1,2,3]:List Int).any fun k=>(x.s:Int)==k) then aT td (gH [(1,1),(2,2),(3,3)] x.s) ((j+1:Nat):Int) 1 x.m else [])=if x.s>3 then [] else aT td x.s ((j+1:Nat):Int) 1 x.m:=by
      have:x.s=1\/x.s=2\/x.s=3\/x.s=4\/x.s=5:=by omega
      rcases this with e|e|e|e|e<;>rw[e]<;>simp[gH]
     rw[this]
   ·intro hb
    have:x.s=1\/x.s=2\/x.s=3\/x.s=4\/x.s=5:=by omega
    rcases this with e|e|e|e|e<;>rw[e]at hb ⊢<;>simp[gH,lD]at hb ⊢
  ·intro s hs
   have h:¬ ((l.length:Int)<(l.length:Nat)):=by omega
   simp (disch:=first|assumption|omega|(simp only[zL];omega)) only[sJ,h,if_false,Int.reduceEq,reduceIte,zU,zT,aa]
   simp[cC]
end
end Dx
namespace Dx
open Go
section
variable {up b:Bool} {rs:List Rec} {f:Int} {td:List Word} {k h t m keep:Int} {ms:List Int} {id room:Int} {hs:List House} {ns:List Word}
theorem i_net(ho:WOk ⟨⟨up,⟨rs,f⟩,td⟩,hs,ns⟩){k a b:Int}{mc:List (List C)}(hk:k=4\/k=5\/k=6) :
  wD [.bool up,.list (rs.map Rec.e),.int .i64 f,.list (td.map Word.e),.list (hs.map House.e),.list (ns.map Word.e),.int .i64 k,.int .i64 a,.int .i64 b,.list mc]=some (lW ⟨⟨up,⟨rs,f⟩,td⟩,hs,ns⟩ ⟨k,a,b,ms⟩).e:=by
 rw[q_ct]
 have hnl:ns.length<=14:=ho.nlen
 simp (disch:=first|assumption|omega|(simp only[zL];omega)) only[F_ct,jY,wrap64,Int.reduceEq,reduceIte,zU,zT,aa]
 cases hi:in_ a 0 ((ns.length:Nat)-1)with
 | false =>
  have hn:(if 0<=a then ns[a.toNat]? else none)=none:=by
   rw[in_false]at hi
   split
   ·rw[List.getElem?_eq_none];omega
   ·rfl
  unfold lW
  simp only[hn,aF,aI,Bool.not_false,aG]
  rfl
 | true =>
  have hi:=in_iff.1 hi
  have hlt:a.toNat<ns.length:=by omega
  have hx:ns[a.toNat]?=some ns[a.toNat]:=by simp
  have hn:(if 0<=a then ns[a.toNat]? else none)=some ns[a.toNat]:=by rw[if_pos hi.1,hx]
  have hxo:=ho.ns _ (List.getElem_mem hlt)
  have hrow:∀ f:List C->Option Out,aH (.list (ns.map Word.e)) (.int .i64 a) [.int .i64,.int .i64,.int .i64,.int .i64] f=f (ns[a.toNat]).e:=fun f=>eg hi.1 hx rfl
  have hdel:qg [.list (ns.map Word.e),.int .i64 a,.int .i64 (a+1)]=some [.list ((ns.eraseIdx a.toNat).map Word.e)]:=by
   have hc:(decide (0<=a) && (decide (a<a+1) && decide (a+1<=((ns.map Word.e).length:Nat))))=true:=by
    simp only[Bool.and_eq_true,decide_eq_true_eq,List.length_map];omega
   unfold qg
   simp only[hc]
   have e1:(a+1).toNat=a.toNat+1:=by omega
   rw[e1,List.eraseIdx_eq_take_drop_succ,List.map_append,List.map_take,List.map_drop]
  have hd:decide (0<=a) && decide (a<((ns.length:Nat):Int))=true:=by simp;omega
  have hto:=ho.take a
  unfold lW
  simp only[hn]
  generalize hxx:ns[a.toNat]=x at hrow hxo
  have hsn:iM [.bool up,.list (rs.map Rec.e),.int .i64 f,.list (td.map Word.e),.list (hs.map House.e),.list (ns.map Word.e),.int .i64 x.k,.int .i64 x.h,.int .i64 x.t,.int .i64 x.m]=some (mm ⟨⟨up,⟨rs,f⟩,td⟩,hs,ns⟩ x).e:=ze (by omega)
  have hto':WOk ⟨⟨up,⟨rs,f⟩,td⟩,hs,ns.eraseIdx a.toNat⟩:=hto
  have hh:=hto'.hear hxo
  have hhe:=z4 (k:=x.k) (h:=x.h) (t:=x.t) (m:=x.m) hto' hxo
  have etk:gC ⟨⟨up,⟨rs,f⟩,td⟩,hs,ns⟩ a=⟨⟨up,⟨rs,f⟩,td⟩,hs,ns.eraseIdx a.toNat⟩:=rfl
  simp only[etk]
  have hw:IntKind.wrap .i64 (a+1)=a+1:=wrap64 (by omega) (by omega)
  rcases hk with e|e|e
  ·subst e
   simp (disch:=first|assumption|omega|(simp only[zL];omega)) only[sN,hrow,hd,Word.e,Int.reduceEq,reduceIte,zU,zT,aa]
   rw[hw,hdel]
   simp only[Dr,aa,C.toList_list]
   rw[hhe]
   have ex:(⟨x.k,x.h,x.t,x.m⟩:Word)=x:=rfl
   rw[ex]
   generalize ba (⟨⟨up,⟨rs,f⟩,td⟩,hs,ns.eraseIdx a.toNat⟩:Wd) x=q at hh ⊢
   obtain⟨q1,q2⟩:=q
   cases q2 with
   | none =>
    simp only[oW,Word.e,Wd.e,List.cons_append,List.nil_append,Option.isSome_none]
    rw[bB rfl]
    rfl
   | some y =>
    have hq:WOk q1:=hh.1
    have hql:=hq.nlen
    have hsn2:iM [.bool q1.dk.up,.list (q1.dk.lg.rs.map Rec.e),.int .i64 q1.dk.lg.f,.list (q1.dk.td.map Word.e),.list (q1.hs.map House.e),.list (q1.ns.map Word.e),.int .i64 y.k,.int .i64 y.h,.int .i64 y.t,.int .i64 y.m]=some (mm q1 y).e:=ze (ns:=q1.ns) (by omega)
    simp only[oW,Word.e,Wd.e,List.cons_append,List.nil_append,Option.isSome_some,Option.getD_some]
    rw[bB rfl]
    simp only[aa,C.toBool_bool,C.toList_list,C.toInt_int,aI]
    rw[hsn2]
    simp only[Wd.e]
    rw[bB rfl]
    rfl
  ·subst e
   simp (disch:=first|assumption|omega|(simp only[zL];omega)) only[sN,hrow,hd,Word.e,Int.reduceEq,reduceIte,zU,zT,aa]
   rw[hw,hdel]
   rfl
  ·subst e
   simp (disch:=first|assumption|omega|(simp only[zL];omega)) only[sN,hrow,hd,Word.e,Int.reduceEq,reduceIte,zU,zT,aa]
   rw[hsn]
   simp only[Wd.e]
   rw[bB rfl]
   rfl
theorem zf{l:List Word}{i:Int}{x:Word}(h0:0<=i)(h:l[i.toNat]?=some x){kk:IntKind}{f:List C->Option Out}:aH (.list (l.map Word.e)) (.int kk i) [.int .i64,.int .i64,.int .i64,.int .i64] f=f x.e:=eg h0 h rfl
theorem qx{d:Desk}{r:Rec}(h:dN d r=false):aV d r=d:=by
 unfold dN at h
 unfold aV
 split
 ·rename_i hc
  simp only[Bool.and_eq_true]at hc
  simp only[hc.1,hc.2,Bool.true_and]at h
  have:d.lg.rs.length>=40:=by simpa [ml] using h
  simp[dd,this]
 ·rfl
theorem i_do(ho:WOk ⟨⟨up,⟨rs,f⟩,td⟩,hs,ns⟩){k a b:Int}(hm:ms.length<=1099511627776) :
  mj [.bool up,.list (rs.map Rec.e),.int .i64 f,.list (td.map Word.e),.list (hs.map House.e),.list (ns.map Word.e),.int .i64 k,.int .i64 a,.int .i64 b,.list (ms.map eI)]=some (wdo ⟨⟨up,⟨rs,f⟩,td⟩,hs,ns⟩ ⟨k,a,b,ms⟩).e:=by
 rw[q_da]
 have hd:DkOk ⟨up,⟨rs,f⟩,td⟩:=ho.dk
 have hdS:DkS ⟨up,⟨rs,f⟩,td⟩:=hd.S
 have hdo:=deskOk_iff.2 hd
 have hnl:ns.length<=14:=ho.nlen
 unfold F_da
 by_cases h1:k=1
 ·subst h1
  simp only[BEq.rfl,aI,t7 hdS hm,hdo,Bool.true_and]
  have ew:wdo ⟨⟨up,⟨rs,f⟩,td⟩,hs,ns⟩ ⟨1,a,b,ms⟩=⟨fO ⟨up,⟨rs,f⟩,td⟩ ms,hs,ns⟩:=rfl
  rw[ew]
  unfold fO
  cases hr:aD (eE ⟨up,⟨rs,f⟩,td⟩ ms)with
  | false=>rfl
  | true =>
   simp only[if_true]
   cases hb:dN ⟨up,⟨rs,f⟩,td⟩ (eE ⟨up,⟨rs,f⟩,td⟩ ms)with
   | false=>rw[qx hb];rfl
   | true=>rfl
 by_cases h2:k=2
 ·subst h2
  simp only[Int.reduceBEq,aF,aI,xN hdS,hdo,Bool.true_and]
  have ew:wdo ⟨⟨up,⟨rs,f⟩,td⟩,hs,ns⟩ ⟨2,a,b,ms⟩=⟨jB ⟨up,⟨rs,f⟩,td⟩ a,hs,ns⟩:=rfl
  rw[ew]
  unfold jB
  cases hr:in_ a 1 6 with
  | false=>rfl
  | true =>
   simp only[if_true]
   cases hb:dN ⟨up,⟨rs,f⟩,td⟩ ⟨6,a,[]⟩with
   | false=>rw[qx hb];rfl
   | true=>rfl
 by_cases h3:k=3
 ·subst h3
  have hwl:(aW ⟨up,⟨rs,f⟩,td⟩).length<=18:=gc hd
  simp (disch:=first|assumption|omega|(simp only[zL];omega)) only[Int.reduceBEq,z5 hd,jY,wrap64,Int.reduceEq,reduceIte,zU,zT,aa]
  have ew:wdo ⟨⟨up,⟨rs,f⟩,td⟩,hs,ns⟩ ⟨3,a,b,ms⟩=iO ⟨⟨up,⟨rs,f⟩,td⟩,hs,ns⟩ ⟨3,a,b,ms⟩:=rfl
  rw[ew]
  unfold iO
  simp only[Int.reduceEq,if_false,if_true]
  generalize aW ⟨up,⟨rs,f⟩,td⟩=l at hwl
  cases hi:in_ a 0 ((l.length:Nat)-1)with
  | false =>
   have hn:(if 0<=a then l[a.toNat]? else none)=none:=by
    rw[in_false]at hi
    split
    ·rw[List.getElem?_eq_none];omega
    ·rfl
   rw[hn];rfl
  | true =>
   have hi:=in_iff.1 hi
   have hlt:a.toNat<l.length:=by omega
   have hx:l[a.toNat]?=some l[a.toNat]:=by simp
   have hn:(if 0<=a then l[a.toNat]? else none)=some l[a.toNat]:=by rw[if_pos hi.1,hx]
   rw[hn]
   simp only[aI]
   rw[zf hi.1 hx]
   generalize l[a.toNat]=x
   simp only[Word.e,aa,C.toInt_int]
   have hsn:iM [.bool up,.list (rs.map Rec.e),.int .i64 f,.list (td.map Word.e),.list (hs.map House.e),.list (ns.map Word.e),.int .i64 x.k,.int .i64 x.h,.int .i64 x.t,.int .i64 x.m]=some (mm ⟨⟨up,⟨rs,f⟩,td⟩,hs,ns⟩ x).e:=ze (by omega)
   rw[hsn]
   simp only[Wd.e]
   rw[bB rfl]
   rfl
 have e1:(k==1)=false:=by simpa using h1
 have e2:(k==2)=false:=by simpa using h2
 have e3:(k==3)=false:=by simpa using h3
 have ew:wdo ⟨⟨up,⟨rs,f⟩,td⟩,hs,ns⟩ ⟨k,a,b,ms⟩=if k=4\/k=5\/k=6 then lW ⟨⟨up,⟨rs,f⟩,td⟩,hs,ns⟩ ⟨k,a,b,ms⟩ else if k=7\/k=8\/k=9 then cg ⟨⟨up,⟨rs,f⟩,td⟩,hs,ns⟩ ⟨k,a,b,ms⟩ else⟨⟨up,⟨rs,f⟩,td⟩,hs,ns⟩:=by
  unfold wdo;simp only[h1,h2,h3,false_or,if_false]
 rw[ew]
 simp only[e1,e2,e3,aF]
 by_cases h4:k=4\/k=5\/k=6
 ·rw[if_pos h4]
  have hn:=i_net (ms:=ms) ho (k:=k) (a:=a) (b:=b) (mc:=ms.map eI) h4
  have:bH (ae (k==4) (some (.jump [.bool true])) (ae (k==5) (some (.jump [.bool true])) (some (.jump [.bool (k==6)])))) (fun ps=>oz up (rs.map Rec.e) f (td.map Word.e) (hs.map House.e) (ns.map Word.e) k a b (ms.map eI) (aa ps 0).toBool) =
    oz up (rs.map Rec.e) f (td.map Word.e) (hs.map House.e) (ns.map Word.e) k a b (ms.map eI) true:=by
   rcases h4 with e|e|e<;>subst e<;>rfl
  rw[this]
  unfold oz
  simp only[aI]
  rw[hn]
  simp only[Wd.e]
  rw[bB rfl]
  rfl
 ·rw[if_neg h4]
  simp only[not_or]at h4
  have f4:(k==4)=false:=by simpa using h4.1
  have f5:(k==5)=false:=by simpa using h4.2.1
  have f6:(k==6)=false:=by simpa using h4.2.2
  simp only[f4,f5,f6,aF,aZ,aa,C.toBool_bool]
  unfold oz
  simp only[aF]
  by_cases h7:k=7
  ·subst h7
   have hn:cg ⟨⟨up,⟨rs,f⟩,td⟩,hs,ns⟩ ⟨7,a,b,ms⟩=ct ⟨⟨up,⟨rs,f⟩,td⟩,hs,ns⟩ a:=by
    unfold cg ct
    cases hi:in_ a 0 3 with
    | true=>simp
    | false =>
     rw[in_false]at hi
     have h0:a≠0:=by omega
     have h1:in_ a 1 3=false:=by rw[in_false];omega
     simp[h0,h1]
   simp only[BEq.rfl,aI,kT ho,Int.reduceEq,true_or,if_true,hn]
   simp only[Wd.e]
   rw[bB rfl]
   rfl
  by_cases h8:k=8
  ·subst h8
   have hn:cg ⟨⟨up,⟨rs,f⟩,td⟩,hs,ns⟩ ⟨8,a,b,ms⟩=cg ⟨⟨up,⟨rs,f⟩,td⟩,hs,ns⟩ ⟨8,a,b,[]⟩:=rfl
   simp only[Int.reduceBEq,aF,aI,xQ ho,Int.reduceEq,true_or,or_true,if_true,hn]
   simp only[Wd.e]
   rw[bB rfl]
   rfl
  by_cases h9:k=9
  ·subst h9
   have hn:cg ⟨⟨up,⟨rs,f⟩,td⟩,hs,ns⟩ ⟨9,a,b,ms⟩=cg ⟨⟨up,⟨rs,f⟩,td⟩,hs,ns⟩ ⟨9,a,0,[]⟩:=rfl
   simp only[Int.reduceBEq,aF,aI,mS ho,Int.reduceEq,or_true,if_true,hn]
   simp only[Wd.e]
   rw[bB rfl]
   rfl
  have g7:(k==7)=false:=by simpa using h7
  have g8:(k==8)=false:=by simpa using h8
  have g9:(k==9)=false:=by simpa using h9
  simp only[g7,g8,g9,aF,h7,h8,h9,or_false,if_false,aG]
  rfl
theorem Jt{w:Wd}(ho:WOk w){e:Ev}(hm:e.m.length<=1099511627776) :
  mj [.bool w.dk.up,.list (w.dk.lg.rs.map Rec.e),.int .i64 w.dk.lg.f,.list (w.dk.td.map Word.e),.list (w.hs.map House.e),.list (w.ns.map Word.e),.int .i64 e.k,.int .i64 e.a,.int .i64 e.b,.list (e.m.map eI)]=some (wdo w e).e :=
 i_do (up:=w.dk.up) (rs:=w.dk.lg.rs) (f:=w.dk.lg.f) (td:=w.dk.td) (hs:=w.hs) (ns:=w.ns) ho hm
def Wd.eD(w:Wd):List C:=[.bool w.dk.up,.int .i64 w.dk.lg.f,.list (w.dk.lg.rs.map Rec.e),.list (w.dk.td.map Word.e),.list (w.hs.map House.e),.list (w.ns.map Word.e)]
theorem uc{rooms:List Int}{es:List Ev}(hr:rooms.length<=1099511627775)(hl:es.length<=1099511627776)(hs:∀ e∈es,EvS e) :
  xn [.list (rooms.map eI),.list (es.map Ev.e)]=some (((bN rooms es).getD wd0).e++[.bool (bN rooms es).isSome]):=by
 rw[q_ce]
 have hwn:=xS (rooms:=rooms) hr
 simp only[Wd.e,Wd.eD,List.cons_append,List.nil_append]at hwn
 simp (disch:=first|assumption|omega|(simp only[zL];omega)) only[F_ce,hwn,Int.reduceEq,reduceIte,zU,zT,aa]
 unfold bN
 cases hw:bg rooms with
 | none=>simp[Wd.e,wd0]
 | some w0 =>
  have ok0:=dH hw
  simp only[Option.isSome_some,Bool.not_true,aI,aF,Option.getD_some,Option.map_some]
  by_cases h80:((es.length:Nat):Int)>80
  ·have h80':es.length>80:=by omega
   simp[h80,h80',Wd.e,wd0]
  ·have h80':¬ es.length>80:=by omega
   simp only[h80,h80',if_false]
   have key:=ak (l:=es) (F:=fun ps=>s8 (es.map Ev.e) ((es.length:Nat):Int) ((aa ps 0).toInt) ((aa ps 1).toBool) ((aa ps 2).toInt) ((aa ps 3).toList) ((aa ps 4).toList) ((aa ps 5).toList) ((aa ps 6).toList))
    (enc:=fun i (w:Wd)=>.int .i64 i::w.eD)
    (res:=fun xs _ w=>.ret ((gD w xs).e++[.bool true])) (fun _ w=>WOk w) (s:=w0) ok0 ?_ ?_
   ·have key:am _ (C.int .i64 0::w0.eD)=_:=key
    simp only[Wd.eD]at key
    rw[key];rfl
   ·intro i x xs w hx ow
    have hi:=(List.getElem?_eq_some_iff.1 hx).1
    have hi':(i:Int)<(es.length:Nat):=by omega
    have hx3:=hs x (List.mem_of_getElem? hx)
    have hxm:x.m.length<=1099511627776:=by unfold EvS at hx3;omega
    simp only[Wd.e,Wd.eD,aa,C.toInt_int,C.toBool_bool,C.toList_list]
    unfold s8
    simp only[aK,hi',if_true,mM hx,Ev.e,aa,C.toInt_int,C.toList_list,Jt ow hxm]
    simp only[Wd.e,Wd.eD,bE,aa,C.toInt_int,C.toList_list,C.toBool_bool]
    rw[ap (by omega)]
    exact .inl ⟨wdo w x,rfl,ow.do_ x,rfl⟩
   ·intro w ow
    have h:¬ ((es.length:Int)<(es.length:Nat)):=by omega
    simp only[Wd.e,Wd.eD,aa,C.toInt_int,C.toBool_bool,C.toList_list]
    unfold s8
    simp only[aK,h,if_false]
    rfl
end
end Dx
namespace Dx
open Go
section
variable {a b:List Int} {up up':Bool} {rs rs':List Rec} {f f':Int} {td td':List Word} {k k' t t' id id' room room' h m:Int} {hs hs':List House} {ns ns':List Word}
end
end Dx
namespace Dx
open Go
theorem CI(Φ:Phi)(p:Prim)(args:List Cell)(t:Tree)(env:List C):den Φ (.letp p args t) env=den Φ t (env++[p.den (aL env args)]):=by rw[den]
theorem z6(Φ:Phi)(a:At)(t e:Tree)(env:List C):den Φ (.ite a t e) env=ae (a.den env).toBool (den Φ t env) (den Φ e env):=by rw[den]
theorem FU(Φ:Phi)(xs:List Cell)(env:List C):den Φ (.ret xs) env=some (.ret (aL env xs)):=by rw[den]
end Dx
namespace Dx
open Go
theorem CJ(Φ:Phi)(xs:List Cell)(env:List C):den Φ (.jump xs) env=some (.jump (aL env xs)):=by rw[den]
theorem CL(Φ:Phi)(ks:List CK)(body k:Tree)(env:List C):den Φ (.join ks body k) env=bH (den Φ body env) fun ps=>den Φ k (env++kf ps 0 ks):=by rw[den]
theorem FV{α:Type}{F:List C->Option Out}{l:List α}{o:Out}(hs:∀(i:Nat) (x:α),l[i]?=some x->F [.int .i64 (i:Nat)]=some (.jump [.int .i64 ((i+1:Nat):Int)]))
  (hf:F [.int .i64 ((l.length:Nat):Int)]=some (.up o)):am F [.int .i64 0]=some o :=
 ak (l:=l) (F:=F) (enc:=fun i (_:Unit)=>[.int .i64 i]) (res:=fun _ _ _=>o) (fun _ _=>True) (s:=()) trivial (fun i x _ _ hx _=>.inl ⟨(),hs i x hx,trivial,rfl⟩) (fun _ _=>hf)
section
variable {code:List Int}
end
end Dx
namespace Dx
open Go
section
variable {code:List Int}
end
end Dx
namespace Dx
open Go
section
variable {code:List Int}
end
end Dx
namespace Dx
open Go
section
variable {room:Int} {hs:List Hold} {k h t m:Int} {ns:List Word} {w:Wd}
theorem qy(hL:ns.length<=1000):wz [.list (ns.map Word.e)]=some [.bool (ns.any fun x=>!bj x)]:=by
 have h1:∀ x:Word,ww [.int .i64 x.k,.int .i64 x.h,.int .i64 x.t,.int .i64 x.m]=some [.bool (!bj x)]:=fun x=>by
  rw[q_cs];simp (disch:=first|assumption|omega|(simp only[zL];omega)) only[F_cs,jK,Int.reduceEq,reduceIte,zU,zT,aa]
 have hi:wy [.list (ns.map Word.e)]=some [.int .i64 (lX (fun x=>!bj x) 0 ns)]:=by
  rw[q_aj];unfold F_aj
  simp only[List.length_map]
  rw[gn (l:=ns) (fun x=>!bj x)]
  ·rfl
  ·intro i x hx
   have hi:=(List.getElem?_eq_some_iff.1 hx).1
   have hi':(i:Int)<(ns.length:Nat):=by omega
   simp (disch:=first|assumption|omega|(simp only[zL];omega)) only[yR,gG hx,Word.e,h1,ap,hi',if_true,Int.reduceEq,reduceIte,zT,aa]
   cases bj x<;>simp[hi']
  ·have h:¬ ((ns.length:Int)<(ns.length:Nat)):=by omega
   simp (disch:=first|assumption|omega|(simp only[zL];omega)) only[yR,h,if_false,Int.reduceEq,reduceIte,zU,zT,aa]
 rw[q_ac]
 simp (disch:=first|assumption|omega|(simp only[zL];omega)) only[F_ac,hi,dP,Bool.decide_eq_true,Int.reduceEq,reduceIte,zU,zT,aa]
theorem WOk.cells(ho:WOk w){i:Nat}{x:House}(hx:w.hs[i]?=some x):LgOk ⟨x.lg.rs,x.lg.f⟩/\cD ⟨x.id,x.up,x.room,⟨x.lg.rs,x.lg.f⟩⟩=true/\x.id=((i+1:Nat):Int) :=
 ⟨(ho.hs i x hx).1.lg,houseOk_iff.2 (ho.hs i x hx).1,by have:=(ho.hs i x hx).2;omega⟩
theorem qz(ho:WOk w):mg [.bool w.dk.up,.list (w.dk.lg.rs.map Rec.e),.int .i64 w.dk.lg.f,.list (w.dk.td.map Word.e),.list (w.hs.map House.e),.list (w.ns.map Word.e)]=some [.bool true]:=by
 rw[q_ei]
 have hdS:DkS ⟨w.dk.up,⟨w.dk.lg.rs,w.dk.lg.f⟩,w.dk.td⟩:=ho.dk.S
 have hdo:du ⟨w.dk.up,⟨w.dk.lg.rs,w.dk.lg.f⟩,w.dk.td⟩=true:=deskOk_iff.2 ho.dk
 have h3:=ho.len
 have hn:=ho.nlen
 have h3':((w.hs.length:Nat):Int)=3:=by omega
 have hn':¬ (((w.ns.length:Nat):Int)>14):=by omega
 have hw:(w.ns.any fun x=>!bj x)=false:=by
  rw[List.any_eq_false]
  intro x hx
  rw[wordOk_iff.2 (ho.ns x hx)];simp
 simp (disch:=first|assumption|omega|(simp only[zL];omega)) only[F_ei,dp,hdo,h3',hn',if_true,if_false,Int.reduceEq,reduceIte,zU,zT,aa]
 rw[FV (l:=w.hs) (o:=.ret [.bool true])]
 ·rfl
 ·intro i x hx
  have hi:=(List.getElem?_eq_some_iff.1 hx).1
  have hi':(i:Int)<3:=by omega
  obtain⟨c1,c2,c3⟩:=ho.cells hx
  have c2':cD ⟨((i+1:Nat):Int),x.up,x.room,x.lg⟩=true:=by rw[<-c3];exact c2
  simp (disch:=first|assumption|omega|(simp only[zL];omega)) only[lK,dU hx,House.e,ei c1.S,c2',c3,ap,hi',if_true,Int.reduceEq,reduceIte,zU,zT,aa]
 ·have h:¬ ((3:Int)<3):=by omega
  simp (disch:=first|assumption|omega|(simp only[zL];omega)) only[lK,h3',if_false,qy,hw,Int.lt_irrefl,Int.reduceEq,reduceIte,zU,zT,aa]
  try rfl
theorem iv(ho:WOk w):pN [.bool w.dk.up,.list (w.dk.lg.rs.map Rec.e),.int .i64 w.dk.lg.f,.list (w.dk.td.map Word.e),.list (w.hs.map House.e),.list (w.ns.map Word.e)]=some w.e:=by
 rw[q_bc]
 have hdS:DkS ⟨w.dk.up,⟨w.dk.lg.rs,w.dk.lg.f⟩,w.dk.td⟩:=ho.dk.S
 have h3:=ho.len
 have hn:=ho.nlen
 simp (disch:=first|assumption|omega|(simp only[zL];omega)) only[F_bc,dg hdS,Desk.e,uG,Dp,Int.reduceEq,reduceIte,zU,zT,aa]
 refine Eq.trans (congrArg ah (ak (l:=w.hs) (enc:=fun i (s:List House)=>[.int .i64 i,.list (s.map House.e)])
  (res:=fun xs _ s=>.ret [.bool w.dk.up,.list (w.dk.lg.rs.map Rec.e),.int .i64 w.dk.lg.f,.list (w.dk.td.map Word.e),.list ((s++xs).map House.e),.list (w.ns.map Word.e)]) (fun i s=>s.length=i) (s:=[]) rfl ?_ ?_)) rfl
 ·intro i x xs s hx hs
  have hi:=(List.getElem?_eq_some_iff.1 hx).1
  have hi':(i:Int)<(w.hs.length:Nat):=by omega
  obtain⟨c1,c2,c3⟩:=ho.cells hx
  have hc:s.length+1<=1099511627776:=by omega
  simp (disch:=first|assumption|omega|(simp only[zL];omega)) only[yS,dU hx,House.e,dy c1.S,ap,hi',hc,if_true,Int.reduceEq,reduceIte,zU,zT,aa]
  exact .inl ⟨s++[x],by simp[House.e],by simp[hs],by simp⟩
 ·intro s hs
  have h:¬ ((w.hs.length:Int)<(w.hs.length:Nat)):=by omega
  simp (disch:=first|assumption|omega|(simp only[zL];omega)) only[yS,h,if_false,Int.reduceEq,reduceIte,zU,zT,aa]
  simp
theorem BA(ho:WOk w){e:Ev}(hm:e.m.length<=1099511627776) :
  sO [.bool w.dk.up,.list (w.dk.lg.rs.map Rec.e),.int .i64 w.dk.lg.f,.list (w.dk.td.map Word.e),.list (w.hs.map House.e),.list (w.ns.map Word.e),.int .i64 e.k,.int .i64 e.a,.int .i64 e.b,.list (e.m.map eI)]=some (wdo w e).e:=by
 rw[q_ep]
 unfold F_ep
 rw[qz ho]
 simp only[ru,aa,C.toBool_bool,Bool.not_true,aF]
 rw[iv ho]
 simp only[Wd.e,bE,aa,C.toInt_int,C.toList_list,C.toBool_bool]
 rw[Jt ho hm]
 simp only[Wd.e,bE,aa,C.toInt_int,C.toList_list,C.toBool_bool]
 rfl
end
end Dx
namespace Dx
open Go
section
variable {code:List Int}
end
end Dx
namespace Dx
open Go
section
variable {code more:List Int}
end
end Dx
namespace Dx
open Go
section
variable {code:List Int}
end
end Dx
namespace Dx
open Go
section
variable {code more:List Int}
end
end Dx
namespace Dx
open Go
section
variable {w:Wd}
end
end Dx
namespace Dx
open Go
theorem FW:xc=sM:=rfl
theorem qA:∀(xs:List Word) (w:Wd) (ns:List Word),cf {w with ns:=ns} xs={cf w xs with ns:=ns}
 | [],_,_=>rfl
 | x::xs,w,ns=>by
  show cf (aX {w with ns:=ns} x) xs={cf (aX w x) xs with ns:=ns}
  rw[Bd];exact qA xs _ ns
section
variable {w:Wd}
theorem hs3(ho:WOk w):∃ a b c,w.hs=[a,b,c]:=by
 have h:=ho.len
 match w.hs,h with
 | [a,b,c],_=>exact⟨a,b,c,rfl⟩
theorem CM(ho:WOk w):([0,1,2,3]:List Int).foldl (fun w i=>cg w ⟨9,i,0,[]⟩) w=dY w:=by
 obtain⟨a,b,c,h⟩:=hs3 ho
 obtain⟨d,hs,ns⟩:=w
 simp only at h
 subst h
 rfl
theorem qB(ho:WOk w):([0,1,2,3]:List Int).foldl ct w=aR w:=by
 obtain⟨a,b,c,h⟩:=hs3 ho
 obtain⟨d,hs,ns⟩:=w
 simp only at h
 subst h
 rfl
theorem ig{F:List C->Option Out}{p q:List C}(h:F p=some (.jump q)):am F p=am F q:=by rw[jS,h];rfl
theorem z7{F:List C->Option Out}{p:List C}{o:Out}(h:F p=some (.up o)):am F p=some o:=by rw[jS,h];rfl
theorem DC(a b:List Word)(f:List C->Option Out):aH (.list [[.list (a.map Word.e)],[.list (b.map Word.e)]]) (.int .i64 0) [.list] f=f [.list (a.map Word.e)]:=rfl
theorem z8(a b:List Word)(f:List C->Option Out):aH (.list [[.list (a.map Word.e)],[.list (b.map Word.e)]]) (.int .i64 1) [.list] f=f [.list (b.map Word.e)]:=rfl
theorem CN{a b:List Word}(ha:a.length<=1000)(hb:b.length<=1000):xb [.list [[.list (a.map Word.e)],[.list (b.map Word.e)]]]=some [.list ((a++b).map Word.e)]:=by
 rw[q_aq]
 have hg:nG [.list [],.int .i64 ((a.length:Int)+(b.length:Nat))]=some [.list []]:=by
  have hc:(decide ((0:Int)<=(a.length:Int)+(b.length:Nat)) && decide ((a.length:Int)+(b.length:Nat)<=1099511627776))=true:=by simp;omega
  unfold nG
  simp only[hc]
 have h1:¬ ((a.length:Int)<0):=by omega
 have h2:¬ ((a.length:Int)+(b.length:Nat)<0):=by omega
 have hA:¬ ((0:Int)+(a.length:Int)<0):=by omega
 unfold F_aq
 refine Eq.trans (congrArg ah (ig (q:=[.int .i64 a.length,.int .i64 1]) ?_)) ?_
 ·show jv _ 2 0 0=_
  unfold jv
  simp (disch:=first|assumption|omega|(simp only[zL];omega)) only[DC,wrap64,h1,if_false,Int.zero_add,Int.reduceAdd,Int.reduceLT,if_true,Int.reduceEq,reduceIte,zU,zT,aa]
 refine Eq.trans (congrArg ah (ig (q:=[.int .i64 ((a.length:Int)+(b.length:Nat)),.int .i64 2]) ?_)) ?_
 ·show jv _ 2 _ 1=_
  unfold jv
  simp (disch:=first|assumption|omega|(simp only[zL];omega)) only[z8,wrap64,h2,if_false,Int.reduceAdd,Int.reduceLT,if_true,C.toInt_int,Int.reduceEq,reduceIte,zU,zT,aa]
 refine Eq.trans (congrArg ah (z7 (o:=.ret [.list ((a++b).map Word.e)]) ?_)) rfl
 show jv _ 2 ((a.length:Int)+(b.length:Nat)) 2=_
 unfold jv
 simp only[Int.lt_irrefl,decide_false,aF,hg,Dr,aa,C.toList_list]
 have key:am (fun ps=>iq [[C.list (a.map Word.e)],[C.list (b.map Word.e)]] 2 ((aa ps 0).toInt) ((aa ps 1).toList)) [C.int .i64 0,C.list []]=some (.ret [.list ((a++b).map Word.e)]):=by
  refine Eq.trans (ig (q:=[.int .i64 1,.list (a.map Word.e)]) ?_) ?_
  ·show iq _ 2 0 []=_
   unfold iq
   simp (disch:=first|assumption|omega|(simp only[zL];omega)) only[DC,mB,wrap64,Int.zero_add,Int.reduceAdd,Int.reduceLT,if_true,ce,Int.reduceEq,reduceIte,zU,zT,aa]
  refine Eq.trans (ig (q:=[.int .i64 2,.list ((a++b).map Word.e)]) ?_) ?_
  ·show iq _ 2 1 (a.map Word.e)=_
   unfold iq
   simp (disch:=first|assumption|omega|(simp only[zL];omega)) only[z8,mB,wrap64,Int.reduceAdd,Int.reduceLT,if_true,ce,List.map_append,Int.reduceEq,reduceIte,zU,zT,aa]
  refine z7 ?_
  show iq _ 2 2 ((a++b).map Word.e)=_
  unfold iq
  simp only[Int.lt_irrefl,decide_false,aF]
  rfl
 exact congrArg upD key
theorem xT(ho:WOk w):∀ x∈w.ns++aW w.dk,WdOk x:=fun x hx=>by
 rcases List.mem_append.1 hx with h|h
 ·exact ho.ns x h
 ·exact(dx ho.dk h).1
theorem Kc(ho:WOk w) :
  xd [.bool w.dk.up,.list (w.dk.lg.rs.map Rec.e),.int .i64 w.dk.lg.f,.list (w.dk.td.map Word.e),.list (w.hs.map House.e),.list (w.ns.map Word.e)]=some (cZ w).e:=by
 rw[q_bx]
 unfold F_bx
 have L0:∀ w:Wd,WOk w->am (fun ps=>sW ((aa ps 0).toInt) ((aa ps 1).toBool) ((aa ps 2).toInt) ((aa ps 3).toList) ((aa ps 4).toList) ((aa ps 5).toList) ((aa ps 6).toList)) (.int .i64 0::w.eD)=some (.ret (aR w).e):=by
  intro w ow
  rw[<-qB ow]
  refine ak (l:=([0,1,2,3]:List Int)) (enc:=fun i (w:Wd)=>.int .i64 i::w.eD) (res:=fun xs _ w=>.ret (xs.foldl ct w).e) (fun _ w=>WOk w) (s:=w) ow ?_ ?_
  ·intro i x xs w hx ow
   have hi:(i:Int)<4/\x=(i:Int):=by
    have:=(List.getElem?_eq_some_iff.1 hx).1
    simp at this
    have h4:i=0\/i=1\/i=2\/i=3:=by omega
    rcases h4 with e|e|e|e<;>subst e<;>simp at hx<;>subst hx<;>simp
   obtain⟨hi,rfl⟩:=hi
   have he:=kT (up:=w.dk.up) (rs:=w.dk.lg.rs) (f:=w.dk.lg.f) (td:=w.dk.td) (hs:=w.hs) (ns:=w.ns) ow (i:=(i:Int))
   refine .inl ⟨ct w i,?_,ow.forceEv _,rfl⟩
   simp only[Wd.e,Wd.eD,aa,C.toInt_int,C.toBool_bool,C.toList_list]
   unfold sW
   simp only[aK,hi,if_true,he]
   simp only[jG,jH,iu]
   simp only[Wd.e,Wd.eD,bE,aa,C.toInt_int,C.toList_list,C.toBool_bool]
   rw[ap (by omega)]
  ·intro w ow
   have h:¬ (((4:Nat):Int)<4):=by omega
   simp only[List.length_cons,List.length_nil,Wd.e,Wd.eD,aa,C.toInt_int,C.toBool_bool,C.toList_list]
   unfold sW
   simp only[aK,h,if_false]
   rfl
 have L1:∀(l:List Word) (w:Wd),l.length<=1000->WOk w->(∀ x∈l,WdOk x)->am (fun ps=>sX (l.map Word.e) ((l.length:Nat):Int) ((aa ps 0).toInt) ((aa ps 1).toBool) ((aa ps 2).toInt) ((aa ps 3).toList) ((aa ps 4).toList) ((aa ps 5).toList) ((aa ps 6).toList))
   [.int .i64 0,.bool w.dk.up,.int .i64 w.dk.lg.f,.list (w.ns.map Word.e),.list (w.dk.lg.rs.map Rec.e),.list (w.dk.td.map Word.e),.list (w.hs.map House.e)]=some (.ret (aR {cf w l with ns:=[]}).e):=by
  intro l w hl ow hw
  refine ak (l:=l) (enc:=fun i (w:Wd)=>[.int .i64 i,.bool w.dk.up,.int .i64 w.dk.lg.f,.list (w.ns.map Word.e),.list (w.dk.lg.rs.map Rec.e),.list (w.dk.td.map Word.e),.list (w.hs.map House.e)]) (res:=fun xs _ w=>.ret (aR {cf w xs with ns:=[]}).e) (fun _ w=>WOk w) (s:=w) ow ?_ ?_
  ·intro i x xs w hx ow
   have hi:=(List.getElem?_eq_some_iff.1 hx).1
   have hi':(i:Int)<(l.length:Nat):=by omega
   have hxo:=hw x (List.mem_of_getElem? hx)
   have hhe:=z4 (up:=w.dk.up) (rs:=w.dk.lg.rs) (f:=w.dk.lg.f) (td:=w.dk.td) (hs:=w.hs) (ns:=w.ns) (k:=x.k) (h:=x.h) (t:=x.t) (m:=x.m) ow hxo
   have o2:=ow.hear hxo
   refine .inl ⟨aX w x,?_,ow.hear2 hxo,rfl⟩
   simp only[aa,C.toInt_int,C.toBool_bool,C.toList_list]
   unfold sX
   have hd:(decide ((0:Int)<=(i:Int)) && decide ((i:Int)<(((l.map Word.e).length:Nat):Int)))=true:=by simp;omega
   rw[zf (by omega) (by simpa using hx)]
   simp only[aK,hi',if_true,hd,dO,Word.e,aa,C.toInt_int,FW,hhe]
   simp only[jG,jH,iu,te]
   unfold aX
   generalize ba w x=q at o2 ⊢
   obtain⟨q1,q2⟩:=q
   rw[ap (by omega)]
   cases q2 with
   | none =>
    simp only[oW,Word.e,Wd.e,List.cons_append,List.nil_append,Option.isSome_none]
    rw[bB rfl]
    rfl
   | some y =>
    have hq:WOk q1:=o2.1
    have hy:=Dz (up:=q1.dk.up) (rs:=q1.dk.lg.rs) (f:=q1.dk.lg.f) (td:=q1.dk.td) (k:=y.k) (h:=y.h) (t:=y.t) (m:=y.m) hq.dk
    have h4:=(o2.2 y rfl).2
    simp only[oW,Word.e,Wd.e,List.cons_append,List.nil_append,Option.isSome_some,Option.getD_some]
    rw[bB rfl]
    simp only[aa,C.toBool_bool,C.toList_list,C.toInt_int,aI,hy]
    simp only[jG,jH,te]
    rw[ic h4]
    simp only[Desk.e]
    rw[bB rfl]
    rfl
  ·intro w ow
   have h:¬ ((l.length:Int)<(l.length:Nat)):=by omega
   simp only[aa,C.toInt_int,C.toBool_bool,C.toList_list]
   unfold sX
   simp only[aK,h,if_false]
   have:=L0 {w with ns:=[]} ⟨ow.dk,ow.len,ow.hs,by simp,by simp⟩
   simp only[Wd.e,Wd.eD,List.map_nil]at this
   rw[this];rfl
 refine Eq.trans (congrArg ah (ak (l:=([0,1,2,3]:List Int)) (enc:=fun i (w:Wd)=>.int .i64 i::w.eD) (res:=fun xs _ v=>.ret (aR (cf {xs.foldl (fun w i=>cg w ⟨9,i,0,[]⟩) v with ns:=[]} ((xs.foldl (fun w i=>cg w ⟨9,i,0,[]⟩) v).ns++aW (xs.foldl (fun w i=>cg w ⟨9,i,0,[]⟩) v).dk))).e) (fun _ v=>WOk v) (s:=w) ho ?_ ?_)) ?_
 ·intro i x xs w hx ow
  have hi:(i:Int)<4/\x=(i:Int):=by
   have:=(List.getElem?_eq_some_iff.1 hx).1
   simp at this
   have h4:i=0\/i=1\/i=2\/i=3:=by omega
   rcases h4 with e|e|e|e<;>subst e<;>simp at hx<;>subst hx<;>simp
  obtain⟨hi,rfl⟩:=hi
  have he:=mS (up:=w.dk.up) (rs:=w.dk.lg.rs) (f:=w.dk.lg.f) (td:=w.dk.td) (hs:=w.hs) (ns:=w.ns) ow (i:=(i:Int))
  refine .inl ⟨cg w ⟨9,i,0,[]⟩,?_,ow.node _,rfl⟩
  simp only[Wd.e,Wd.eD,aa,C.toInt_int,C.toBool_bool,C.toList_list]
  unfold y8
  simp only[aK,hi,if_true,he]
  simp only[jG,jH,iu]
  simp only[Wd.e,Wd.eD,bE,aa,C.toInt_int,C.toList_list,C.toBool_bool]
  rw[ap (by omega)]
 ·intro v ow
  have h:¬ (((4:Nat):Int)<4):=by omega
  have hdw:=gc ow.dk
  have hnl:=ow.nlen
  simp only[List.length_cons,List.length_nil,Wd.e,Wd.eD,aa,C.toInt_int,C.toBool_bool,C.toList_list]
  unfold y8
  have hwd:=z5 (up:=v.dk.up) (rs:=v.dk.lg.rs) (f:=v.dk.lg.f) (td:=v.dk.td) ow.dk
  simp only[aK,h,if_false,hwd,Dr,aa,C.toList_list]
  simp only[jG,jH]
  rw[CN (by omega) (by omega)]
  simp only[Dr,aa,C.toList_list,List.length_map]
  have:=L1 (v.ns++aW v.dk) v (by rw[List.length_append];omega) ow (xT ow)
  refine(congrArg upD this).trans ?_
  show _=some (Out.up (.ret (aR (cf {v with ns:=[]} (v.ns++aW v.dk))).e))
  rw[qA (v.ns++aW v.dk) v []]
  rfl
 ·rw[CM ho]
  rfl
theorem ud(ho:WOk w){r:Int}(hr:0<=r/\r<=9) :
  sY [.bool w.dk.up,.list (w.dk.lg.rs.map Rec.e),.int .i64 w.dk.lg.f,.list (w.dk.td.map Word.e),.list (w.hs.map House.e),.list (w.ns.map Word.e),.int .i64 r]=some (iP w r.toNat).e:=by
 rw[q_ck]
 unfold Je
 rw[qz ho]
 have hin:in_ r 0 9=true:=in_iff.2 hr
 simp only[ru,aa,C.toBool_bool,Bool.not_true,aF,jY,hin]
 rw[iv ho]
 obtain⟨n,rfl⟩:∃ n:Nat,r=n:=⟨r.toNat,by omega⟩
 simp only[Wd.e,Wd.eD,bE,aa,C.toInt_int,C.toList_list,C.toBool_bool]
 refine Eq.trans (congrArg ah (ak (l:=List.replicate n ()) (enc:=fun i (w:Wd)=>.int .i64 i::w.eD) (res:=fun xs _ v=>.ret (iP v xs.length).e) (fun _ v=>WOk v) (s:=w) ho ?_ ?_)) ?_
 ·intro i x xs w hx ow
  have hi:=(List.getElem?_eq_some_iff.1 hx).1
  rw[List.length_replicate]at hi
  have hi':(i:Int)<(n:Nat):=by omega
  refine .inl ⟨cZ w,?_,ow.round,rfl⟩
  simp only[Wd.e,Wd.eD,aa,C.toInt_int,C.toBool_bool,C.toList_list]
  unfold y9
  simp only[aK,hi',if_true,Kc ow]
  simp only[Wd.e,Wd.eD,bE,aa,C.toInt_int,C.toList_list,C.toBool_bool]
  rw[ap (by omega)]
 ·intro v ow
  have h:¬ ((n:Int)<(n:Nat)):=by omega
  simp only[List.length_replicate,Wd.e,Wd.eD,aa,C.toInt_int,C.toBool_bool,C.toList_list]
  unfold y9
  simp only[aK,h,if_false]
  rfl
 ·rw[List.length_replicate];rfl
end
end Dx
namespace Dx
open Go
end Dx
