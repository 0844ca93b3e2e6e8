import Derived.Test.YtahfbeiobndhkaaGreatTa
import Derived.Test.YtahfbeiobndhkaaGreatYq1
import Derived.Test.YtahfbeiobndhkaaGreatYq2
import Derived.Test.YtahfbeiobndhkaaGreatYq3
set_option linter.all false
namespace Dx
open Go
theorem az{x:Int}(h1:-9223372036854775808<=x)(h2:x<=9223372036854775807):IntKind.wrap .i64 x=x:=by
 have e:IntKind.wrap .i64 x=if x % 18446744073709551616>=9223372036854775808 then x % 18446744073709551616-18446744073709551616 else x % 18446744073709551616:=by
  simp[IntKind.wrap,IntKind.bits,IntKind.signed]
 rw[e]
 split<;>omega
theorem Bm{i:Nat}(h:i<=aY):IntKind.wrap .i64 ((i:Int)+1)=((i+1:Nat):Int):=by
 rw[az]<;>(simp[aY]at h;omega)
theorem bO{cs:List C}{ks:List CK}{f:List C->Option Out}(hk:ak ks cs=true):ac (some cs) ks f=f cs:=by
 simp only[ac,ai,hk,gU hk]
theorem cd_l(x0:List (List C))(f:List C->Option Out):ac (some [.list x0]) [.list] f=f [.list x0]:=rfl
theorem Ae(x0:Bool)(f:List C->Option Out):ac (some [.bool x0]) [.bool] f=f [.bool x0]:=rfl
theorem cd_i(x0:Int)(f:List C->Option Out):ac (some [.int .i64 x0]) [(.int .i64)] f=f [.int .i64 x0]:=rfl
theorem Ig(x0:List (List C))(x1:Bool)(f:List C->Option Out):ac (some [.list x0,.bool x1]) [.list,.bool] f=f [.list x0,.bool x1]:=rfl
theorem cd_bb(x0:Bool)(x1:Bool)(f:List C->Option Out):ac (some [.bool x0,.bool x1]) [.bool,.bool] f=f [.bool x0,.bool x1]:=rfl
theorem Ih(x0:List (List C))(x1:Int)(f:List C->Option Out):ac (some [.list x0,.int .i64 x1]) [.list,(.int .i64)] f=f [.list x0,.int .i64 x1]:=rfl
theorem cd_il(x0:Int)(x1:List (List C))(f:List C->Option Out):ac (some [.int .i64 x0,.list x1]) [(.int .i64),.list] f=f [.int .i64 x0,.list x1]:=rfl
theorem Jb(x0:List (List C))(x1:Int)(x2:Bool)(f:List C->Option Out):ac (some [.list x0,.int .i64 x1,.bool x2]) [.list,(.int .i64),.bool] f=f [.list x0,.int .i64 x1,.bool x2]:=rfl
theorem Jc(x0:List (List C))(x1:List (List C))(x2:Int)(f:List C->Option Out):ac (some [.list x0,.list x1,.int .i64 x2]) [.list,.list,(.int .i64)] f=f [.list x0,.list x1,.int .i64 x2]:=rfl
theorem Jd(x0:Int)(x1:List (List C))(x2:Bool)(f:List C->Option Out):ac (some [.int .i64 x0,.list x1,.bool x2]) [(.int .i64),.list,.bool] f=f [.int .i64 x0,.list x1,.bool x2]:=rfl
theorem Je(x0:Int)(x1:List (List C))(x2:Int)(f:List C->Option Out):ac (some [.int .i64 x0,.list x1,.int .i64 x2]) [(.int .i64),.list,(.int .i64)] f=f [.int .i64 x0,.list x1,.int .i64 x2]:=rfl
theorem Jf(x0:Int)(x1:Int)(x2:List (List C))(f:List C->Option Out):ac (some [.int .i64 x0,.int .i64 x1,.list x2]) [(.int .i64),(.int .i64),.list] f=f [.int .i64 x0,.int .i64 x1,.list x2]:=rfl
theorem sB(x0:Bool)(x1:List (List C))(x2:Int)(x3:List (List C))(f:List C->Option Out):ac (some [.bool x0,.list x1,.int .i64 x2,.list x3]) [.bool,.list,(.int .i64),.list] f=f [.bool x0,.list x1,.int .i64 x2,.list x3]:=rfl
theorem iE(x0:Bool)(x1:List (List C))(x2:Int)(x3:List (List C))(x4:Bool)(f:List C->Option Out):ac (some [.bool x0,.list x1,.int .i64 x2,.list x3,.bool x4]) [.bool,.list,(.int .i64),.list,.bool] f=f [.bool x0,.list x1,.int .i64 x2,.list x3,.bool x4]:=rfl
theorem kC(x0:Bool)(x1:Bool)(x2:List (List C))(x3:Int)(x4:List (List C))(f:List C->Option Out):ac (some [.bool x0,.bool x1,.list x2,.int .i64 x3,.list x4]) [.bool,.bool,.list,(.int .i64),.list] f=f [.bool x0,.bool x1,.list x2,.int .i64 x3,.list x4]:=rfl
theorem dK(x0:Bool)(x1:List (List C))(x2:Int)(x3:List (List C))(x4:List (List C))(x5:List (List C))(f:List C->Option Out):ac (some [.bool x0,.list x1,.int .i64 x2,.list x3,.list x4,.list x5]) [.bool,.list,(.int .i64),.list,.list,.list] f=f [.bool x0,.list x1,.int .i64 x2,.list x3,.list x4,.list x5]:=rfl
theorem Cr(x0:Int)(x1:Bool)(x2:Int)(x3:List (List C))(x4:Int)(f:List C->Option Out):ac (some [.int .i64 x0,.bool x1,.int .i64 x2,.list x3,.int .i64 x4]) [(.int .i64),.bool,(.int .i64),.list,(.int .i64)] f=f [.int .i64 x0,.bool x1,.int .i64 x2,.list x3,.int .i64 x4]:=rfl
theorem xU(x0:Bool)(x1:List (List C))(x2:Int)(x3:List (List C))(x4:List (List C))(x5:List (List C))(x6:Bool)(f:List C->Option Out):ac (some [.bool x0,.list x1,.int .i64 x2,.list x3,.list x4,.list x5,.bool x6]) [.bool,.list,(.int .i64),.list,.list,.list,.bool] f=f [.bool x0,.list x1,.int .i64 x2,.list x3,.list x4,.list x5,.bool x6]:=rfl
theorem Cs(x0:Int)(x1:Int)(x2:Int)(x3:Int)(x4:Bool)(f:List C->Option Out):ac (some [.int .i64 x0,.int .i64 x1,.int .i64 x2,.int .i64 x3,.bool x4]) [(.int .i64),(.int .i64),(.int .i64),(.int .i64),.bool] f=f [.int .i64 x0,.int .i64 x1,.int .i64 x2,.int .i64 x3,.bool x4]:=rfl
theorem rn(x0:Int)(x1:Bool)(x2:Int)(x3:List (List C))(x4:Int)(x5:Bool)(f:List C->Option Out):ac (some [.int .i64 x0,.bool x1,.int .i64 x2,.list x3,.int .i64 x4,.bool x5]) [(.int .i64),.bool,(.int .i64),.list,(.int .i64),.bool] f=f [.int .i64 x0,.bool x1,.int .i64 x2,.list x3,.int .i64 x4,.bool x5]:=rfl
theorem rp(x0:Int)(x1:Int)(x2:Int)(x3:List (List C))(x4:List (List C))(x5:Int)(f:List C->Option Out):ac (some [.int .i64 x0,.int .i64 x1,.int .i64 x2,.list x3,.list x4,.int .i64 x5]) [(.int .i64),(.int .i64),(.int .i64),.list,.list,(.int .i64)] f=f [.int .i64 x0,.int .i64 x1,.int .i64 x2,.list x3,.list x4,.int .i64 x5]:=rfl
theorem pI(x0:List (List C))(x1:List (List C))(x2:Bool)(x3:List (List C))(x4:Int)(x5:List (List C))(x6:List (List C))(x7:List (List C))(x8:List (List C))(x9:Int)(f:List C->Option Out):ac (some [.list x0,.list x1,.bool x2,.list x3,.int .i64 x4,.list x5,.list x6,.list x7,.list x8,.int .i64 x9]) [.list,.list,.bool,.list,(.int .i64),.list,.list,.list,.list,(.int .i64)] f=f [.list x0,.list x1,.bool x2,.list x3,.int .i64 x4,.list x5,.list x6,.list x7,.list x8,.int .i64 x9]:=rfl
theorem mT(x0:Bool)(x1:List (List C))(x2:Int)(x3:List (List C))(x4:List (List C))(x5:List (List C))(x6:Int)(x7:Int)(x8:Int)(x9:Int)(x10:Bool)(f:List C->Option Out):ac (some [.bool x0,.list x1,.int .i64 x2,.list x3,.list x4,.list x5,.int .i64 x6,.int .i64 x7,.int .i64 x8,.int .i64 x9,.bool x10]) [.bool,.list,(.int .i64),.list,.list,.list,(.int .i64),(.int .i64),(.int .i64),(.int .i64),.bool] f=f [.bool x0,.list x1,.int .i64 x2,.list x3,.list x4,.list x5,.int .i64 x6,.int .i64 x7,.int .i64 x8,.int .i64 x9,.bool x10]:=rfl
theorem pJ(x0:Int)(x1:Bool)(x2:Int)(x3:List (List C))(x4:Int)(x5:Int)(x6:Int)(x7:Int)(x8:Int)(x9:Bool)(f:List C->Option Out):ac (some [.int .i64 x0,.bool x1,.int .i64 x2,.list x3,.int .i64 x4,.int .i64 x5,.int .i64 x6,.int .i64 x7,.int .i64 x8,.bool x9]) [(.int .i64),.bool,(.int .i64),.list,(.int .i64),(.int .i64),(.int .i64),(.int .i64),(.int .i64),.bool] f=f [.int .i64 x0,.bool x1,.int .i64 x2,.list x3,.int .i64 x4,.int .i64 x5,.int .i64 x6,.int .i64 x7,.int .i64 x8,.bool x9]:=rfl
theorem nE{es:List (List C)}{i:Int}{r:List C}(h0:0<=i)(hx:es[i.toNat]?=some r){kk:IntKind}{ks:List CK}{f:List C->Option Out}(hk:ak ks r=true):aE (.list es) (.int kk i) ks f=f r:=by
 obtain⟨n,rfl⟩:=Int.eq_ofNat_of_zero_le h0
 unfold aE
 simp only[C.toInt,C.toList]
 show (match es[n]? with|some r=>ai (ak ks r) (f (gK r 0 ks))|none=>none)=f r
 rw[show es[n]?=some r from hx]
 simp only[ai,hk,gU hk]
theorem ft{α:Type}{e:α->List C}{l:List α}{i:Nat}{x:α}(hx:l[i]?=some x){kk:IntKind}{ks:List CK}{f:List C->Option Out}(hk:ak ks (e x)=true):aE (.list (l.map e)) (.int kk i) ks f=f (e x) :=
 nE (by omega) (by simp[hx]) hk
theorem db{α:Type}{e:α->List C}{l:List α}{i:Int}{x:α}(h0:0<=i)(hx:l[i.toNat]?=some x){kk:IntKind}{ks:List CK}{f:List C->Option Out}(hk:ak ks (e x)=true):aE (.list (l.map e)) (.int kk i) ks f=f (e x) :=
 nE h0 (by simp[hx]) hk
theorem rq{α σ:Type}{F:List C->Option Out}{l:List α}{enc:Nat->σ->List C}{res:List α->Nat->σ->Out}{P:Nat->σ->Prop}
  (hs:∀(i:Nat) (x:α) (xs:List α) (s:σ),l[i]?=some x->P i s->(∃ s',F (enc i s)=some (.jump (enc (i+1) s'))/\P (i+1) s'/\res (x::xs) i s=res xs (i+1) s')\/(∃ o,F (enc i s)=some (.up o)/\res (x::xs) i s=o))
  (hf:∀ s,P l.length s->F (enc l.length s)=some (.up (res [] l.length s))):∀(n i:Nat) (s:σ),n+i=l.length->P i s->aI F (enc i s)=some (res (l.drop i) i s)
 | 0,i,s,hn,h=>by
  have:i=l.length:=by omega
  subst this
  rw[kQ,hf s h,List.drop_of_length_le (Nat.le_refl _)]
  rfl
 | n+1,i,s,hn,h=>by
  have hi:i<l.length:=by omega
  have hx:l[i]?=some l[i]:=by simp[hi]
  rw[kQ,List.drop_eq_getElem_cons hi]
  rcases hs i _ (l.drop (i+1)) s hx h with ⟨s',h1,h2,h3⟩|⟨o,h1,h2⟩
  ·rw[h1,h3]
   simp only[bi]
   exact rq hs hf n (i+1) s' (by omega) h2
  ·rw[h1,h2]
   rfl
theorem aC{α σ:Type}{F:List C->Option Out}{l:List α}{enc:Nat->σ->List C}{res:List α->Nat->σ->Out}(P:Nat->σ->Prop){s:σ}(h:P 0 s)
  (hs:∀(i:Nat) (x:α) (xs:List α) (s:σ),l[i]?=some x->P i s->(∃ s',F (enc i s)=some (.jump (enc (i+1) s'))/\P (i+1) s'/\res (x::xs) i s=res xs (i+1) s')\/(∃ o,F (enc i s)=some (.up o)/\res (x::xs) i s=o))
  (hf:∀ s,P l.length s->F (enc l.length s)=some (.up (res [] l.length s))):aI F (enc 0 s)=some (res l 0 s):=by
 have:=rq hs hf l.length 0 s (by omega) h
 simpa using this
def eI(n:Int):List C:=[.int .i64 n]
def eB(n:Int):List C:=[.int .u8 n]
def Rec.e(r:Rec):List C:=[.int .i64 r.k,.int .i64 r.t,.list (r.m.map eI)]
def Log.e(l:Log):List C:=[.list (l.rs.map Rec.e),.int .i64 l.f]
def Hold.e(h:Hold):List C:=[.int .i64 h.m,.int .i64 h.s]
def Stock.e(s:Stock):List C:=[.int .i64 s.room,.list (s.hs.map Hold.e)]
def Word.e(w:Word):List C:=[.int .i64 w.k,.int .i64 w.h,.int .i64 w.t,.int .i64 w.m]
def House.e(h:House):List C:=[.int .i64 h.id,.bool h.up,.int .i64 h.room,.list (h.lg.rs.map Rec.e),.int .i64 h.lg.f]
def Trip.e(t:Trip):List C:=[.list (t.m.map eI),.int .i64 t.s]
def Desk.e(d:Desk):List C:=[.bool d.up,.list (d.lg.rs.map Rec.e),.int .i64 d.lg.f,.list (d.td.map Word.e)]
def Wd.e(w:Wd):List C:=[.bool w.dk.up,.list (w.dk.lg.rs.map Rec.e),.int .i64 w.dk.lg.f,.list (w.dk.td.map Word.e),.list (w.hs.map House.e),.list (w.ns.map Word.e)]
def Ev.e(e:Ev):List C:=[.int .i64 e.k,.int .i64 e.a,.int .i64 e.b,.list (e.m.map eI)]
section
variable {kk:IntKind} {i:Nat} {f:List C->Option Out}
theorem fC{l:List Int}{x:Int}(h:l[i]?=some x):aE (.list (l.map eI)) (.int kk i) [.int .i64] f=f (eI x):=ft h rfl
theorem kE{l:List Rec}{x:Rec}(h:l[i]?=some x):aE (.list (l.map Rec.e)) (.int kk i) [.int .i64,.int .i64,.list] f=f x.e:=ft h rfl
theorem EI{l:List Hold}{x:Hold}(h:l[i]?=some x):aE (.list (l.map Hold.e)) (.int kk i) [.int .i64,.int .i64] f=f x.e:=ft h rfl
theorem gJ{l:List Word}{x:Word}(h:l[i]?=some x):aE (.list (l.map Word.e)) (.int kk i) [.int .i64,.int .i64,.int .i64,.int .i64] f=f x.e:=ft h rfl
theorem cX{l:List Trip}{x:Trip}(h:l[i]?=some x):aE (.list (l.map Trip.e)) (.int kk i) [.list,.int .i64] f=f x.e:=ft h rfl
theorem fO{l:List House}{x:House}(h:l[i]?=some x):aE (.list (l.map House.e)) (.int kk i) [.int .i64,.bool,.int .i64,.list,.int .i64] f=f x.e:=ft h rfl
end
end Dx
namespace Dx
open Go
@[simp] theorem aG (t e:Option Out):ae true t e=t:=rfl
@[simp] theorem aH (t e:Option Out):ae false t e=e:=rfl
theorem Ct(b:Bool)(t e:Option Out):ae (!b) t e=ae b e t:=by cases b<;>rfl
theorem bH(p:Prop)[Decidable p](t e:Option Out):ae (decide p) t e=if p then t else e:=by by_cases h:p<;>simp[h,ae]
theorem De(b:Bool)(t e:Option Out):ae b t e=if b=true then t else e:=by cases b<;>rfl
theorem bn(a b:Int)(t e:Option Out):ae (a==b) t e=if a=b then t else e:=by rw[De];simp
theorem Af(a b:Int)(t e:Option Out):ae (a != b) t e=if a=b then e else t:=by rw[De];by_cases h:a=b<;>simp[h]
theorem bt{b:Bool}{k:Option Out}(h:b=true):ai b k=k:=by subst h;rfl
@[simp] theorem aw (cs:List C):aj (some (.ret cs))=some cs:=rfl
theorem Cu(o:Out):aj (some (.up o))=none:=rfl
@[simp] theorem nF (o:Out):upD (some o)=some (.up o):=rfl
theorem dL(p:Prop)[Decidable p](a b:Option Out):aj (if p then a else b)=if p then aj a else aj b:=by split<;>rfl
theorem au{i:Nat}(h:i<=1099511627776):IntKind.wrap .i64 ((i:Int)+1)=((i+1:Nat):Int):=Bm h
theorem dB(t:Option Out):cf t t=t:=by unfold cf;rw[if_pos rfl]
theorem kF(x w:Word):(([x.k,x.h,x.t,x.m]:List Int)==[w.k,w.h,w.t,w.m])=decide (x=w):=by
 obtain⟨a,b,c,d⟩:=x;obtain⟨a',b',c',d'⟩:=w
 rw[Bool.eq_iff_iff];simp
theorem Df(s:Stock):(⟨s.room,s.hs⟩:Stock)=s:=rfl
theorem eta_R(s:Rec):(⟨s.k,s.t,s.m⟩:Rec)=s:=rfl
theorem nG(s:Word):(⟨s.k,s.h,s.t,s.m⟩:Word)=s:=rfl
theorem eE(s:Log):(⟨s.rs,s.f⟩:Log)=s:=rfl
theorem eG(s:Desk):(⟨s.up,s.lg,s.td⟩:Desk)=s:=rfl
theorem eta_H(s:House):(⟨s.id,s.up,s.room,s.lg⟩:House)=s:=rfl
theorem eta_T(s:Trip):(⟨s.m,s.s⟩:Trip)=s:=rfl
theorem Dg(s:Wd):(⟨s.dk,s.hs,s.ns⟩:Wd)=s:=rfl
theorem Jg(s:Ev):(⟨s.k,s.a,s.b,s.m⟩:Ev)=s:=rfl
@[simp] theorem fv (k:Option Out):ai true k=k:=rfl
theorem Bn{p:Prop}[Decidable p](h:p)(k:Option Out):ai (decide p) k=k:=by simp[h,ai]
theorem cC{p q:Prop}[Decidable p][Decidable q](h1:p)(h2:q)(k:Option Out):ai (decide p && decide q) k=k:=by simp[h1,h2,ai]
@[simp] theorem bc (ps:List C) (k:List C->Option Out):bi (some (.jump ps)) k=k ps:=rfl
theorem eS(p:Prop)[Decidable p](a b:Option Out)(k:List C->Option Out):bi (if p then a else b) k=if p then bi a k else bi b k:=by split<;>rfl
theorem Fg{b:Bool}{k:Option Out}(h:b=true):aj (ai b k)=aj k:=by subst h;rfl
theorem le_B{i n:Int}(h1:0<=i)(h2:i<=n):(decide ((0:Int)<=i) && decide (i<=n))=true:=by simp[h1,h2]
theorem lt_B{i n:Int}(h1:0<=i)(h2:i<n):(decide ((0:Int)<=i) && decide (i<n))=true:=by simp[h1,h2]
theorem cn:aY=1099511627776:=rfl
theorem iY(m:List Int):(m.map eI).all (ak [.int .i64])=true:=by simp[List.all_map,eI,ak,fG,ep,Function.comp_def]
theorem Ag(m:List Word):(m.map Word.e).all (ak [.int .i64,.int .i64,.int .i64,.int .i64])=true:=by simp[List.all_map,Word.e,ak,fG,ep,Function.comp_def]
theorem Fh(m:List Rec):(m.map Rec.e).all (ak [.int .i64,.int .i64,.list])=true:=by simp[List.all_map,Rec.e,ak,fG,ep,Function.comp_def]
theorem cY{α:Type}{e:α->List C}{l:List α}{off j:Nat}{cs:List C}{x y:α}(hx:l[j]?=some x)(hy:vD (e x) off cs=e y):setRow off (l.map e) j cs=(l.set j y).map e:=by
 unfold setRow
 simp only[List.getElem?_map,hx,Option.map_some,hy,List.map_set]
theorem bG(n lo hi:Int):ce [.int .i64 n,.int .i64 lo,.int .i64 hi]=some [.bool (in_ n lo hi)]:=by
 rw[q_gr]
 simp only[F_gr,ge_iff_le,in_]
 cases decide (lo<=n)<;>rfl
theorem sC{l:List Trip}{t:Int}(h1:1<=t)(h2:t<=l.length):l[(t-1).toNat]?=some (tAt l t):=by rw[pF (by omega)];exact List.getElem?_eq_getElem (by omega)
theorem sD{l:List Hold}{t:Int}(h1:1<=t)(h2:t<=l.length):l[(t-1).toNat]?=some (hAt l t):=by rw[tV (by omega)];exact List.getElem?_eq_getElem (by omega)
theorem Dh{l:List Trip}{t:Int}(h1:1<=t)(h2:t<=l.length){kk:IntKind}{f:List C->Option Out}:aE (.list (l.map Trip.e)) (.int kk (t-1)) [.list,.int .i64] f=f (tAt l t).e :=
 db (by omega) (sC h1 h2) rfl
theorem Fi{l:List Hold}{t:Int}(h1:1<=t)(h2:t<=l.length){kk:IntKind}{f:List C->Option Out}:aE (.list (l.map Hold.e)) (.int kk (t-1)) [.int .i64,.int .i64] f=f (hAt l t).e :=
 db (by omega) (sD h1 h2) rfl
def zL:=And.intro @List.length_append.{0}<|And.intro @List.length_map.{0,0}<|And.intro @List.length_cons.{0}<|@List.length_nil.{0}
def zS:=And.intro @Bool.and_true<|And.intro @List.length_map.{0,0}<|And.intro @List.length_nil.{0}<|And.intro @List.length_cons.{0}<|@List.nil_append.{0}
def zT:=And.intro zS<|And.intro @Ct<|And.intro @aG<|And.intro @aH<|And.intro @Df<|And.intro @eta_R<|And.intro @nG<|And.intro @eE<|And.intro @eG<|And.intro @eta_H<|And.intro @eta_T<|And.intro @Dg<|And.intro @Jg<|And.intro @cn<|And.intro @fv<|And.intro @Bn<|And.intro @cC<|And.intro @iY<|And.intro @Ag<|And.intro @Fh<|And.intro @aw<|And.intro @Cu<|And.intro @nF<|And.intro @Fg<|And.intro @bc<|And.intro @cd_l<|And.intro @Ae<|And.intro @cd_i<|And.intro @Ig<|And.intro @cd_bb<|And.intro @Ih<|And.intro @cd_il<|And.intro @Jb<|And.intro @Jc<|And.intro @Jd<|And.intro @Je<|And.intro @Jf<|And.intro @sB<|And.intro @iE<|And.intro @kC<|And.intro @dK<|And.intro @Cr<|And.intro @xU<|And.intro @Cs<|And.intro @rn<|And.intro @rp<|And.intro @pI<|And.intro @mT<|And.intro @pJ<|And.intro @C.toInt_int<|And.intro @C.toBool_bool<|And.intro @C.toList_list<|@C.toStr_str
def zU:=And.intro @bn<|And.intro @Af<|And.intro @bH<|And.intro @dL<|@eS
theorem vi{l:List Trip}(hl:l.length<=1099511627776){k t:Int}{m:List Int}(hr:aA ⟨k,t,m⟩=true) :
  qk [.list (l.map Trip.e),.int .i64 k,.int .i64 t,.list (m.map eI)]=some [.bool (bW l ⟨k,t,m⟩)]:=by
 have ht:=cd hr
 simp only at ht
 rw[q_fy]
 simp (disch:=first|assumption|omega|(simp only[zL];omega)) only[F_fy,bW,az,Int.reduceEq,reduceIte,zU,zT,aa]
 split
 ·rfl
 ·split
  ·rfl
  ·simp (disch:=first|assumption|omega|(simp only[zL];omega)) only[Dh,Trip.e,Int.reduceEq,reduceIte,zU,zT,aa]
   grind
theorem Fj{l:List Trip}(hl:l.length<=1099511627775){k t:Int}{m:List Int}(hr:aA ⟨k,t,m⟩=true)(hm:bW l ⟨k,t,m⟩=true)(hT:TrOk l) :
  cS [.list (l.map Trip.e),.int .i64 k,.int .i64 t,.list (m.map eI)]=some [.list ((ch l ⟨k,t,m⟩).map Trip.e)]:=by
 have ht:=cd hr
 have hml:=fb hr
 simp only at ht hml
 rw[se]
 rcases gj hr hm with ⟨h4,h⟩|⟨h1,h2,h⟩
 ·simp only at h4;subst h4
  have c1:decide (([]:List (List C)).length+(m.map eI).length<=aY)=true:=by simp[cn];omega
  have c2:decide ((l.map Trip.e).length+[[C.list (m.map eI),C.int .i64 1]].length<=aY)=true:=by simp[cn];omega
  simp only[gw,ch,bn,if_true,bt (iY m),bt c1,List.nil_append,bt c2]
  simp[aw,Trip.e]
 ·simp only at h1 h2 h
  have hx:=sC h1 h2
  have hw:IntKind.wrap .i64 (t-1)=t-1:=az (by omega) (by omega)
  have hb:(decide ((0:Int)<=t-1) && decide (t-1<((l.map Trip.e).length:Nat)))=true:=lt_B (by omega) (by simp;omega)
  have st:∀ s:Int,setRow 1 (l.map Trip.e) (t-1).toNat [C.int .i64 s]=(l.set (t-1).toNat ⟨(tAt l t).m,s⟩).map Trip.e:=fun s=>cY hx rfl
  simp only[gw,hw,ch,bn,bt hb,Dh h1 h2,Trip.e,aa,C.toInt,st]
  rcases h with ⟨h|h,_⟩|⟨h,hs⟩
  ·subst h;rfl
  ·subst h;rfl
  ·subst h;rw[az (by omega) (by omega)];rfl
end Dx
namespace Dx
open Go
theorem Cv(m:List Int)(hL:m.length<=1099511627776):wA [.list (m.map eI)]=some [.bool (bV m)]:=by
 rw[q_fl];unfold F_fl
 have key:=aC (l:=m) (F:=fun ps=>tn (m.map eI) ((aa ps 0).toInt) ((aa ps 1).toInt)) (enc:=fun i (s:Int)=>[.int .i64 s,.int .i64 i])
  (res:=fun xs _ s=>.ret [.bool (xs.all (fun n=>in_ n 0 3) && (m.length==3 && decide (s+xs.sum>0)))]) (fun i s=>0<=s/\s<=3*i) (s:=0) (by simp) ?_ ?_
 ·have key:aI _ [C.int .i64 0,C.int .i64 0]=_:=key
  rw[key];simp[aj,bV]
 ·intro i x xs s hx ⟨h1,h2⟩
  have hi:=(List.getElem?_eq_some_iff.1 hx).1
  have hi':(i:Int)<(m.length:Nat):=by omega
  simp (disch:=first|assumption|omega|(simp only[zL];omega)) only[tn,fC hx,bG,eI,au,hi',if_true,Int.reduceEq,reduceIte,zU,zT,aa]
  cases hin:in_ x 0 3 with
  | true =>
   have:=in_iff.1 hin
   refine .inl ⟨s+x,?_,by omega,by simp[hin,Int.add_assoc]⟩
   simp (disch:=first|assumption|omega|(simp only[zL];omega)) only[aG,az]
  | false=>exact .inr ⟨_,rfl,by simp[hin]⟩
 ·intro s _
  have h:¬ ((m.length:Int)<(m.length:Nat)):=by omega
  simp only[tn,h,if_false,Int.reduceEq,reduceIte,zU,zT,aa]
  by_cases h3:m.length=3
  ·have h3':((m.length:Nat):Int)=3:=by omega
   simp[h3,upD]
  ·have h3':¬ ((m.length:Nat):Int)=3:=by omega
   simp[h3,h3',upD]
theorem kU{k t:Int}{m:List Int}(hL:m.length<=1099511627776):gW [.int .i64 k,.int .i64 t,.list (m.map eI)]=some [.bool (aA ⟨k,t,m⟩)]:=by
 rw[q_gp]
 simp (disch:=first|assumption|omega|(simp only[zL];omega)) only[F_gp,bG,Cv,aA,Int.reduceEq,reduceIte,zU,zT,aa]
 cases in_ t 1 6 with
 | false=>rfl
 | true =>
  simp only[Bool.true_and]
  by_cases h1:k=1
  ·simp only[h1,if_true]
   match m with
   | []=>rfl
   | [n]=>have hr:∀ f,aE (.list ([n].map eI)) (.int .i64 0) [.int .i64] f=f (eI n):=fun f=>rfl
          simp (disch:=first|assumption|omega|(simp only[zL];omega)) only[hr,eI,bG,Int.reduceEq,reduceIte,zU,zT,aa];rfl
   | a::b::l=>have:¬ ((((a::b::l).length:Nat):Int)=1):=by simp;omega
              simp only[List.length_map,this,if_false];rfl
  ·by_cases h4:k=4
   ·simp[h4,aj]
   ·simp only[h1,h4,if_false]
    cases in_ k 2 7 with
    | false=>rfl
    | true=>cases m with
     | nil=>rfl
     | cons a l=>simp;omega
theorem Ah{rs:List Rec}{f k t:Int}{m:List Int}(hL:rs.length<=1099511627775) :
  ql [.list (rs.map Rec.e),.int .i64 f,.int .i64 k,.int .i64 t,.list (m.map eI)]=some [.list ((cL ⟨rs,f⟩ ⟨k,t,m⟩).rs.map Rec.e),.int .i64 f,.bool (nb ⟨rs,f⟩)]:=by
 rw[q_go]
 simp (disch:=first|assumption|omega|(simp only[zL];omega)) only[F_go,cL,nb,Int.reduceEq,reduceIte,zU,zT,aa]
 by_cases h:rs.length>=40
 ·have h':((rs.length:Nat):Int)>=40:=by omega
  simp only[h,h',if_true];simp
 ·have h':¬ (((rs.length:Nat):Int)>=40):=by omega
  simp only[h,h',if_false];simp[Rec.e]
theorem Ai{rs:List Rec}(hL:rs.length<=2000000)(hm:∀ r∈rs,r.m.length<=1099511627776) :
  mf [.list (rs.map Rec.e)]=some [.list (((a8 rs).getD []).map Trip.e),.bool (a8 rs).isSome]:=by
 rw[q_gk];unfold F_gk
 have key:=aC (l:=rs) (F:=fun ps=>tp (rs.map Rec.e) ((aa ps 0).toInt) ((aa ps 1).toList)) (enc:=fun i (s:List Trip)=>[.int .i64 i,.list (s.map Trip.e)])
  (res:=fun xs _ s=>.ret [.list (((bJ xs s).getD []).map Trip.e),.bool (bJ xs s).isSome]) (fun _ s=>TrOk s) (s:=[]) TrOk.nil ?_ ?_
 ·have key:aI _ [C.int .i64 0,C.list []]=_:=key
  rw[key];rfl
 ·intro i x xs s hx hs
  have hi:=(List.getElem?_eq_some_iff.1 hx).1
  have hi':(i:Int)<(rs.length:Nat):=by omega
  have hxm:=hm x (List.mem_of_getElem? hx)
  have hsl:=hs.len
  simp (disch:=first|assumption|omega|(simp only[zL];omega)) only[tp,kE hx,Rec.e,kU,au,hi',if_true,Int.reduceEq,reduceIte,zU,zT,aa]
  cases hr:aA ⟨x.k,x.t,x.m⟩with
  | false=>exact .inr ⟨_,rfl,by simp[bJ,hr]⟩
  | true =>
   simp (disch:=first|assumption|omega|(simp only[zL];omega)) only[vi,Int.reduceEq,reduceIte,zU,zT,aa]
   cases hmay:bW s ⟨x.k,x.t,x.m⟩with
   | false=>exact .inr ⟨_,rfl,by simp[bJ,hr,hmay]⟩
   | true =>
    simp (disch:=first|assumption|omega|(simp only[zL];omega)) only[Fj,Int.reduceEq,reduceIte,zU,zT,aa]
    exact .inl ⟨ch s x,rfl,nk hs hr hmay,by simp[bJ,hr,hmay]⟩
 ·intro s _
  have h:¬ ((rs.length:Int)<(rs.length:Nat)):=by omega
  simp only[tp,h,if_false,Int.reduceEq,reduceIte,zU,zT,aa]
  rfl
def LgS(l:Log):Prop:=l.rs.length<=2000000/\∀ r∈l.rs,r.m.length<=1099511627776
theorem LgOk.S{l:Log}(h:LgOk l):LgS l:=⟨by have:=h.len;omega,fun r hr=>by have:=fb (h.ok r hr);omega⟩
theorem jx{up:Bool}{rs:List Rec}{f:Int}{b:Bool}(hl:LgS ⟨rs,f⟩)(hf:b=true->0<=f/\f<=rs.length){tl:List (List C)} :
  dw [.bool up,.list (rs.map Rec.e),.int .i64 f,.list tl,.bool b]=some [.list ((ah ⟨rs,f⟩ b).map Trip.e)]:=by
 rw[q_dr]
 have ht:∀ n:Nat,(rs.map Rec.e).take n=(rs.take n).map Rec.e:=fun n=>by simp
 have h1:∀ n:Nat,mf [.list ((rs.take n).map Rec.e)]=_:=fun n=>Ai (by simp;have:=hl.1;simp only at this;omega) (fun r hr=>hl.2 r (List.mem_of_mem_take hr))
 cases b with
 | true =>
  obtain⟨h2,h3⟩:=hf rfl
  simp only[F_dr,List.length_map,bt (le_B h2 h3),ht,h1,ah,a9]
  simp (disch:=first|assumption|omega|(simp only[zL];omega)) only[Int.reduceEq,reduceIte,zU,zT,aa]
 | false =>
  have h2:(0:Int)<=(rs.length:Nat):=by omega
  simp only[F_dr,List.length_map,bt (le_B h2 (Int.le_refl _)),ht,h1,ah,a9]
  simp (disch:=first|assumption|omega|(simp only[zL];omega)) only[Int.reduceEq,reduceIte,zU,zT,aa]
  simp only[Bool.false_eq_true,if_false,List.take_length,Int.toNat_natCast]
theorem iF{up:Bool}{rs:List Rec}{f:Int}(hl:LgS ⟨rs,f⟩){tl:List (List C)} :
  dw [.bool up,.list (rs.map Rec.e),.int .i64 f,.list tl,.bool false]=some [.list ((ah ⟨rs,f⟩ false).map Trip.e)]:=jx hl (fun h=>by cases h)
theorem vj{up:Bool}{rs:List Rec}{f:Int}(hl:LgOk ⟨rs,f⟩){tl:List (List C)} :
  dw [.bool up,.list (rs.map Rec.e),.int .i64 f,.list tl,.bool true]=some [.list ((ah ⟨rs,f⟩ true).map Trip.e)]:=jx hl.S (fun _=>⟨hl.lo,hl.hi⟩)
theorem dC{up:Bool}{rs:List Rec}{f:Int}{td:List Word}(hd:DkOk ⟨up,⟨rs,f⟩,td⟩){k t:Int}{m:List Int}(hr:aA ⟨k,t,m⟩=true) :
  cV [.bool up,.list (rs.map Rec.e),.int .i64 f,.list (td.map Word.e),.int .i64 k,.int .i64 t,.list (m.map eI)]=some ((aQ ⟨up,⟨rs,f⟩,td⟩ ⟨k,t,m⟩).e++[.bool (cA ⟨up,⟨rs,f⟩,td⟩ ⟨k,t,m⟩)]):=by
 rw[q_du]
 have h1:=hd.lg.S
 have h2:=hd.trOk false
 have hl2:=h2.len
 have h3:=hd.lg.len
 simp only[af]at h2 hl2 h3
 simp (disch:=first|assumption|omega|(simp only[zL];omega)) only[F_du,iF,vi,Ah,aQ,cA,af,Int.reduceEq,reduceIte,zU,zT,aa]
 cases up with
 | false=>rfl
 | true =>
  simp only[Bool.true_and]
  cases bW (ah ⟨rs,f⟩ false) ⟨k,t,m⟩with
  | false=>rfl
  | true=>simp only[cL,nb];by_cases h:rs.length>=40<;>simp[h,Desk.e,aw]
theorem ga{td:List Word}(hL:td.length<=1099511627775){k h t m:Int} :
  gX [.list (td.map Word.e),.int .i64 k,.int .i64 h,.int .i64 t,.int .i64 m]=some [.bool (td.contains ⟨k,h,t,m⟩)]:=by
 rw[q_ej];unfold F_ej
 have key:=aC (l:=td) (F:=fun ps=>tq (td.map Word.e) k h t m ((aa ps 0).toInt)) (enc:=fun i (_:Unit)=>[.int .i64 i])
  (res:=fun xs _ _=>.ret [.bool (xs.contains ⟨k,h,t,m⟩)]) (fun _ _=>True) (s:=()) trivial ?_ ?_
 ·have key:aI _ [C.int .i64 0]=_:=key
  rw[key];rfl
 ·intro i x xs s hx _
  have hi:=(List.getElem?_eq_some_iff.1 hx).1
  have hi':(i:Int)<(td.length:Nat):=by omega
  have hw:=kF x ⟨k,h,t,m⟩
  simp only at hw
  simp (disch:=first|assumption|omega|(simp only[zL];omega)) only[tq,gJ hx,Word.e,au,hi',if_true,hw,Int.reduceEq,reduceIte,zU,zT,aa]
  by_cases e:x=⟨k,h,t,m⟩
  ·exact .inr ⟨_,by rw[if_pos e],by simp[e]⟩
  ·exact .inl ⟨(),by rw[if_neg e],trivial,by simp[Ne.symm e]⟩
 ·intro s _
  have h:¬ ((td.length:Int)<(td.length:Nat)):=by omega
  simp only[tq,h,if_false,Int.reduceEq,reduceIte,zU,zT,aa]
  rfl
theorem kG{k h t m:Int}:jk [.int .i64 k,.int .i64 h,.int .i64 t,.int .i64 m]=some [.bool (bg ⟨k,h,t,m⟩)]:=by
 rw[q_fj]
 simp (disch:=first|assumption|omega|(simp only[zL];omega)) only[F_fj,bG,bg,Int.reduceEq,reduceIte,zU,zT,aa]
 cases in_ h 1 3<;>cases in_ t 1 6<;>cases in_ k 1 7<;>simp only[aG,aH,Bool.true_and,Bool.false_and,aw]
 split<;>rfl
theorem Cw{up:Bool}{rs:List (List C)}{f:Int}{td:List Word}(hL:td.length<=1099511627775){t k:Int}{m:List Int}(hm:m.length<=1000) :
  wC [.bool up,.list rs,.int .i64 f,.list (td.map Word.e),.int .i64 t,.list (m.map eI),.int .i64 k]=some [.bool (aP td t k 1 m)]:=by
 rw[q_fo];unfold F_fo
 have key:=aC (l:=m) (F:=fun ps=>tv (td.map Word.e) t (m.map eI) k ((aa ps 0).toInt)) (enc:=fun i (_:Unit)=>[.int .i64 i])
  (res:=fun xs i _=>.ret [.bool (aP td t k ((i+1:Nat):Int) xs)]) (fun _ _=>True) (s:=()) trivial ?_ ?_
 ·have key:aI _ [C.int .i64 0]=_:=key
  rw[key];rfl
 ·intro i x xs s hx _
  have hi:=(List.getElem?_eq_some_iff.1 hx).1
  have hi':(i:Int)<(m.length:Nat):=by omega
  simp (disch:=first|assumption|omega|(simp only[zL];omega)) only[tv,fC hx,eI,au,hi',if_true,ga,Int.reduceEq,reduceIte,zU,zT,aa]
  have e1:((i+1:Nat):Int)+1=((i+1+1:Nat):Int):=by omega
  by_cases hx0:x>0
  ·simp only[hx0,if_true]
   cases hc:td.contains ⟨k,((i+1:Nat):Int),t,0⟩with
   | true=>exact .inr ⟨_,rfl,by simp only[aP,hx0,hc,decide_true,Bool.and_self,Bool.true_or]⟩
   | false=>exact .inl ⟨(),rfl,trivial,by simp only[aP,hx0,hc,e1,Bool.and_false,Bool.false_or]⟩
  ·simp only[hx0,if_false]
   exact .inl ⟨(),by first|rfl|trivial,trivial,by simp only[aP,hx0,e1,decide_false,Bool.false_and,Bool.false_or]⟩
 ·intro s _
  have h:¬ ((m.length:Int)<(m.length:Nat)):=by omega
  simp only[tv,h,if_false,Int.reduceEq,reduceIte,zU,zT,aa]
  rfl
theorem oV{up:Bool}{rs:List (List C)}{f:Int}{td:List Word}(hL:td.length<=1099511627775){t k:Int}{m:List Int}(hm:m.length<=1000) :
  mg [.bool up,.list rs,.int .i64 f,.list (td.map Word.e),.int .i64 t,.list (m.map eI),.int .i64 k]=some [.bool (al td t k 1 m)]:=by
 rw[q_ge];unfold F_ge
 have key:=aC (l:=m) (F:=fun ps=>tx (td.map Word.e) t (m.map eI) k ((aa ps 0).toInt)) (enc:=fun i (_:Unit)=>[.int .i64 i])
  (res:=fun xs i _=>.ret [.bool (al td t k ((i+1:Nat):Int) xs)]) (fun _ _=>True) (s:=()) trivial ?_ ?_
 ·have key:aI _ [C.int .i64 0]=_:=key
  rw[key];rfl
 ·intro i x xs s hx _
  have hi:=(List.getElem?_eq_some_iff.1 hx).1
  have hi':(i:Int)<(m.length:Nat):=by omega
  simp (disch:=first|assumption|omega|(simp only[zL];omega)) only[tx,fC hx,eI,au,hi',if_true,ga,Int.reduceEq,reduceIte,zU,zT,aa]
  have e1:((i+1:Nat):Int)+1=((i+1+1:Nat):Int):=by omega
  by_cases hx0:x>0
  ·simp only[hx0,if_true]
   cases hc:td.contains ⟨k,((i+1:Nat):Int),t,0⟩with
   | true=>exact .inl ⟨(),rfl,trivial,by simp only[al,hx0,hc,e1,Bool.or_true,Bool.true_and]⟩
   | false=>exact .inr ⟨_,rfl,by simp only[al,hx0,hc,decide_true,Bool.not_true,Bool.or_self,Bool.false_and]⟩
  ·simp only[hx0,if_false]
   exact .inl ⟨(),by first|rfl|trivial,trivial,by simp only[al,hx0,e1,decide_false,Bool.not_false,Bool.true_or,Bool.true_and]⟩
 ·intro s _
  have h:¬ ((m.length:Int)<(m.length:Nat)):=by omega
  simp only[tx,h,if_false,Int.reduceEq,reduceIte,zU,zT,aa]
  rfl
end Dx
namespace Dx
open Go
theorem nH{room:Int}:qj [.int .i64 room]=some ((if in_ room 0 9 then bY room else⟨0,[]⟩).e++[.bool (in_ room 0 9)]):=by
 rw[q_dd]
 simp (disch:=first|assumption|omega|(simp only[zL];omega)) only[F_dd,bG,Int.reduceEq,reduceIte,zU,zT,aa]
 cases in_ room 0 9<;>rfl
theorem vk{h:Hold}(ho:bh h=true):0<=had h/\had h<=3/\(h.s=1\/h.s=2->had h=h.m)/\0<=h.m/\h.m<=3:=by
 unfold bh at ho
 unfold had
 split at ho
 ·rename_i e;simp at ho;simp[e];omega
 ·split at ho
  ·rename_i e;have h1:=in_iff.1 ho;simp only[e,if_true];exact⟨by omega,by omega,by simp,by omega,by omega⟩
  ·rename_i e;simp only[e,if_false]
   split at ho
   ·have h1:=in_iff.1 ho;exact⟨by omega,by omega,by simp,by omega,by omega⟩
   ·cases ho
theorem Cx{room:Int}{hs:List Hold}(hr:0<=room/\room<=9)(ho:∀ h∈hs,bh h=true)(hl:hs.length<=100) :
  wD [.int .i64 room,.list (hs.map Hold.e)]=some [.int .i64 (free ⟨room,hs⟩)]:=by
 rw[q_fv];unfold F_fv
 have key:=aC (l:=hs) (F:=fun ps=>tB (hs.map Hold.e) ((aa ps 0).toInt) ((aa ps 1).toInt)) (enc:=fun i (s:Int)=>[.int .i64 s,.int .i64 i])
  (res:=fun xs _ s=>.ret [.int .i64 (s-(xs.map had).sum)]) (fun i s=>room-3*i<=s/\s<=room) (s:=room) (by simp) ?_ ?_
 ·have key:aI _ [C.int .i64 room,C.int .i64 0]=_:=key
  rw[key];rfl
 ·intro i x xs s hx ⟨h1,h2⟩
  have hi:=(List.getElem?_eq_some_iff.1 hx).1
  have hi':(i:Int)<(hs.length:Nat):=by omega
  have hm:=vk (ho x (List.mem_of_getElem? hx))
  simp (disch:=first|assumption|omega|(simp only[zL];omega)) only[tB,EI hx,Hold.e,au,hi',if_true,az,Int.reduceEq,reduceIte,zU,zT,aa]
  refine .inl ⟨s-had x,?_,by omega,by simp[Int.sub_sub]⟩
  unfold had
  by_cases e1:x.s=1
  ·simp[e1]
  ·by_cases e2:x.s=2<;>simp[e1,e2]
 ·intro s _
  have h:¬ ((hs.length:Int)<(hs.length:Nat)):=by omega
  simp only[tB,h,if_false,Int.reduceEq,reduceIte,zU,zT,aa]
  simp
theorem Fk{n:Int}{f:List C->Option Out}:aE (.list ([n].map eI)) (.int .i64 0) [.int .i64] f=f (eI n):=rfl
theorem Aj{room:Int}{hs:List Hold}(ho:StOk ⟨room,hs⟩){k t:Int}{m:List Int}(hr:aA ⟨k,t,m⟩=true) :
  qn [.int .i64 room,.list (hs.map Hold.e),.int .i64 k,.int .i64 t,.list (m.map eI)]=some [.bool (may ⟨room,hs⟩ ⟨k,t,m⟩)]:=by
 have ht:=cd hr
 have hl:=ho.len
 simp only at ht hl
 rw[q_gn]
 simp (disch:=first|assumption|omega|(simp only[zL];omega)) only[F_gn,az,Fi,Hold.e,may,dW,Cx ho.room ho.hold (show hs.length<=100 by omega),Int.reduceEq,reduceIte,zU,zT,aa]
 by_cases h1:k=1
 ·obtain⟨n,e,_⟩:=dA hr h1
  simp only at e;subst e
  simp only[h1,if_true,Fk,eI,Int.reduceEq,reduceIte,zU,zT,aa]
  by_cases h0:(hAt hs t).s=0<;>simp[h0,aw]
 ·by_cases h2:k=2
  ·simp[h2,aw]
  ·by_cases h3:k=3
   ·by_cases h0:(hAt hs t).s=1<;>simp[h3,h0,aw]
   ·simp[h1,h2,h3,aw]
theorem Jh{room:Int}{hs:List Hold}(ho:StOk ⟨room,hs⟩){k t:Int}{m:List Int}(hr:aA ⟨k,t,m⟩=true) :
  di [.int .i64 room,.list (hs.map Hold.e),.int .i64 k,.int .i64 t,.list (m.map eI)]=some (act ⟨room,hs⟩ ⟨k,t,m⟩).e:=by
 have ht:=cd hr
 have hl:=ho.len
 simp only at ht hl
 have hx:=sD (l:=hs) ht.1 (by omega)
 have st:∀ a b:Int,setRow 0 (hs.map Hold.e) (t-1).toNat [C.int .i64 a,C.int .i64 b]=(hs.set (t-1).toNat ⟨a,b⟩).map Hold.e:=fun a b=>cY hx rfl
 rw[uD]
 simp (disch:=first|assumption|omega|(simp only[zL];omega)) only[lH,az,Fi,Hold.e,act,io,st,Int.reduceEq,reduceIte,zU,zT,aa]
 by_cases h1:k=1
 ·obtain⟨n,e,_⟩:=dA hr h1
  simp only at e;subst e
  simp only[h1,if_true,Fk,eI,Int.reduceEq,reduceIte,zU,zT,aa]
  rfl
 ·by_cases h2:k=2
  ·simp only[h2,if_true];rfl
  ·by_cases h3:k=3
   ·simp only[h3,if_true];rfl
   ·simp only[h1,h2,h3,if_false];rfl
theorem Di{room:Int}{rs:List Rec}(hL:rs.length<=2000000)(hm:∀ r∈rs,r.m.length<=1099511627776) :
  mh [.int .i64 room,.list (rs.map Rec.e)]=some (((bM room rs).getD ⟨0,[]⟩).e++[.bool (bM room rs).isSome]):=by
 rw[q_gq]
 simp (disch:=first|assumption|omega|(simp only[zL];omega)) only[F_gq,nH,Stock.e,List.cons_append,Int.reduceEq,reduceIte,zU,zT,aa]
 cases hr:in_ room 0 9 with
 | false=>simp[bM,hr,aw]
 | true =>
  simp only[if_true]
  have key:=aC (l:=rs) (F:=fun ps=>tC (rs.map Rec.e) ((aa ps 0).toInt) ((aa ps 1).toInt) ((aa ps 2).toList)) (enc:=fun i (s:Stock)=>[.int .i64 i,.int .i64 s.room,.list (s.hs.map Hold.e)])
   (res:=fun xs _ s=>.ret (((bP xs s).getD ⟨0,[]⟩).e++[.bool (bP xs s).isSome])) (fun _ s=>StOk s) (s:=bY room) (fA (in_iff.1 hr)) ?_ ?_
  ·have key:aI _ [C.int .i64 0,C.int .i64 (bY room).room,C.list ((bY room).hs.map Hold.e)]=_:=key
   rw[key];simp[bM,hr,aw,Stock.e]
  ·intro i x xs s hx hs
   have hi:=(List.getElem?_eq_some_iff.1 hx).1
   have hi':(i:Int)<(rs.length:Nat):=by omega
   have hxm:=hm x (List.mem_of_getElem? hx)
   simp (disch:=first|assumption|omega|(simp only[zL];omega)) only[tC,kE hx,Rec.e,kU,au,hi',if_true,Int.reduceEq,reduceIte,zU,zT,aa]
   cases hr:aA x with
   | false=>exact .inr ⟨_,rfl,by simp[bP,hr];rfl⟩
   | true =>
    have hs':StOk ⟨s.room,s.hs⟩:=hs
    have hr':aA ⟨x.k,x.t,x.m⟩=true:=hr
    simp (disch:=first|assumption|omega|(simp only[zL];omega)) only[Aj,Int.reduceEq,reduceIte,zU,zT,aa]
    cases hmay:may s x with
    | false=>exact .inr ⟨_,rfl,by simp[bP,hr,hmay];rfl⟩
    | true =>
     simp (disch:=first|assumption|omega|(simp only[zL];omega)) only[Jh,Stock.e,Int.reduceEq,reduceIte,zU,zT,aa]
     exact .inl ⟨act s x,rfl,tW hs hr hmay,by simp[bP,hr,hmay]⟩
  ·intro s _
   have h:¬ ((rs.length:Int)<(rs.length:Nat)):=by omega
   simp only[tC,h,if_false,Int.reduceEq,reduceIte,zU,zT,aa]
   rfl
theorem xV{id room f:Int}{up b:Bool}{rs:List Rec}(ho:LgOk ⟨rs,f⟩) :
  qo [.int .i64 id,.bool up,.int .i64 room,.list (rs.map Rec.e),.int .i64 f,.bool b]=some (ax ⟨id,up,room,⟨rs,f⟩⟩ b).e:=by
 rw[q_dt]
 have hl:=ho.S
 have h2:=ho.lo
 have h3:=ho.hi
 simp only at h2 h3
 have ht:∀ n:Nat,(rs.map Rec.e).take n=(rs.take n).map Rec.e:=fun n=>by simp
 have h1:∀ n:Nat,mh [.int .i64 room,.list ((rs.take n).map Rec.e)]=_:=fun n=>Di (by simp;have:=hl.1;simp only at this;omega) (fun r hr=>hl.2 r (List.mem_of_mem_take hr))
 cases b with
 | true =>
  simp (disch:=first|assumption|omega|(simp only[zL];omega)) only[F_dt,ht,h1,ax,a9,Stock.e,List.cons_append,if_true,Int.reduceEq,reduceIte,zU,zT,aa]
 | false =>
  simp (disch:=first|assumption|omega|(simp only[zL];omega)) only[F_dt,ht,h1,ax,a9,Stock.e,List.cons_append,Int.reduceEq,reduceIte,zU,zT,aa]
  simp
theorem Cy{k h t m:Int}:wE [.int .i64 k,.int .i64 h,.int .i64 t,.int .i64 m]=some (bf ⟨k,h,t,m⟩).e:=by
 rw[q_fx]
 simp (disch:=first|assumption|omega|(simp only[zL];omega)) only[F_fx,bf,Int.reduceEq,reduceIte,zU,zT,aa]
 split
 ·rfl
 ·split<;>rfl
theorem zB(l:Log)(r:Rec):(cL l r).f=l.f:=by unfold cL;split<;>rfl
def oW(o:Option Word):Word:=o.getD ⟨0,0,0,0⟩
theorem uL{id room f:Int}{up:Bool}{rs:List (List C)}{k h t m st:Int} :
  tD [.int .i64 id,.bool up,.int .i64 room,.list rs,.int .i64 f,.int .i64 k,.int .i64 h,.int .i64 t,.int .i64 m,.int .i64 st]=some ((oW (answer id ⟨k,h,t,m⟩ st)).e++[.bool (answer id ⟨k,h,t,m⟩ st).isSome]):=by
 rw[q_cj]
 by_cases h1:k=1
 ·subst h1
  by_cases s1:st=1
  ·subst s1;rfl
  ·by_cases s2:st=2
   ·subst s2;rfl
   ·by_cases s3:st=3
    ·subst s3;rfl
    ·simp[E4,py,pz,answer,s1,s2,s3,bn,aG,aH,bc,eS,C.toBool_bool,aa,aw,oW,Word.e]
 ·by_cases h2:k=2
  ·subst h2
   by_cases s2:st=2
   ·subst s2;rfl
   ·simp[E4,py,pz,answer,s2,bn,aG,aH,bc,eS,C.toBool_bool,aa,aw,oW,Word.e]
  ·by_cases h3:k=3
   ·subst h3
    by_cases s3:st=3
    ·subst s3;rfl
    ·simp[E4,py,pz,answer,s3,bn,aG,aH,bc,eS,C.toBool_bool,aa,aw,oW,Word.e]
   ·simp[E4,py,pz,answer,h1,h2,h3,bn,aG,aH,bc,eS,C.toBool_bool,aa,aw,oW,Word.e]
theorem Bo{id room f:Int}{up:Bool}{rs:List Rec}(ho:HsOk ⟨id,up,room,⟨rs,f⟩⟩){k h t m:Int} :
  wF [.int .i64 id,.bool up,.int .i64 room,.list (rs.map Rec.e),.int .i64 f,.int .i64 k,.int .i64 h,.int .i64 t,.int .i64 m] =
   some ((hhear ⟨id,up,room,⟨rs,f⟩⟩ ⟨k,h,t,m⟩).1.e++((oW (hhear ⟨id,up,room,⟨rs,f⟩⟩ ⟨k,h,t,m⟩).2).e++[.bool (hhear ⟨id,up,room,⟨rs,f⟩⟩ ⟨k,h,t,m⟩).2.isSome])):=by
 rw[q_fh]
 have hlg:LgOk ⟨rs,f⟩:=ho.lg
 have hlen:rs.length<=40:=ho.lg.len
 have sA:=ho.stOk false
 have sF:=ho.stOk true
 have lA:=sA.len
 have lF:=sF.len
 simp (disch:=first|assumption|omega|(simp only[zL];omega)) only[F_fh,kG,hhear,Int.reduceEq,reduceIte,zU,zT,aa]
 cases up with
 | false=>rfl
 | true =>
  cases hw:bg ⟨k,h,t,m⟩with
  | false=>rfl
  | true =>
   have wok:=wordOk_iff.1 hw
   have wt:=wok.t
   simp only at wt
   have hr:=b8 wok
   have sA':StOk ⟨(ax ⟨id,true,room,⟨rs,f⟩⟩ false).room,(ax ⟨id,true,room,⟨rs,f⟩⟩ false).hs⟩:=sA
   have hr':aA ⟨(bf ⟨k,h,t,m⟩).k,(bf ⟨k,h,t,m⟩).t,(bf ⟨k,h,t,m⟩).m⟩=true:=hr
   simp (disch:=first|assumption|omega|(simp only[zL];omega)) only[xV,Cy,Stock.e,Rec.e,Aj,Ah,uL,Fi,az,Hold.e,Word.e,List.cons_append,Int.reduceEq,reduceIte,zU,zT,aa]
   by_cases e1:h=id
   ·by_cases e2:k>3
    ·simp[e1,e2,aw,House.e,oW,Word.e]
    ·simp only[e1,e2,if_true,if_false,dW]
     cases may (ax ⟨id,true,room,⟨rs,f⟩⟩ false) (bf ⟨k,id,t,m⟩)with
     | true=>simp[aw,House.e,oW,Word.e,zB]
     | false =>
      by_cases e3:k=1
      ·by_cases e4:(hAt (ax ⟨id,true,room,⟨rs,f⟩⟩ false).hs t).s=0
       ·simp[e3,e4,aw,House.e,oW,Word.e]
       ·simp[e3,e4,aw,House.e,oW,Word.e]
      ·simp[e3,aw,House.e,oW,Word.e]
   ·simp[e1,aw,House.e,oW,Word.e]
end Dx
namespace Dx
open Go
def mG(s:Int)(sure:Bool)(td:List Word)(t:Int)(m:List Int):Int :=
 if s=1/\aP td t 5 1 m then 6
 else if s=1/\al td t 4 1 m then 5
 else if s=2/\sure/\al td t 6 1 m then 7
 else if s=3/\sure/\al td t 7 1 m then 7
 else 0
theorem Cz(d:Desk)(t:Int):bC d t=mG (tAt (af d false) t).s (ib d t) d.td t (tAt (af d false) t).m:=rfl
section
variable {up:Bool} {rs:List Rec} {f:Int} {td:List Word} {t:Int} {m:List Int} {s:Int} {b:Bool}
theorem jD0(hL:td.length<=1099511627775)(hm:m.length<=1000){d5 d7:Desk}{b5 b7:Bool}
  (w5:cV [.bool up,.list (rs.map Rec.e),.int .i64 f,.list (td.map Word.e),.int .i64 5,.int .i64 t,.list []]=some (d5.e++[.bool b5]))
  (w7:cV [.bool up,.list (rs.map Rec.e),.int .i64 f,.list (td.map Word.e),.int .i64 7,.int .i64 t,.list []]=some (d7.e++[.bool b7])) (c:Bool) :
  aj (yW up (rs.map Rec.e) f (td.map Word.e) t (m.map eI) s b c)=some (if c then d5 else if s=2/\b/\al td t 6 1 m then d7 else if s=3/\b/\al td t 7 1 m then d7 else⟨up,⟨rs,f⟩,td⟩).e:=by
 simp only[Desk.e,List.cons_append,List.nil_append]at w5 w7
 unfold yW
 cases c with
 | true=>simp only[aG,w5,iE,aw,aa,C.toInt_int,C.toBool_bool,C.toList_list,if_true];rfl
 | false =>
  simp only[aH,bn,Bool.false_eq_true,if_false]
  by_cases h2:s=2
  ·subst h2
   simp (disch:=first|assumption|omega|(simp only[zL];omega)) only[if_true,oV,w7,Ae,iE,aa,C.toInt_int,C.toBool_bool,C.toList_list]
   cases b<;>cases al td t 6 1 m<;>simp[Desk.e]
  ·simp only[h2,if_false,false_and]
   by_cases h3:s=3
   ·subst h3
    simp (disch:=first|assumption|omega|(simp only[zL];omega)) only[if_true,oV,w7,Ae,iE,aa,C.toInt_int,C.toBool_bool,C.toList_list]
    cases b<;>cases al td t 7 1 m<;>simp[Desk.e]
   ·simp only[h3,if_false,false_and];rfl
theorem jD1(hL:td.length<=1099511627775)(hm:m.length<=1000){d5 d6 d7:Desk}{b5 b6 b7:Bool}
  (w5:cV [.bool up,.list (rs.map Rec.e),.int .i64 f,.list (td.map Word.e),.int .i64 5,.int .i64 t,.list []]=some (d5.e++[.bool b5]))
  (w6:cV [.bool up,.list (rs.map Rec.e),.int .i64 f,.list (td.map Word.e),.int .i64 6,.int .i64 t,.list []]=some (d6.e++[.bool b6]))
  (w7:cV [.bool up,.list (rs.map Rec.e),.int .i64 f,.list (td.map Word.e),.int .i64 7,.int .i64 t,.list []]=some (d7.e++[.bool b7])) (c:Bool) :
  aj (yX up (rs.map Rec.e) f (td.map Word.e) t (m.map eI) s b c)=some (if c then d6 else if s=1/\al td t 4 1 m then d5 else if s=2/\b/\al td t 6 1 m then d7 else if s=3/\b/\al td t 7 1 m then d7 else⟨up,⟨rs,f⟩,td⟩).e:=by
 have j0:=fun c=>jD0 (s:=s) (b:=b) hL hm w5 w7 c
 simp only[Desk.e,List.cons_append,List.nil_append]at w6
 unfold yX
 cases c with
 | true=>simp only[aG,w6,iE,aw,aa,C.toInt_int,C.toBool_bool,C.toList_list,if_true];rfl
 | false =>
  simp only[aH,bn,Bool.false_eq_true,if_false]
  by_cases h1:s=1
  ·simp (disch:=first|assumption|omega|(simp only[zL];omega)) only[h1,if_true,oV,Ae,aa,C.toBool_bool,bc]
   rw[<-h1,j0]
   simp[h1]
  ·simp only[h1,if_false,bc,aa,C.toBool_bool]
   rw[j0];simp
theorem jD2(hL:td.length<=1099511627775)(hm:m.length<=1000){d5 d6 d7:Desk}{b5 b6 b7:Bool}
  (w5:cV [.bool up,.list (rs.map Rec.e),.int .i64 f,.list (td.map Word.e),.int .i64 5,.int .i64 t,.list []]=some (d5.e++[.bool b5]))
  (w6:cV [.bool up,.list (rs.map Rec.e),.int .i64 f,.list (td.map Word.e),.int .i64 6,.int .i64 t,.list []]=some (d6.e++[.bool b6]))
  (w7:cV [.bool up,.list (rs.map Rec.e),.int .i64 f,.list (td.map Word.e),.int .i64 7,.int .i64 t,.list []]=some (d7.e++[.bool b7])) :
  aj (yY up (rs.map Rec.e) f (td.map Word.e) t (m.map eI) s b) =
   some (if s=1/\aP td t 5 1 m then d6 else if s=1/\al td t 4 1 m then d5 else if s=2/\b/\al td t 6 1 m then d7 else if s=3/\b/\al td t 7 1 m then d7 else⟨up,⟨rs,f⟩,td⟩).e:=by
 have j1:=fun c=>jD1 (s:=s) (b:=b) hL hm w5 w6 w7 c
 unfold yY
 simp only[bn]
 by_cases h1:s=1
 ·simp (disch:=first|assumption|omega|(simp only[zL];omega)) only[h1,if_true,Cw,Ae,aa,C.toBool_bool,bc]
  rw[<-h1,j1]
  simp[h1]
 ·simp only[h1,if_false,bc,aa,C.toBool_bool]
  rw[j1];simp[h1]
end
theorem lN{up:Bool}{rs:List Rec}{f:Int}{td:List Word}(hd:DkOk ⟨up,⟨rs,f⟩,td⟩)(hL:td.length<=1099511627775){t:Int}(h1:1<=t)(h2:t<=(ah ⟨rs,f⟩ false).length) :
  tz [.bool up,.list (rs.map Rec.e),.int .i64 f,.list (td.map Word.e),.int .i64 t]=some (aF ⟨up,⟨rs,f⟩,td⟩ t).e:=by
 rw[q_da]
 have hlg:LgOk ⟨rs,f⟩:=hd.lg
 have hS:=hlg.S
 have tA:TrOk (ah ⟨rs,f⟩ false):=hd.trOk false
 have tF:TrOk (ah ⟨rs,f⟩ true):=hd.trOk true
 have lA:=tA.len
 have lF:=tF.len
 have hml:=aT (tripOk_iff.1 (tA.ok _ (gP (t:=t) (by omega)))).1
 have w5:=dC hd (k:=5) (t:=t) (m:=[]) (by simp[aA,in_iff];omega)
 have w6:=dC hd (k:=6) (t:=t) (m:=[]) (by simp[aA,in_iff];omega)
 have w7:=dC hd (k:=7) (t:=t) (m:=[]) (by simp[aA,in_iff];omega)
 have j:=fun s b=>jD2 (s:=s) (b:=b) hL (by omega:(tAt (ah ⟨rs,f⟩ false) t).m.length<=1000) w5 w6 w7
 simp (disch:=first|assumption|omega|(simp only[zL];omega)) only[F_da,iF,vj,Dh,az,Trip.e,Int.reduceEq,reduceIte,zU,zT,aa]
 rw[j,j]
 unfold aF
 rw[Cz]
 unfold ib af
 have fin:∀ b:Bool,(if mG (tAt (ah ⟨rs,f⟩ false) t).s b td t (tAt (ah ⟨rs,f⟩ false) t).m>0 then aQ ⟨up,⟨rs,f⟩,td⟩ ⟨mG (tAt (ah ⟨rs,f⟩ false) t).s b td t (tAt (ah ⟨rs,f⟩ false) t).m,t,[]⟩ else⟨up,⟨rs,f⟩,td⟩) =
   (if(tAt (ah ⟨rs,f⟩ false) t).s=1/\aP td t 5 1 (tAt (ah ⟨rs,f⟩ false) t).m then aQ ⟨up,⟨rs,f⟩,td⟩ ⟨6,t,[]⟩ else if(tAt (ah ⟨rs,f⟩ false) t).s=1/\al td t 4 1 (tAt (ah ⟨rs,f⟩ false) t).m then aQ ⟨up,⟨rs,f⟩,td⟩ ⟨5,t,[]⟩ else if(tAt (ah ⟨rs,f⟩ false) t).s=2/\b/\al td t 6 1 (tAt (ah ⟨rs,f⟩ false) t).m then aQ ⟨up,⟨rs,f⟩,td⟩ ⟨7,t,[]⟩ else if(tAt (ah ⟨rs,f⟩ false) t).s=3/\b/\al td t 7 1 (tAt (ah ⟨rs,f⟩ false) t).m then aQ ⟨up,⟨rs,f⟩,td⟩ ⟨7,t,[]⟩ else⟨up,⟨rs,f⟩,td⟩):=by
  intro b
  unfold mG
  split
  ·rfl
  ·split
   ·rfl
   ·split
    ·rfl
    ·split<;>rfl
 dsimp only
 rw[fin]
 by_cases h:t<=((ah ⟨rs,f⟩ true).length:Nat)
 ·simp only[h,if_true,decide_true,Bool.true_and]
 ·simp only[h,if_false,decide_false,Bool.false_and]
theorem gb(up:Bool)(l:Log)(td:List Word)(k h t m:Int):bd ⟨up,l,td⟩ ⟨k,h,t,m⟩=(up && (bg ⟨k,h,t,m⟩ && (decide (k>=4) && decide (t<=(ah l false).length)))):=rfl
theorem rr{up:Bool}{rs:List Rec}{f:Int}{td:List Word}(hd:DkOk ⟨up,⟨rs,f⟩,td⟩)(hL:td.length<=1099511627774){k h t m:Int} :
  qm [.bool up,.list (rs.map Rec.e),.int .i64 f,.list (td.map Word.e),.int .i64 k,.int .i64 h,.int .i64 t,.int .i64 m]=some (dhear ⟨up,⟨rs,f⟩,td⟩ ⟨k,h,t,m⟩).e:=by
 rw[q_es]
 have hlg:LgOk ⟨rs,f⟩:=hd.lg
 have hS:=hlg.S
 have hL':td.length<=1099511627775:=by omega
 unfold dhear
 simp (disch:=first|assumption|omega|(simp only[zL];omega)) only[F_es,kG,iF,ga,Int.reduceEq,reduceIte,zU,zT,aa]
 have nh:bd ⟨up,⟨rs,f⟩,td⟩ ⟨k,h,t,m⟩=false->(if bd ⟨up,⟨rs,f⟩,td⟩ ⟨k,h,t,m⟩=true then aF (aZ ⟨up,⟨rs,f⟩,td⟩ ⟨k,h,t,m⟩) t else⟨up,⟨rs,f⟩,td⟩)=⟨up,⟨rs,f⟩,td⟩:=fun e=>by rw[e];rfl
 cases up with
 | false=>rw[nh rfl];rfl
 | true =>
  cases hw:bg ⟨k,h,t,m⟩with
  | false=>rw[nh (by simp[bd,hw])];rfl
  | true =>
   have wt:=(wordOk_iff.1 hw).t
   simp only at wt
   simp only[aG,dL]
   by_cases h4:k<4
   ·rw[nh (by simp[bd,hw];omega)]
    simp only[h4,if_true];rfl
   ·by_cases ht:t>((ah ⟨rs,f⟩ false).length:Nat)
    ·rw[nh (by rw[gb,hw];simp only[Bool.true_and];rw[Bool.and_eq_false_iff];right;exact decide_eq_false (by omega))]
     simp only[h4,ht,if_true,if_false];rfl
    ·have c1:bd ⟨true,⟨rs,f⟩,td⟩ ⟨k,h,t,m⟩=true:=by rw[gb,hw];simp only[Bool.true_and];rw[Bool.and_eq_true];exact⟨decide_eq_true (by omega),decide_eq_true (by omega)⟩
     rw[if_pos c1]
     simp only[h4,ht,if_false,aZ]
     cases hc:td.contains ⟨k,h,t,m⟩with
     | true =>
      simp (disch:=first|assumption|omega|(simp only[zL];omega)) only[lN,Desk.e,aG,aw,sB,aa,C.toInt_int,C.toBool_bool,C.toList_list,if_true]
     | false =>
      have hd2:DkOk ⟨true,⟨rs,f⟩,td++[⟨k,h,t,m⟩]⟩:=by
       have:=hd.tell (w:=⟨k,h,t,m⟩) c1
       unfold aZ at this
       rw[if_neg (by rw[hc];simp)]at this
       exact this
      have e1:(td.map Word.e)++[[C.int .i64 k,C.int .i64 h,C.int .i64 t,C.int .i64 m]]=(td++[(⟨k,h,t,m⟩:Word)]).map Word.e:=by simp[Word.e]
      have hd3:=lN hd2 (by simp;omega) wt.1 (show t<=((ah ⟨rs,f⟩ false).length:Nat) by omega)
      simp only[aH,e1,hd3]
      simp (disch:=first|assumption|omega|(simp only[zL];omega)) only[Desk.e,Bool.false_eq_true,if_false,Int.reduceEq,reduceIte,zU,zT,aa]
theorem rowI3{m:List Int}{i:Nat}{n:Int}(h:m[i]?=some n){f:List C->Option Out}:aE (.list (m.map eI)) (.int .i64 i) [.int .i64] f=f (eI n):=fC h
theorem Fl{td:List Word}(hL:td.length<=1099511627775){l:List Trip}{ti:Nat}{x:Trip}(hx:l[ti]?=some x)(hti:ti<=1000)(hs:1<=x.s/\x.s<=3)(hml:x.m.length=3){acc:List Word}(ha:acc.length<=3000) :
  aI (fun ps=>pv (td.map Word.e) (l.map Trip.e) (ti:Int) ((aa ps 0).toInt) ((aa ps 1).toList)) [.int .i64 0,.list (acc.map Word.e)] =
   some (.jump [.int .i64 ((ti+1:Nat):Int),.list ((acc++ba td x.s ((ti+1:Nat):Int) 1 x.m).map Word.e)]):=by
 have key:=aC (l:=x.m) (F:=fun ps=>pv (td.map Word.e) (l.map Trip.e) (ti:Int) ((aa ps 0).toInt) ((aa ps 1).toList)) (enc:=fun i (s:List Word)=>[.int .i64 i,.list (s.map Word.e)])
  (res:=fun xs i s=>.jump [.int .i64 ((ti+1:Nat):Int),.list ((s++ba td x.s ((ti+1:Nat):Int) ((i+1:Nat):Int) xs).map Word.e)]) (fun i s=>s.length<=3000+i) (s:=acc) (by omega) ?_ ?_
 ·exact key
 ·intro i n xs s hn hs'
  have hi:=(List.getElem?_eq_some_iff.1 hn).1
  have hi':(i:Int)<3:=by omega
  have e1:((i+1:Nat):Int)+1=((i+1+1:Nat):Int):=by omega
  have ra:∀ g:List C->Option Out,aE (.list [[C.int .i64 0],[C.int .i64 4],[C.int .i64 6],[C.int .i64 7]]) (.int .i64 x.s) [.int .i64] g=g [.int .i64 (mt x.s)]:=by
   intro g
   have:x.s=1\/x.s=2\/x.s=3:=by omega
   rcases this with e|e|e<;>rw[e]<;>rfl
  have h4:x.s<((([[C.int .i64 0],[C.int .i64 4],[C.int .i64 6],[C.int .i64 7]]:List (List C)).length:Nat):Int):=by simp;omega
  have h5:(0:Int)<=x.s:=by omega
  have hb:=cC (p:=(0:Int)<=x.s) (q:=x.s<((([[C.int .i64 0],[C.int .i64 4],[C.int .i64 6],[C.int .i64 7]]:List (List C)).length:Nat):Int)) h5 h4
  unfold pv
  simp only[aa,C.toInt_int,C.toList_list,bH,hi',if_true,cX hx,Trip.e,hb,ra,rowI3 hn,eI,bn]
  simp (disch:=first|assumption|omega|(simp only[zL];omega)) only[au,ga,Ae,aa,C.toBool_bool]
  simp only[ba,fL]
  by_cases hn0:n=0
  ·simp only[hn0,if_true,true_or]
   exact .inl ⟨s,rfl,by omega,by rw[e1];simp⟩
  ·simp only[hn0,if_false,false_or]
   cases hc:td.contains ⟨mt x.s,((i+1:Nat):Int),((ti+1:Nat):Int),0⟩with
   | true=>exact .inl ⟨s,rfl,by omega,by rw[e1];simp⟩
   | false =>
    have hlen:∀ w:List C,decide ((s.map Word.e).length+[w].length<=aY)=true:=fun w=>by simp[cn];omega
    refine .inl ⟨s++[⟨x.s,((i+1:Nat):Int),((ti+1:Nat):Int),if x.s=1 then n else 0⟩],?_,by simp;omega,by rw[e1];simp⟩
    simp only[aH,bt (hlen _)]
    split<;>simp[Word.e]
 ·intro s _
  unfold pv
  have h:¬ ((x.m.length:Int)<3):=by omega
  simp only[aa,C.toInt_int,C.toList_list,bH,h,if_false]
  simp (disch:=first|assumption|omega|(simp only[zL];omega)) only[au,nF]
  simp[ba]
theorem lO{up:Bool}{rs:List Rec}{f:Int}{td:List Word}(hd:DkOk ⟨up,⟨rs,f⟩,[]⟩)(hL:td.length<=1099511627775) :
  kq [.bool up,.list (rs.map Rec.e),.int .i64 f,.list (td.map Word.e)]=some [.list ((aN ⟨up,⟨rs,f⟩,td⟩).map Word.e)]:=by
 rw[q_dq]
 have hlg:LgOk ⟨rs,f⟩:=hd.lg
 have hS:=hlg.S
 have tF:TrOk (ah ⟨rs,f⟩ true):=hd.trOk true
 have lF:=tF.len
 simp (disch:=first|assumption|omega|(simp only[zL];omega)) only[F_dq,vj,aN,af,Int.reduceEq,reduceIte,zU,zT,aa]
 cases up with
 | false=>rfl
 | true =>
  simp only[aG,if_true]
  have key:=aC (l:=ah ⟨rs,f⟩ true) (F:=fun ps=>ts (td.map Word.e) ((ah ⟨rs,f⟩ true).map Trip.e) ((aa ps 0).toInt) ((aa ps 1).toList)) (enc:=fun i (s:List Word)=>[.int .i64 i,.list (s.map Word.e)])
   (res:=fun xs i s=>.ret [.list ((s++cy td ((i+1:Nat):Int) xs).map Word.e)]) (fun i s=>s.length<=3*i) (s:=[]) (by simp) ?_ ?_
  ·have key:aI _ [C.int .i64 0,C.list []]=_:=key
   rw[key];simp
  ·intro i x xs s hx hs
   have hi:=(List.getElem?_eq_some_iff.1 hx).1
   have hi':(i:Int)<((ah ⟨rs,f⟩ true).length:Nat):=by omega
   have hxo:=tripOk_iff.1 (tF.ok x (List.mem_of_getElem? hx))
   have hml:=aT hxo.1
   have e1:((i+1:Nat):Int)+1=((i+1+1:Nat):Int):=by omega
   unfold ts
   simp only[aa,C.toInt_int,C.toList_list,List.length_map,bH,hi',if_true,cX hx,Trip.e,cy]
   by_cases h3:x.s>3
   ·simp only[h3,if_true]
    simp (disch:=first|assumption|omega|(simp only[zL];omega)) only[au]
    exact .inl ⟨s,rfl,by omega,by rw[e1];simp⟩
   ·simp only[h3,if_false]
    rw[Fl hL hx (by omega) (by omega) hml (by omega)]
    refine .inl ⟨s++ba td x.s ((i+1:Nat):Int) 1 x.m,rfl,?_,by rw[e1];simp⟩
    have:=eD td x.s ((i+1:Nat):Int) x.m 1
    simp only[List.length_append];omega
  ·intro s _
   unfold ts
   have h:¬ (((ah ⟨rs,f⟩ true).length:Int)<((ah ⟨rs,f⟩ true).length:Nat)):=by omega
   simp only[aa,C.toInt_int,C.toList_list,List.length_map,bH,h,if_false,nF]
   simp[cy]
theorem DkOk.bare{d:Desk}(h:DkOk d):DkOk ⟨d.up,d.lg,[]⟩:=⟨h.lg,h.tr,by simp,by simp,.inr rfl⟩
theorem nJ{up:Bool}{rs:List Rec}{f:Int}{td:List Word}(hd:DkOk ⟨up,⟨rs,f⟩,td⟩)(hL:td.length<=1099511627775) :
  kq [.bool up,.list (rs.map Rec.e),.int .i64 f,.list (td.map Word.e)]=some [.list ((aN ⟨up,⟨rs,f⟩,td⟩).map Word.e)]:=lO hd.bare hL
end Dx
namespace Dx
open Go
def dr(hs:List House)(i:Int):House:=(hs[(i-1).toNat]?).getD ⟨0,false,0,⟨[],0⟩⟩
theorem bo(w:Wd)(i:Int):houseAt w i=dr w.hs i:=rfl
theorem vl{l:List House}{t:Int}(h1:1<=t)(h2:t<=l.length):l[(t-1).toNat]?=some (dr l t):=by
 have:(t-1).toNat<l.length:=by omega
 unfold dr;rw[List.getElem?_eq_getElem this];rfl
theorem nK{l:List House}{t:Int}(h1:1<=t)(h2:t<=l.length){kk:IntKind}{f:List C->Option Out}:aE (.list (l.map House.e)) (.int kk (t-1)) [.int .i64,.bool,.int .i64,.list,.int .i64] f=f (dr l t).e :=
 db (by omega) (vl h1 h2) rfl
theorem kf{l:List House}{t:Int}{x:House}(h1:1<=t)(h2:t<=l.length){kk:IntKind}{f:List C->Option Out}:aE (.list ((l.set (t-1).toNat x).map House.e)) (.int kk (t-1)) [.int .i64,.bool,.int .i64,.list,.int .i64] f=f x.e:=by
 refine db (by omega) ?_ rfl
 rw[List.getElem?_set];simp;omega
theorem mw(l:List House)(n:Nat)(id:Int)(up:Bool)(room:Int)(rs:List Rec)(f:Int):(l.map House.e).set n [.int .i64 id,.bool up,.int .i64 room,.list (rs.map Rec.e),.int .i64 f]=(l.set n ⟨id,up,room,⟨rs,f⟩⟩).map House.e:=by
 simp[List.map_set,House.e]
theorem eqD(a:Int)(k:Option Out):ai (a==a) k=k:=by simp
theorem CA{l:List House}{t:Int}(h1:1<=t)(h2:t<=l.length):l.set (t-1).toNat (dr l t)=l:=by
 have hi:(t-1).toNat<l.length:=by omega
 have:dr l t=l[(t-1).toNat]:=by unfold dr;rw[List.getElem?_eq_getElem hi];rfl
 rw[this];exact List.set_getElem_self hi
section
variable {up:Bool} {rs:List Rec} {f:Int} {td:List Word} {hs:List House} {ns:List Word}
theorem oX(hL:ns.length<=1000){k h t m:Int} :
  mY [.bool up,.list (rs.map Rec.e),.int .i64 f,.list (td.map Word.e),.list (hs.map House.e),.list (ns.map Word.e),.int .i64 k,.int .i64 h,.int .i64 t,.int .i64 m]=some (fM ⟨⟨up,⟨rs,f⟩,td⟩,hs,ns⟩ ⟨k,h,t,m⟩).e:=by
 rw[q_fu]
 simp (disch:=first|assumption|omega|(simp only[zL];omega)) only[F_fu,fM,Int.reduceEq,reduceIte,zU,zT,aa]
 by_cases hn:ns.length<14
 ·have h':((ns.length:Nat):Int)<14:=by omega
  have hc:ns.length+1<=1099511627776:=by omega
  simp[hn,h',Wd.e,Word.e,cn,hc]
 ·have h':¬ (((ns.length:Nat):Int)<14):=by omega
  simp[hn,h',Wd.e]
theorem rt(hL:ns.length<=1000){i:Int}(h0:0<=i)(h1:i<ns.length) :
  tu [.bool up,.list (rs.map Rec.e),.int .i64 f,.list (td.map Word.e),.list (hs.map House.e),.list (ns.map Word.e),.int .i64 i]=some (dV ⟨⟨up,⟨rs,f⟩,td⟩,hs,ns⟩ i).e:=by
 rw[q_fd]
 obtain⟨n,rfl⟩:=Int.eq_ofNat_of_zero_le h0
 have e1:(ns.map Word.e).take n=(ns.take n).map Word.e:=by simp
 have e2:(ns.map Word.e).drop (n+1)=(ns.drop (n+1)).map Word.e:=by simp
 have c1:(0:Int)<=((n+1:Nat):Int):=by omega
 have c2:((n+1:Nat):Int)<=(ns.length:Nat):=by omega
 have c3:(n:Int)<=(ns.length:Nat):=by omega
 have c4:(ns.take n).length<=1000:=by simp;omega
 have c5:(ns.drop (n+1)).length<=1000:=by simp;omega
 simp (disch:=first|assumption|omega|(simp only[zL];omega)) only[F_fd,au,Int.toNat_natCast,e1,e2,dB,Int.reduceEq,reduceIte,zU,zT,aa]
 simp[Wd.e,dV,List.eraseIdx_eq_take_drop_succ]
theorem Bp(ho:WOk ⟨⟨up,⟨rs,f⟩,td⟩,hs,ns⟩)(hL:td.length<=1099511627774){k h t m:Int}(hx:WdOk ⟨k,h,t,m⟩) :
  wG [.bool up,.list (rs.map Rec.e),.int .i64 f,.list (td.map Word.e),.list (hs.map House.e),.list (ns.map Word.e),.int .i64 k,.int .i64 h,.int .i64 t,.int .i64 m] =
   some ((aM ⟨⟨up,⟨rs,f⟩,td⟩,hs,ns⟩ ⟨k,h,t,m⟩).1.e++((oW (aM ⟨⟨up,⟨rs,f⟩,td⟩,hs,ns⟩ ⟨k,h,t,m⟩).2).e++[.bool (aM ⟨⟨up,⟨rs,f⟩,td⟩,hs,ns⟩ ⟨k,h,t,m⟩).2.isSome])):=by
 rw[q_ek]
 have hd:DkOk ⟨up,⟨rs,f⟩,td⟩:=ho.dk
 have hl:hs.length=3:=ho.len
 have hh:=hx.h
 simp only at hh
 by_cases h4:k>=4
 ·simp (disch:=first|assumption|omega|(simp only[zL];omega)) only[F_ek,rr,aM,h4,if_true,decide_true,Desk.e,Int.reduceEq,reduceIte,zU,zT,aa]
  simp[Wd.e,oW,Word.e]
 ·have hho:=(ho.houseAt (i:=h) hh).2.1
  rw[bo]at hho
  simp only at hho
  have hho':HsOk ⟨(dr hs h).id,(dr hs h).up,(dr hs h).room,⟨(dr hs h).lg.rs,(dr hs h).lg.f⟩⟩:=hho
  simp (disch:=first|assumption|omega|(simp only[zL];omega)) only[F_ek,aM,h4,if_false,az,nK,House.e,Bo,eqD,List.cons_append,Word.e,mw,bo,Int.reduceEq,reduceIte,zU,zT,aa]
  simp[Wd.e,setHouse,House.e]
theorem vm(ho:LgOk ⟨rs,f⟩){keep:Int} :
  qq [.list (rs.map Rec.e),.int .i64 f,.int .i64 keep]=some (iP ⟨rs,f⟩ keep).e:=by
 rw[q_fn]
 have h1:=ho.lo
 have h2:=ho.hi
 have h3:=ho.len
 have hk:=ho.keep keep
 simp only at h1 h2 h3 hk
 unfold iO at hk
 have e1:∀ n:Nat,(rs.map Rec.e).take n=(rs.take n).map Rec.e:=fun n=>by simp
 simp only[F_fn,iP,iO,bH,List.length_map]
 by_cases h:keep>0
 ·simp only[h,if_true]at hk ⊢
  have em:(if((rs.length:Nat):Int)-f<keep then((rs.length:Nat):Int)-f else keep)=min keep (rs.length-f):=by rw[Int.min_def];split<;>split<;>omega
  rw[az (x:=((rs.length:Nat):Int)-f) (by omega) (by omega),em,az (by omega) (by omega)]
  rw[cC (by omega) (by omega),e1]
  simp[Log.e]
 ·simp only[h,if_false]at hk ⊢
  rw[cC (by omega) (by omega),e1]
  simp[Log.e]
theorem Bq(ho:LgOk ⟨rs,f⟩){keep:Int} :
  wI [.bool up,.list (rs.map Rec.e),.int .i64 f,.list (td.map Word.e),.int .i64 keep]=some (dfall ⟨up,⟨rs,f⟩,td⟩ keep).e:=by
 rw[q_ey]
 simp (disch:=first|assumption|omega|(simp only[zL];omega)) only[F_ey,vm,Log.e,Int.reduceEq,reduceIte,zU,zT,aa]
 simp[dfall,Desk.e]
theorem xW(hl:hs.length=3)(hh:∀ h∈hs,h.lg.rs.length<=2000000){i:Int}(hi:0<=i/\i<=3) :
  wH [.bool up,.list (rs.map Rec.e),.int .i64 f,.list (td.map Word.e),.list (hs.map House.e),.list (ns.map Word.e),.int .i64 i]=some (dy ⟨⟨up,⟨rs,f⟩,td⟩,hs,ns⟩ i).e:=by
 rw[q_dw]
 by_cases h0:i=0
 ·subst h0
  have e0:in_ 0 1 3=false:=rfl
  cases up<;>simp (disch:=first|assumption|omega|(simp only[zL];omega)) only[F_dw,yZ,bG,dy,bv,e0,if_true,Int.reduceEq,reduceIte,zU,zT,aa]<;>simp[Wd.e,eM]
 ·have e1:in_ i 1 3=true:=in_iff.2 (by omega)
  simp (disch:=first|assumption|omega|(simp only[zL];omega)) only[F_dw,yZ,bG,dy,h0,if_false,e1,if_true,az,nK,House.e,eqD,mw,kf,bo,Int.reduceEq,reduceIte,zU,zT,aa]
  unfold bQ
  cases hu:(dr hs i).up with
  | true =>
   simp (disch:=first|assumption|omega|(simp only[zL];omega)) only[mw,kf,House.e,eqD,Int.reduceEq,reduceIte,zU,zT,aa]
   simp[Wd.e,setHouse,hu,eM]
  | false =>
   have:setHouse ⟨⟨up,⟨rs,f⟩,td⟩,hs,ns⟩ i (dr hs i)=⟨⟨up,⟨rs,f⟩,td⟩,hs,ns⟩:=by
    unfold setHouse;simp only;rw[CA (by omega) (by omega)]
   simp only[Bool.false_eq_true,if_false,this,aH,aw]
   rfl
theorem Br(ho:WOk ⟨⟨up,⟨rs,f⟩,td⟩,hs,ns⟩){k a b:Int}{m:List (List C)} :
  qr [.bool up,.list (rs.map Rec.e),.int .i64 f,.list (td.map Word.e),.list (hs.map House.e),.list (ns.map Word.e),.int .i64 k,.int .i64 a,.int .i64 b,.list m]=some (cP ⟨⟨up,⟨rs,f⟩,td⟩,hs,ns⟩ ⟨k,a,b,[]⟩).e:=by
 rw[q_eq]
 have hd:DkOk ⟨up,⟨rs,f⟩,td⟩:=ho.dk
 have hlg:LgOk ⟨rs,f⟩:=hd.lg
 have hl:hs.length=3:=ho.len
 have hh:∀ h∈hs,h.lg.rs.length<=2000000:=fun h hm=>by
  obtain⟨i,hi⟩:=List.mem_iff_getElem?.1 hm
  have:=(ho.hs i h hi).1.lg.len;omega
 unfold cP
 simp only
 cases ha:in_ a 0 3 with
 | false=>simp (disch:=first|assumption|omega|(simp only[zL];omega)) only[z9,bG,ha,Bool.not_false,Int.reduceEq,reduceIte,zU,zT,aa];rfl
 | true =>
  have ha':=in_iff.1 ha
  simp only[if_true]
  by_cases h7:k=7
  ·subst h7
   simp (disch:=first|assumption|omega|(simp only[zL];omega)) only[z9,bG,ha,Bool.not_true,if_true,xW,Wd.e,Int.reduceEq,reduceIte,zU,zT,aa]
  ·by_cases h8:k=8
   ·subst h8
    by_cases a0:a=0
    ·subst a0
     simp (disch:=first|assumption|omega|(simp only[zL];omega)) only[z9,bG,ha,Bool.not_true,if_true,if_false,Bq,Desk.e,Int.reduceEq,reduceIte,zU,zT,aa]
     simp[Wd.e]
    ·have hho:=(ho.houseAt (i:=a) (by omega)).2.1
     rw[bo]at hho
     have hlo:LgOk ⟨(dr hs a).lg.rs,(dr hs a).lg.f⟩:=hho.lg
     simp (disch:=first|assumption|omega|(simp only[zL];omega)) only[z9,bG,ha,Bool.not_true,if_true,if_false,a0,az,nK,House.e,eqD,mw,kf,vm,Log.e,bo,List.length_set,Int.reduceEq,reduceIte,zU,zT,aa]
     simp[Wd.e,setHouse,hfall,House.e]
   ·by_cases h9:k=9
    ·subst h9
     by_cases a0:a=0
     ·subst a0
      simp (disch:=first|assumption|omega|(simp only[zL];omega)) only[z9,bG,ha,Bool.not_true,if_true,if_false,Int.reduceEq,reduceIte,zU,zT,aa]
      simp[Wd.e,mv]
     ·simp (disch:=first|assumption|omega|(simp only[zL];omega)) only[z9,bG,ha,Bool.not_true,if_true,if_false,a0,az,nK,House.e,eqD,mw,bo,Int.reduceEq,reduceIte,zU,zT,aa]
      simp[Wd.e,setHouse,nc]
    ·simp (disch:=first|assumption|omega|(simp only[zL];omega)) only[z9,bG,ha,Bool.not_true,if_false,h7,h8,h9,Int.reduceEq,reduceIte,zU,zT,aa]
     rfl
theorem CB(ho:WOk ⟨⟨up,⟨rs,f⟩,td⟩,hs,ns⟩)(hL:td.length<=1099511627774){k a b:Int}{m:List (List C)} :
  qp [.bool up,.list (rs.map Rec.e),.int .i64 f,.list (td.map Word.e),.list (hs.map House.e),.list (ns.map Word.e),.int .i64 k,.int .i64 a,.int .i64 b,.list m]=some (jS ⟨⟨up,⟨rs,f⟩,td⟩,hs,ns⟩ ⟨k,a,b,[]⟩).e:=by
 rw[q_fw]
 have hnl:ns.length<=14:=ho.nlen
 unfold jS
 simp only
 by_cases h0:0<=a
 ·by_cases h1:a<ns.length
  ·have e1:in_ a 0 ((ns.length:Nat)-1)=true:=in_iff.2 (by omega)
   obtain⟨n,rfl⟩:=Int.eq_ofNat_of_zero_le h0
   have hn:n<ns.length:=by omega
   have hx:ns[n]?=some ns[n]:=by simp[hn]
   have hxw:=ho.ns ns[n] (List.mem_of_getElem? hx)
   have hxw':WdOk ⟨ns[n].k,ns[n].h,ns[n].t,ns[n].m⟩:=hxw
   simp only[Int.toNat_natCast,h0,if_true,hx]
   by_cases h5:k=5
   ·subst h5
    simp (disch:=first|assumption|omega|(simp only[zL];omega)) only[C8,bG,az,e1,Bool.not_true,gJ hx,Word.e,if_true,rt,Wd.e,Int.reduceEq,reduceIte,zU,zT,aa]
   ·by_cases h6:k=6
    ·subst h6
     simp (disch:=first|assumption|omega|(simp only[zL];omega)) only[C8,bG,az,e1,Bool.not_true,gJ hx,Word.e,if_true,if_false,h5,oX,Wd.e,Int.reduceEq,reduceIte,zU,zT,aa]
    ·have ho2:=ho.take (n:Int)
     generalize hw2:dV ⟨⟨up,⟨rs,f⟩,td⟩,hs,ns⟩ (n:Int)=w2 at ho2
     have htk:=rt (up:=up) (rs:=rs) (f:=f) (td:=td) (hs:=hs) (ns:=ns) (by omega) h0 h1
     rw[hw2]at htk
     have ho2':WOk ⟨⟨w2.dk.up,⟨w2.dk.lg.rs,w2.dk.lg.f⟩,w2.dk.td⟩,w2.hs,w2.ns⟩:=ho2
     have hL2:w2.dk.td.length<=1099511627774:=by rw[<-hw2];exact hL
     have hhe:=ho2.hear hxw
     have hm:=Bp ho2' hL2 hxw'
     simp only[eE,eG,Dg,nG]at hm
     generalize (aM w2 ns[n])=p at hhe hm
     obtain⟨w3,o⟩:=p
     have hn3:w3.ns.length<=1000:=by have:=hhe.1.nlen;simp only at this;omega
     simp only[Wd.e,Word.e,List.cons_append,List.nil_append]at hm htk
     simp (disch:=first|assumption|omega|(simp only[zL];omega)) only[C8,bG,az,e1,Bool.not_true,gJ hx,Word.e,h5,h6,if_false,htk,hm,Int.reduceEq,reduceIte,zU,zT,aa]
     cases o with
     | none=>simp[qS,Wd.e]
     | some y =>
      simp (disch:=first|assumption|omega|(simp only[zL];omega)) only[Option.isSome_some,oW,Option.getD_some,oX,Wd.e,qS,Int.reduceEq,reduceIte,zU,zT,aa]
  ·have e1:in_ a 0 ((ns.length:Nat)-1)=false:=in_false.2 (by omega)
   have hx:ns[a.toNat]?=none:=List.getElem?_eq_none (by omega)
   simp (disch:=first|assumption|omega|(simp only[zL];omega)) only[C8,bG,az,e1,Bool.not_false,h0,if_true,hx,Int.reduceEq,reduceIte,zU,zT,aa]
   rfl
 ·have e1:in_ a 0 ((ns.length:Nat)-1)=false:=in_false.2 (by omega)
  simp (disch:=first|assumption|omega|(simp only[zL];omega)) only[C8,bG,az,e1,Bool.not_false,h0,if_false,Int.reduceEq,reduceIte,zU,zT,aa]
  rfl
theorem Bs(ho:WOk ⟨⟨up,⟨rs,f⟩,td⟩,hs,ns⟩)(hL:td.length<=1099511627774){k a b:Int}{m:List Int}(hm:m.length<=2000000) :
  wB [.bool up,.list (rs.map Rec.e),.int .i64 f,.list (td.map Word.e),.list (hs.map House.e),.list (ns.map Word.e),.int .i64 k,.int .i64 a,.int .i64 b,.list (m.map eI)]=some (iQ ⟨⟨up,⟨rs,f⟩,td⟩,hs,ns⟩ ⟨k,a,b,m⟩).e:=by
 rw[q_eo]
 have hd:DkOk ⟨up,⟨rs,f⟩,td⟩:=ho.dk
 have hlg:LgOk ⟨rs,f⟩:=hd.lg
 have hS:=hlg.S
 have tA:TrOk (ah ⟨rs,f⟩ false):=hd.trOk false
 have lA:=tA.len
 have hnl:ns.length<=14:=ho.nlen
 unfold iQ
 simp only
 by_cases h1:k=1
 ·subst h1
  simp (disch:=first|assumption|omega|(simp only[zL];omega)) only[BY,iF,kU,az,dB,if_true,dx,aV,af,Int.reduceEq,reduceIte,zU,zT,aa]
  rcases Bool.eq_false_or_eq_true (aA ⟨4,((ah ⟨rs,f⟩ false).length:Int)+1,m⟩)with hr|hr
  ·simp (disch:=first|assumption|omega|(simp only[zL];omega)) only[hr,dC,Desk.e,List.cons_append,if_true,Int.reduceEq,reduceIte,zU,zT,aa]
   simp[Wd.e]
  ·simp[hr,Wd.e]
 ·by_cases h2:k=2
  ·subst h2
   simp (disch:=first|assumption|omega|(simp only[zL];omega)) only[BY,bG,if_true,if_false,mu,Int.reduceEq,reduceIte,zU,zT,aa]
   cases hi:in_ a 1 6 with
   | false=>simp[Wd.e]
   | true =>
    have hw:=dC hd (k:=6) (t:=a) (m:=[]) (by simp[aA,in_iff,in_iff.1 hi])
    simp only[List.map_nil,Desk.e,List.cons_append,List.nil_append]at hw
    simp (disch:=first|assumption|omega|(simp only[zL];omega)) only[hw,Int.reduceEq,reduceIte,zU,zT,aa]
    simp[Wd.e]
  ·by_cases h3:k=3
   ·subst h3
    have hwl:(aN ⟨up,⟨rs,f⟩,td⟩).length<=1000:=by have:=gH hd;omega
    generalize hwd:aN ⟨up,⟨rs,f⟩,td⟩=l at hwl
    have hmw:=nJ hd (by omega)
    rw[hwd]at hmw
    by_cases h0:0<=a
    ·by_cases hlt:a<l.length
     ·have e1:in_ a 0 ((l.length:Nat)-1)=true:=in_iff.2 (by omega)
      obtain⟨n,rfl⟩:=Int.eq_ofNat_of_zero_le h0
      have hn:n<l.length:=by omega
      have hx:l[n]?=some l[n]:=by simp[hn]
      simp (disch:=first|assumption|omega|(simp only[zL];omega)) only[BY,hmw,bG,az,e1,Int.toNat_natCast,h0,if_true,if_false,hx,gJ hx,Word.e,oX,Wd.e,Int.reduceEq,reduceIte,zU,zT,aa]
     ·have e1:in_ a 0 ((l.length:Nat)-1)=false:=in_false.2 (by omega)
      have hx:l[a.toNat]?=none:=List.getElem?_eq_none (by omega)
      simp (disch:=first|assumption|omega|(simp only[zL];omega)) only[BY,hmw,bG,az,e1,h0,if_true,if_false,hx,Int.reduceEq,reduceIte,zU,zT,aa]
      rfl
    ·have e1:in_ a 0 ((l.length:Nat)-1)=false:=in_false.2 (by omega)
     simp (disch:=first|assumption|omega|(simp only[zL];omega)) only[BY,hmw,bG,az,e1,h0,if_true,if_false,Int.reduceEq,reduceIte,zU,zT,aa]
     rfl
   ·simp (disch:=first|assumption|omega|(simp only[zL];omega)) only[BY,h1,h2,h3,if_false,Int.reduceEq,reduceIte,zU,zT,aa]
    rfl
theorem Fm(ho:WOk ⟨⟨up,⟨rs,f⟩,td⟩,hs,ns⟩)(hL:td.length<=1099511627774){k a b:Int}{m:List Int}(hm:m.length<=2000000) :
  mi [.bool up,.list (rs.map Rec.e),.int .i64 f,.list (td.map Word.e),.list (hs.map House.e),.list (ns.map Word.e),.int .i64 k,.int .i64 a,.int .i64 b,.list (m.map eI)]=some (wdo ⟨⟨up,⟨rs,f⟩,td⟩,hs,ns⟩ ⟨k,a,b,m⟩).e:=by
 rw[q_gl]
 have hA:=fun k=>Bs ho hL (k:=k) (a:=a) (b:=b) hm
 have hB:=fun k=>CB ho hL (k:=k) (a:=a) (b:=b) (m:=m.map eI)
 have hC:=fun k=>Br ho (k:=k) (a:=a) (b:=b) (m:=m.map eI)
 have eB:∀ k,jS ⟨⟨up,⟨rs,f⟩,td⟩,hs,ns⟩ ⟨k,a,b,[]⟩=jS ⟨⟨up,⟨rs,f⟩,td⟩,hs,ns⟩ ⟨k,a,b,m⟩:=fun _=>rfl
 have eC:∀ k,cP ⟨⟨up,⟨rs,f⟩,td⟩,hs,ns⟩ ⟨k,a,b,[]⟩=cP ⟨⟨up,⟨rs,f⟩,td⟩,hs,ns⟩ ⟨k,a,b,m⟩:=fun _=>rfl
 simp only[eB,eC,Wd.e]at hA hB hC
 unfold wdo
 simp only[F_gl,bn]
 by_cases c1:k=1\/k=2\/k=3
 ·simp only[c1,if_true]
  rcases c1 with e|e|e<;>subst e<;>simp (disch:=first|assumption|omega|(simp only[zL];omega)) only[y0,hA,Wd.e,if_true,if_false,BEq.rfl,Int.reduceEq,reduceIte,zU,zT,aa]
 ·simp only[c1,if_false]
  have n1:¬ k=1:=by omega
  have n2:¬ k=2:=by omega
  have n3:(k==3)=false:=by simpa using(by omega:¬ k=3)
  simp only[n1,n2,n3,if_false,bc,aa,C.toBool_bool,y0,aH,bn]
  by_cases c2:k=4\/k=5\/k=6
  ·simp only[c2,if_true]
   rcases c2 with e|e|e<;>subst e<;>simp (disch:=first|assumption|omega|(simp only[zL];omega)) only[hB,Wd.e,if_true,if_false,Int.reduceEq,reduceIte,zU,zT,aa]
  ·simp only[c2,if_false]
   have n4:¬ k=4:=by omega
   have n5:¬ k=5:=by omega
   have n6:¬ k=6:=by omega
   simp only[n4,n5,n6,if_false]
   by_cases c3:k=7\/k=8\/k=9
   ·simp only[c3,if_true]
    rcases c3 with e|e|e<;>subst e<;>simp (disch:=first|assumption|omega|(simp only[zL];omega)) only[hC,Wd.e,if_true,if_false,Int.reduceEq,reduceIte,zU,zT,aa]
   ·simp only[c3,if_false]
    have n7:¬ k=7:=by omega
    have n8:¬ k=8:=by omega
    have n9:¬ k=9:=by omega
    simp only[n7,n8,n9,if_false]
    rfl
end
end Dx
namespace Dx
open Go
theorem sE{F:List C->Option Out}{I:Nat->List C->Prop}{Q:Out->Prop}
  (h:∀ n ps,I n ps->(∃ ps' n',n'<n/\F ps=some (.jump ps')/\I n' ps')\/(∃ o,F ps=some (.up o)/\Q o)):∀(n:Nat) (ps:List C),I n ps->∃ o,aI F ps=some o/\Q o:=by
 intro n
 induction n using Nat.strongRecOn with
 | _ n ih =>
  intro ps hI
  rcases h n ps hI with ⟨ps',n',hlt,h1,h2⟩|⟨o,h1,h2⟩
  ·obtain⟨o,h3,h4⟩:=ih n' hlt ps' h2
   exact⟨o,by rw[kQ,h1];exact h3,h4⟩
  ·exact⟨o,by rw[kQ,h1];rfl,h2⟩
@[simp] theorem oY (o:Out) (k:List C->Option Out):bi (some (.up o)) k=some o:=rfl
def Rd(bs:List Int):Prop:=bs.length<=2000/\∀ b∈bs,0<=b/\b<=255
theorem Ii{l:List Int}{i:Int}{x:Int}(h0:0<=i)(h:l[i.toNat]?=some x){kk:IntKind}{f:List C->Option Out}:aE (.list (l.map eB)) (.int kk i) [.int .u8] f=f (eB x):=db h0 h rfl
theorem Ji{a b:Int}(ha:0<=a/\a<1099511627776)(hb:0<=b/\b<1099511627776):(BitVec.ofInt 64 a ^^^ BitVec.ofInt 64 b).toNat<1099511627776:=by
 obtain⟨n,rfl⟩:=Int.eq_ofNat_of_zero_le ha.1
 obtain⟨m,rfl⟩:=Int.eq_ofNat_of_zero_le hb.1
 rw[BitVec.toNat_xor,BitVec.toNat_ofInt,BitVec.toNat_ofInt]
 have e1:((n:Int) % (2 ^ 64:Nat)).toNat=n:=by omega
 have e2:((m:Int) % (2 ^ 64:Nat)).toNat=m:=by omega
 rw[e1,e2]
 exact Nat.xor_lt_two_pow (n:=40) (by omega) (by omega)
theorem oZ{x n:Int}(hx:0<=x)(hn:1<=n):0<=Int.tmod x n/\Int.tmod x n<n:=⟨Int.tmod_nonneg _ hx,Int.tmod_lt_of_pos _ (by omega)⟩
theorem Dj{bs:List Int}(hb:Rd bs){p n:Int}(h0:0<=p)(h1:p<=1000000000)(hn:n<=1000000000) :
  ∃ x,aL [.list (bs.map eB),.int .i64 p,.int .i64 n]=some [.int .i64 x,.list (bs.map eB),.int .i64 (p+1)]/\0<=x/\(1<=n->x<n)/\x<=1000000000:=by
 rw[q_cm]
 have w1:IntKind.wrap .i64 (p+1)=p+1:=az (by omega) (by omega)
 have w2:IntKind.wrap .i64 (p+1-1)=p:=by rw[az (by omega) (by omega)];omega
 simp only[F_cm,w1,w2,bH,bn,List.length_map]
 by_cases c1:n<1
 ·exact⟨0,by simp[c1],by omega,by omega,by omega⟩
 simp only[c1,if_false]
 by_cases c2:((bs.length:Nat):Int)=0
 ·exact⟨0,by simp[c2],by omega,by omega,by omega⟩
 simp only[c2,if_false]
 have hl:=hb.1
 have hn0:(n != 0)=true:=by simp;omega
 have hl0:(((bs.length:Nat):Int) != 0)=true:=by rw[bne_iff_ne];omega
 by_cases c3:p<((bs.length:Nat):Int)
 ·have hx:bs[p.toNat]?=some (bs[p.toNat]'(by omega)):=List.getElem?_eq_getElem (by omega)
  have hx2:=hb.2 _ (List.mem_of_getElem? hx)
  have w3:IntKind.wrap .i64 (bs[p.toNat]'(by omega))=bs[p.toNat]'(by omega):=az (by omega) (by omega)
  have:=oZ hx2.1 (show 1<=n by omega)
  refine⟨_,?_,this.1,fun _=>this.2,by omega⟩
  simp only[c3,if_true,Ii h0 hx,eB,aa,C.toInt_int,w3,hn0,fv,aw]
 simp only[c3,if_false]
 have hmod:∀ a:Int,0<=a->0<=Int.tmod a (bs.length:Nat)/\(Int.tmod a (bs.length:Nat)).toNat<bs.length:=fun a ha=>by
  have:=oZ ha (show (1:Int)<=(bs.length:Nat) by omega)
  exact⟨this.1,by omega⟩
 have hrow:∀(a:Int) (f:List C->Option Out),0<=a->∃ x,0<=x/\x<=255/\aE (.list (bs.map eB)) (.int .i64 (Int.tmod a (bs.length:Nat))) [.int .u8] f=f (eB x):=fun a f ha=>by
  obtain⟨m1,m2⟩:=hmod a ha
  have hx:bs[(Int.tmod a (bs.length:Nat)).toNat]?=some bs[(Int.tmod a (bs.length:Nat)).toNat]:=by simp[m2]
  have hx2:=hb.2 _ (List.mem_of_getElem? hx)
  exact⟨_,hx2.1,hx2.2,Ii m1 hx⟩
 simp only[hl0,fv]
 have w7:IntKind.wrap .i64 (IntKind.wrap .i64 (p*7)+3)=p*7+3:=by rw[az (x:=p*7) (by omega) (by omega),az (by omega) (by omega)]
 rw[w7]
 obtain⟨x,hx1,hx2,e⟩:=hrow p _ h0
 rw[e]
 simp only[eB,aa,C.toInt_int]
 obtain⟨y,hy1,hy2,e⟩:=hrow (p*7+3) _ (by omega)
 rw[e]
 simp only[eB,aa,C.toInt_int]
 have hd:0<=Int.tdiv p (bs.length:Nat)/\Int.tdiv p (bs.length:Nat)<=p:=by
  obtain⟨k,rfl⟩:=Int.eq_ofNat_of_zero_le h0
  rw[<-Int.ofNat_tdiv]
  have:=Nat.div_le_self k bs.length
  generalize k / bs.length=d at this ⊢
  omega
 have s1:IntKind.wrap .i64 x=x:=az (by omega) (by omega)
 have s2:IntKind.wrap .i64 y=y:=az (by omega) (by omega)
 have s3:IntKind.wrap .i64 (x*131)=x*131:=az (by omega) (by omega)
 have s4:IntKind.wrap .i64 (y*1117)=y*1117:=az (by omega) (by omega)
 have s5:IntKind.wrap .i64 (p*29)=p*29:=az (by omega) (by omega)
 have s6:IntKind.wrap .i64 (x*131+y*1117)=x*131+y*1117:=az (by omega) (by omega)
 have s7:IntKind.wrap .i64 (x*131+y*1117+p*29)=x*131+y*1117+p*29:=az (by omega) (by omega)
 have s8:IntKind.wrap .i64 (Int.tdiv p (bs.length:Nat))=Int.tdiv p (bs.length:Nat):=az (by omega) (by omega)
 have s9:IntKind.wrap .i64 (Int.tdiv p (bs.length:Nat)*53)=Int.tdiv p (bs.length:Nat)*53:=az (by omega) (by omega)
 have s10:IntKind.wrap .i64 (x*131+y*1117+p*29+Int.tdiv p (bs.length:Nat)*53)=x*131+y*1117+p*29+Int.tdiv p (bs.length:Nat)*53:=az (by omega) (by omega)
 simp only[s1,s2,s3,s4,s5,s6,s7,s8,s9,s10]
 generalize hz:x*131+y*1117+p*29+Int.tdiv p (bs.length:Nat)*53=z
 have hz':0<=z/\z<1099511627776:=by omega
 have hq:0<=Int.tdiv z 64/\Int.tdiv z 64<1099511627776:=by
  obtain⟨k,rfl⟩:=Int.eq_ofNat_of_zero_le hz'.1
  have:Int.tdiv (k:Int) 64=((k / 64:Nat):Int):=rfl
  rw[this];omega
 have s11:IntKind.wrap .i64 (Int.tdiv z 64)=Int.tdiv z 64:=az (by omega) (by omega)
 rw[s11]
 have hx:=Ji hz' hq
 have s12:IntKind.wrap .i64 ((BitVec.ofInt 64 z ^^^ BitVec.ofInt 64 (Int.tdiv z 64)).toNat:Int)=((BitVec.ofInt 64 z ^^^ BitVec.ofInt 64 (Int.tdiv z 64)).toNat:Int):=az (by omega) (by omega)
 rw[s12]
 have:=oZ (x:=((BitVec.ofInt 64 z ^^^ BitVec.ofInt 64 (Int.tdiv z 64)).toNat:Int)) (by omega) (show 1<=n by omega)
 exact⟨_,by simp only[hn0,fv,aw],this.1,fun _=>this.2,by omega⟩
theorem fj{bs:List Int}(hb:Rd bs):∃ pk:Int->Int->Int,∀ p n,0<=p->p<=1000000000->n<=1000000000 ->
  aL [.list (bs.map eB),.int .i64 p,.int .i64 n]=some [.int .i64 (pk p n),.list (bs.map eB),.int .i64 (p+1)]/\0<=pk p n/\(1<=n->pk p n<n)/\pk p n<=1000000000:=by
 classical
 refine⟨fun p n=>if h:0<=p/\p<=1000000000/\n<=1000000000 then Classical.choose (Dj hb h.1 h.2.1 h.2.2) else 0,fun p n h0 h1 h2=>?_⟩
 dsimp only
 rw[dif_pos ⟨h0,h1,h2⟩]
 exact Classical.choose_spec (Dj hb h0 h1 h2)
theorem o5{code:List Int}(hl:code.length<=1099511627776)(hc:∀ b∈code,0<=b/\b<=255):∃ bs,Rd bs/\me [.list (code.map eB)]=some [.list (bs.map eB),.int .i64 0]:=by
 rw[q_gb]
 simp only[F_gb,bH,List.length_map]
 by_cases h:((code.length:Nat):Int)>2000
 ·refine⟨code.take 2000,⟨by simp;omega,fun b hb=>hc b (List.mem_of_mem_take hb)⟩,?_⟩
  simp only[h,if_true]
  rw[cC (by omega) (by omega)]
  simp
 ·exact⟨code,⟨by omega,hc⟩,by simp[h]⟩
theorem Bt:ww []=some deskNew.e:=by rw[q_eu];rfl
theorem xX{id room:Int}:wy [.int .i64 id,.int .i64 room] =
  some (if in_ id 1 3 && in_ room 0 9 then(⟨id,true,room,⟨[],0⟩⟩:House).e++[.bool true] else(⟨0,false,0,⟨[],0⟩⟩:House).e++[.bool false]):=by
 rw[q_db]
 simp (disch:=first|assumption|omega|(simp only[zL];omega)) only[F_db,nH,bG,Stock.e,List.cons_append,Int.reduceEq,reduceIte,zU,zT,aa]
 cases in_ id 1 3<;>cases in_ room 0 9<;>rfl
def nh:Nat->List Int->List House
 | _,[]=>[]
 | i,r::rs=>⟨((i+1:Nat):Int),true,r,⟨[],0⟩⟩::nh (i+1) rs
theorem Ij:∀(rs:List Int) (i:Nat),nh i rs=(rs.zipIdx (i+1)).map fun p=>⟨p.2,true,p.1,⟨[],0⟩⟩
 | [],i=>rfl
 | r::rs,i=>by simp[nh,Ij rs (i+1)]
def wd0:Wd:=⟨⟨false,⟨[],0⟩,[]⟩,[],[]⟩
theorem xY{rooms:List Int}(hL:rooms.length<=1099511627775):wz [.list (rooms.map eI)]=some (((bZ rooms).getD wd0).e++[.bool (bZ rooms).isSome]):=by
 rw[q_ds]
 simp (disch:=first|assumption|omega|(simp only[zL];omega)) only[F_ds,Bt,Desk.e,deskNew,Int.reduceEq,reduceIte,zU,zT,aa]
 have key:=aC (l:=rooms) (F:=fun ps=>tk (rooms.map eI) true [] 0 [] ((aa ps 0).toInt) ((aa ps 1).toList)) (enc:=fun i (s:List House)=>[.int .i64 i,.list (s.map House.e)])
  (res:=fun xs i s=>.ret (((if rooms.length=3/\xs.all (fun n=>in_ n 0 9)=true then some (⟨deskNew,s++nh i xs,[]⟩:Wd) else none).getD wd0).e++[.bool (if rooms.length=3/\xs.all (fun n=>in_ n 0 9)=true then some (⟨deskNew,s++nh i xs,[]⟩:Wd) else none).isSome])) (fun i s=>s.length=i) (s:=[]) (by simp) ?_ ?_
 ·have key:aI _ [C.int .i64 0,C.list []]=_:=key
  simp only[List.map_nil]at key ⊢
  rw[key]
  have:(if rooms.length=3/\rooms.all (fun n=>in_ n 0 9)=true then some (⟨deskNew,[]++nh 0 rooms,[]⟩:Wd) else none)=bZ rooms:=by
   unfold bZ dJ
   rw[Ij];simp
  rw[this];rfl
 ·intro i x xs s hx hs
  have hi:=(List.getElem?_eq_some_iff.1 hx).1
  have hi':(i:Int)<(rooms.length:Nat):=by omega
  simp only[tk,aa,C.toInt_int,C.toList_list,List.length_map,bH,hi',if_true,fC hx,eI]
  simp (disch:=first|assumption|omega|(simp only[zL];omega)) only[au,xX]
  by_cases hok:(in_ ((i+1:Nat):Int) 1 3 && in_ x 0 9)=true
  ·have hr:=in_iff.1 (Bool.and_eq_true_iff.1 hok).1
   rw[if_pos hok]
   simp only[House.e,List.cons_append,List.nil_append,rn,aa,C.toInt_int,C.toList_list,C.toBool_bool,List.map_nil,Bool.not_true,aH]
   rw[bt (by simp[cn];omega)]
   refine .inl ⟨s++[⟨((i+1:Nat):Int),true,x,⟨[],0⟩⟩],by simp[House.e],by simp[hs],?_⟩
   have:=(Bool.and_eq_true_iff.1 hok).2
   simp[nh,this]
  ·rw[if_neg hok]
   refine .inr ⟨_,rfl,?_⟩
   have:¬ (rooms.length=3/\(x::xs).all (fun n=>in_ n 0 9)=true):=by
    intro ⟨h3,ha⟩
    simp only[List.all_cons,Bool.and_eq_true]at ha
    exact hok (Bool.and_eq_true_iff.2 ⟨in_iff.2 (by omega),ha.1⟩)
   simp only[this,if_false];rfl
 ·intro s hs
  have h:¬ ((rooms.length:Int)<(rooms.length:Nat)):=by omega
  simp only[tk,aa,C.toInt_int,C.toList_list,List.length_map,bH,h,if_false,Af]
  by_cases h3:rooms.length=3
  ·have h3':((rooms.length:Nat):Int)=3:=by omega
   simp[h3,upD,nh,Wd.e,deskNew]
  ·have h3':¬ ((rooms.length:Nat):Int)=3:=by omega
   simp[h3,h3',upD,Wd.e,wd0]
end Dx
namespace Dx
open Go
def EvS(e:Ev):Prop:=e.m.length<=2000000
section
variable {bs:List Int}
def EvOut(bs:List Int)(p:Int)(r:Option (List C)):Prop:=∃(e:Ev) (p':Int),r=some (e.e++[.list (bs.map eB),.int .i64 p'])/\p<=p'/\p'<=p+10/\EvS e
theorem EvOut.ite{p:Int}{c:Prop}[Decidable c]{a b:Option (List C)}(ha:EvOut bs p a)(hb:EvOut bs p b):EvOut bs p (if c then a else b):=by split<;>assumption
theorem jy{p p' k a b:Int}(h1:p<=p')(h2:p'<=p+10):EvOut bs p (some [.int .i64 k,.int .i64 a,.int .i64 b,.list [],.list (bs.map eB),.int .i64 p']):=⟨⟨k,a,b,[]⟩,p',rfl,h1,h2,by simp[EvS]⟩
theorem Jj{p p' k a b x y z:Int}(h1:p<=p')(h2:p'<=p+10):EvOut bs p (some [.int .i64 k,.int .i64 a,.int .i64 b,.list [[.int .i64 x],[.int .i64 y],[.int .i64 z]],.list (bs.map eB),.int .i64 p']):=⟨⟨k,a,b,[x,y,z]⟩,p',rfl,h1,h2,by simp[EvS]⟩
theorem ev0(hb:Rd bs){v p:Int}(h0:0<=p)(h1:p<=900000000)(b:Bool):EvOut bs p (aj (y5 v (bs.map eB) p b)):=by
 obtain⟨pk,hpk⟩:=fj hb
 have q:=fun p n h0 h1 h2=>(hpk p n h0 h1 h2).1
 unfold y5
 simp (disch:=first|assumption|omega|(simp only[zL];omega)) only[q,Int.reduceEq,reduceIte,zU,zT,aa]
 cases b with
 | true=>simp only[aG,aw];exact jy (by omega) (by omega)
 | false =>
  simp only[aH,dL,aw]
  refine EvOut.ite (jy (by omega) (by omega)) (EvOut.ite (jy (by omega) (by omega)) (EvOut.ite (jy (by omega) (by omega)) (EvOut.ite (jy (by omega) (by omega)) (EvOut.ite (jy (by omega) (by omega)) (jy (by omega) (by omega))))))
theorem ev1(hb:Rd bs){n ws v p:Int}(h0:0<=p)(h1:p<=900000000)(hn:0<=n/\n<=1000)(hw:0<=ws/\ws<=1000)(b:Bool):EvOut bs p (aj (y6 n ws v (bs.map eB) p b)):=by
 obtain⟨pk,hpk⟩:=fj hb
 have q:=fun p n h0 h1 h2=>(hpk p n h0 h1 h2).1
 have j:=fun b=>ev0 hb (v:=v) h0 h1 b
 unfold y6
 simp (disch:=first|assumption|omega|(simp only[zL];omega)) only[q,az,Int.reduceEq,reduceIte,zU,zT,aa]
 cases b with
 | true=>simp only[aG,aw];exact jy (by omega) (by omega)
 | false =>
  simp only[aH,dL,aw]
  refine EvOut.ite (jy (by omega) (by omega)) (EvOut.ite (jy (by omega) (by omega)) (EvOut.ite (j _) (EvOut.ite (j _) (j _))))
theorem ev2(hb:Rd bs){n tr ws v p:Int}(h0:0<=p)(h1:p<=900000000)(hn:0<=n/\n<=1000)(ht:0<=tr/\tr<=1000)(hw:0<=ws/\ws<=1000)(b:Bool):EvOut bs p (aj (y7 n tr ws v (bs.map eB) p b)):=by
 obtain⟨pk,hpk⟩:=fj hb
 have q:=fun p n h0 h1 h2=>(hpk p n h0 h1 h2).1
 have j:=fun b=>ev1 hb (v:=v) h0 h1 hn hw b
 unfold y7
 simp (disch:=first|assumption|omega|(simp only[zL];omega)) only[q,az,Int.reduceEq,reduceIte,zU,zT,aa]
 cases b with
 | true=>simp only[aG,aw];exact Jj (by omega) (by omega)
 | false =>
  simp only[aH,dL,aw]
  refine EvOut.ite (jy (by omega) (by omega)) (EvOut.ite (j _) (EvOut.ite (j _) (EvOut.ite (j _) (EvOut.ite (j _) (j _)))))
def EvOut'(bs:List Int)(p:Int)(r:Option (List C)):Prop:=∃(e:Ev) (p':Int),r=some (e.e++[.list (bs.map eB),.int .i64 p'])/\p<=p'/\p'<=p+20/\EvS e
theorem EvOut.up{p q:Int}{r:Option (List C)}(h:EvOut bs p r)(h1:q<=p)(h2:p<=q+10):EvOut' bs q r:=by
 obtain⟨e,p',e1,e2,e3,e4⟩:=h
 exact⟨e,p',e1,by omega,by omega,e4⟩
theorem EvOut'.ite{p:Int}{c:Prop}[Decidable c]{a b:Option (List C)}(ha:EvOut' bs p a)(hb:EvOut' bs p b):EvOut' bs p (if c then a else b):=by split<;>assumption
theorem ev3(hb:Rd bs){n tr ws p:Int}(h0:0<=p)(h1:p<=800000000)(hn:0<=n/\n<=1000)(ht:0<=tr/\tr<=1000)(hw:0<=ws/\ws<=1000):EvOut bs (p+1) (aj (y8 n tr ws (bs.map eB) p)):=by
 obtain⟨pk,hpk⟩:=fj hb
 have q:=fun p n h0 h1 h2=>(hpk p n h0 h1 h2).1
 have j:=fun v b=>ev2 hb (n:=n) (tr:=tr) (ws:=ws) (v:=v) (p:=p+1) (by omega) (by omega) hn ht hw b
 unfold y8
 simp (disch:=first|assumption|omega|(simp only[zL];omega)) only[q,Int.reduceEq,reduceIte,zU,zT,aa]
 by_cases hv:pk p 20=0
 ·simp only[hv,if_true];exact j _ _
 ·simp only[hv,if_false];exact j _ _
theorem uM{d:Desk}(h:DkOk ⟨d.up,d.lg,[]⟩):(aN d).length<=18:=by
 have tF:TrOk (ah d.lg true):=h.trOk true
 have lF:=tF.len
 unfold aN
 split
 ·have:=jv d.td (af d true) 1 fun x hx=>by
   have:=aT (tripOk_iff.1 (tF.ok x hx)).1
   omega
  have e:(af d true).length=(ah d.lg true).length:=rfl
  omega
 ·simp
theorem lP(hb:Rd bs){p:Int}(h0:0<=p)(h1:p<=700000000){w:Wd}(hd:DkOk ⟨w.dk.up,⟨w.dk.lg.rs,w.dk.lg.f⟩,[]⟩)(htl:w.dk.td.length<=1000)(hnl:w.ns.length<=1000) :
  EvOut' bs p (mZ [.list (bs.map eB),.int .i64 p,.bool w.dk.up,.list (w.dk.lg.rs.map Rec.e),.int .i64 w.dk.lg.f,.list (w.dk.td.map Word.e),.list (w.hs.map House.e),.list (w.ns.map Word.e)]):=by
 rw[q_dh]
 obtain⟨pk,hpk⟩:=fj hb
 have q:=fun p n h0 h1 h2=>(hpk p n h0 h1 h2).1
 have hS:=hd.lg.S
 have hS':LgS ⟨w.dk.lg.rs,w.dk.lg.f⟩:=hS
 have lA:=(hd.trOk false).len
 have hwl:(aN w.dk).length<=18:=uM (d:=w.dk) hd
 simp only[af]at lA
 have lA':(ah w.dk.lg false).length<=6:=lA
 have j:=fun p h0 h1=>ev3 hb (n:=((w.ns.length:Nat):Int)) (tr:=((ah w.dk.lg false).length:Nat)) (ws:=((aN w.dk).length:Nat)) (p:=p) h0 h1 (by omega) (by omega) (by omega)
 simp (disch:=first|assumption|omega|(simp only[zL];omega)) only[F_dh,iF,lO hd,q,oY,Int.reduceEq,reduceIte,zU,zT,aa]
 by_cases hz:((w.ns.length:Nat):Int)>0
 ·simp only[hz,if_true]
  refine EvOut'.ite ?_ ?_
  ·exact⟨⟨4,_,0,[]⟩,p+1+1,rfl,by omega,by omega,by simp[EvS]⟩
  ·exact(j (p+1) (by omega) (by omega)).up (by omega) (by omega)
 ·simp only[hz,if_false]
  exact(j p h0 (by omega)).up (by omega) (by omega)
theorem xZ(hb:Rd bs){p:Int}(h0:0<=p)(h1:p<=700000000){w:Wd}(ho:WOk w) :
  EvOut' bs p (mZ [.list (bs.map eB),.int .i64 p,.bool w.dk.up,.list (w.dk.lg.rs.map Rec.e),.int .i64 w.dk.lg.f,.list (w.dk.td.map Word.e),.list (w.hs.map House.e),.list (w.ns.map Word.e)]) :=
 lP hb h0 h1 ho.dk.bare (by have:=ho.dk.tdlen;omega) (by have:=ho.nlen;omega)
theorem ya(hb:Rd bs){p:Int}(h0:0<=p)(h1:p<=700000000) :
  ∃ a b c,wv [.list (bs.map eB),.int .i64 p]=some [.list ([a,b,c].map eI),.list (bs.map eB),.int .i64 (p+1+1+1)]/\0<=a/\a<=5/\0<=b/\b<=5/\1<=c/\c<=5:=by
 rw[q_do]
 obtain⟨pk,hpk⟩:=fj hb
 have q:=fun p n h0 h1 h2=>(hpk p n h0 h1 h2).1
 have r1:=hpk p 6 h0 (by omega) (by omega)
 have r2:=hpk (p+1) 6 (by omega) (by omega) (by omega)
 have r3:=hpk (p+1+1) 5 (by omega) (by omega) (by omega)
 have b1:=r1.2.2.1 (by omega)
 have b2:=r2.2.2.1 (by omega)
 have b3:=r3.2.2.1 (by omega)
 refine⟨pk p 6,pk (p+1) 6,1+pk (p+1+1) 5,?_,r1.2.1,by omega,r2.2.1,by omega,by omega,by omega⟩
 simp (disch:=first|assumption|omega|(simp only[zL];omega)) only[F_do,q,az,Int.reduceEq,reduceIte,zU,zT,aa]
 rfl
end
theorem pK(w:Wd)(a b:List Ev):c7 w (a++b)=c7 (c7 w a) b:=by
 induction a generalizing w with
 | nil=>rfl
 | cons e es ih=>exact ih _
structure Drawn (w0:Wd) (es:List Ev) (w:Wd) (n:Nat):Prop where
 play:w=c7 w0 es
 len:es.length<=n
 sz:∀ e∈es,EvS e
theorem Drawn.snoc{w0 w:Wd}{es:List Ev}{n:Nat}(h:Drawn w0 es w n){e:Ev}(he:EvS e):Drawn w0 (es++[e]) (wdo w e) (n+1) :=
 ⟨by rw[h.play,pK];rfl,by have:=h.len;simp;omega,fun x hx=>by
  rcases List.mem_append.1 hx with hx|hx
  ·exact h.sz x hx
  ·simp at hx;exact hx ▸ he⟩
theorem o6{w:Wd}(ho:WOk w){e:Ev}(he:EvS e) :
  mi [.bool w.dk.up,.list (w.dk.lg.rs.map Rec.e),.int .i64 w.dk.lg.f,.list (w.dk.td.map Word.e),.list (w.hs.map House.e),.list (w.ns.map Word.e),.int .i64 e.k,.int .i64 e.a,.int .i64 e.b,.list (e.m.map eI)]=some (wdo w e).e :=
 Fm (up:=w.dk.up) (rs:=w.dk.lg.rs) (f:=w.dk.lg.f) (td:=w.dk.td) (hs:=w.hs) (ns:=w.ns) ho (by have:=ho.dk.tdlen;omega) he
theorem row_E{l:List Ev}{i:Nat}{x:Ev}(h:l[i]?=some x){kk:IntKind}{f:List C->Option Out}:aE (.list (l.map Ev.e)) (.int kk i) [.int .i64,.int .i64,.int .i64,.list] f=f x.e:=ft h rfl
theorem ru{bs:List Int}(hb:Rd bs){p:Int}(h0:0<=p)(h1:p<=1000) :
  ∃ a b c w0 es w p',qt [.list (bs.map eB),.int .i64 p]=some ([.list ([a,b,c].map eI),.list (es.map Ev.e)]++(w.e++[.list (bs.map eB),.int .i64 p']))/\0<=a/\a<=5/\0<=b/\b<=5/\1<=c/\c<=5 ∧
   bZ [a,b,c]=some w0/\Drawn w0 es w 74/\0<=p'/\p'<=p+2000:=by
 rw[q_ep]
 obtain⟨pk,hpk⟩:=fj hb
 have q:=fun p n h0 h1 h2=>(hpk p n h0 h1 h2).1
 obtain⟨a,b,c,hr,ha1,ha2,hb1,hb2,hc1,hc2⟩:=ya hb h0 (by omega)
 have hw0:bZ [a,b,c]=some ⟨deskNew,dJ [a,b,c],[]⟩:=by
  unfold bZ
  rw[if_pos]
  simp[in_];omega
 generalize hw:(⟨deskNew,dJ [a,b,c],[]⟩:Wd)=w0 at hw0
 have ok0:=ir hw0
 have hwn:=xY (rooms:=[a,b,c]) (by simp)
 rw[hw0]at hwn
 simp only[Option.getD_some,Option.isSome_some,Wd.e,List.cons_append,List.nil_append]at hwn
 simp (disch:=first|assumption|omega|(simp only[zL];omega)) only[F_ep,hr,hwn,q,Int.reduceEq,reduceIte,zU,zT,aa]
 have tail:∀(w1:Wd) (es1:List Ev),Drawn w0 es1 w1 2->∃ es w p',aj (tE ([a,b,c].map eI) w1.dk.up w1.dk.lg.f (bs.map eB) (p+1+1+1+1) (es1.map Ev.e) (w1.dk.lg.rs.map Rec.e) (w1.dk.td.map Word.e) (w1.hs.map House.e) (w1.ns.map Word.e)) =
   some ([.list ([a,b,c].map eI),.list (es.map Ev.e)]++(w.e++[.list (bs.map eB),.int .i64 p']))/\Drawn w0 es w 74/\0<=p'/\p'<=p+2000:=by
  intro w1 es1 hd1
  unfold tE
  simp (disch:=first|assumption|omega|(simp only[zL];omega)) only[q,Int.reduceEq,reduceIte,zU,zT,aa]
  have hn:=hpk (p+1+1+1+1) 72 (by omega) (by omega) (by omega)
  have hn2:=hn.2.2.1 (by omega)
  have hn1:=hn.2.1
  generalize pk (p+1+1+1+1) 72=n0 at hn1 hn2
  obtain⟨n,rfl⟩:=Int.eq_ofNat_of_zero_le hn1
  have key:=sE (F:=fun ps=>y9 ([a,b,c].map eI) ((aa ps 0).toInt) ((aa ps 1).toList) ((aa ps 2).toInt) ((aa ps 3).toBool) ((aa ps 4).toInt) ((aa ps 5).toList) ((aa ps 6).toList) ((aa ps 7).toList) ((aa ps 8).toList) ((aa ps 9).toList))
   (I:=fun k ps=>∃ es w p',ps=[.int .i64 (k:Int),.list (bs.map eB),.int .i64 p',.bool w.dk.up,.int .i64 w.dk.lg.f,.list (es.map Ev.e),.list (w.dk.lg.rs.map Rec.e),.list (w.dk.td.map Word.e),.list (w.hs.map House.e),.list (w.ns.map Word.e)]/\k<=72/\Drawn w0 es w (74-k)/\0<=p'/\p'<=p+5+20*(72-k))
   (Q:=fun o=>∃ es w p',o=.ret ([.list ([a,b,c].map eI),.list (es.map Ev.e)]++(w.e++[.list (bs.map eB),.int .i64 p']))/\Drawn w0 es w 74/\0<=p'/\p'<=p+2000) ?_ n _
   ⟨es1,w1,p+1+1+1+1+1,rfl,by omega,⟨hd1.play,by have:=hd1.len;omega,hd1.sz⟩,by omega,by omega⟩
  ·obtain⟨o,h1,es,w,p',rfl,h2,h3,h4⟩:=key
   exact⟨es,w,p',by rw[h1];rfl,h2,h3,h4⟩
  ·rintro k ps ⟨es,w,p',rfl,hk,hd,hp0,hp1⟩
   have ow:WOk w:=by rw[hd.play];exact ok0.plays es
   simp only[aa,C.toInt_int,C.toBool_bool,C.toList_list]
   unfold y9
   simp only[bH]
   by_cases hk0:(k:Int)>0
   ·left
    simp only[hk0,if_true]
    obtain⟨e,p2,he,he1,he2,he3⟩:=xZ hb hp0 (by omega) ow
    rw[he]
    simp only[Ev.e,List.cons_append,List.nil_append,rp,aa,C.toInt_int,C.toList_list]
    rw[o6 ow he3]
    have hlen:=hd.len
    rw[bt (by simp[cn];omega)]
    simp only[Wd.e,dK,aa,C.toInt_int,C.toList_list,C.toBool_bool]
    refine⟨_,k-1,by omega,rfl,es++[e],wdo w e,p2,?_,by omega,?_,by omega,by omega⟩
    ·rw[az (by omega) (by omega)]
     have:(k:Int)-1=((k-1:Nat):Int):=by omega
     rw[this];simp[Ev.e]
    ·have:=hd.snoc he3
     exact⟨this.play,by have:=this.len;omega,this.sz⟩
   ·right
    simp only[hk0,if_false]
    exact⟨_,rfl,es,w,p',rfl,⟨hd.play,by have:=hd.len;omega,hd.sz⟩,hp0,by omega⟩
 have fin:∀(w1:Wd) (es1:List Ev),Drawn w0 es1 w1 2->∃ a' b' c' w0' es w p',aj (tE ([a,b,c].map eI) w1.dk.up w1.dk.lg.f (bs.map eB) (p+1+1+1+1) (es1.map Ev.e) (w1.dk.lg.rs.map Rec.e) (w1.dk.td.map Word.e) (w1.hs.map House.e) (w1.ns.map Word.e)) =
   some ([.list ([a',b',c'].map eI),.list (es.map Ev.e)]++(w.e++[.list (bs.map eB),.int .i64 p']))/\0<=a'/\a'<=5/\0<=b'/\b'<=5/\1<=c'/\c'<=5/\bZ [a',b',c']=some w0'/\Drawn w0' es w 74/\0<=p'/\p'<=p+2000:=by
  intro w1 es1 hd1
  obtain⟨es,w,p',h1,h2,h3,h4⟩:=tail w1 es1 hd1
  exact⟨a,b,c,w0,es,w,p',h1,ha1,ha2,hb1,hb2,hc1,hc2,hw0,h2,h3,h4⟩
 by_cases hz:pk (p+1+1+1) 3>0
 ·simp only[hz,if_true]
  have e1:EvS ⟨1,0,0,[1,1,1]⟩:=by simp[EvS]
  have e2:EvS ⟨7,0,0,[]⟩:=by simp[EvS]
  have key:=aC (l:=[(⟨1,0,0,[1,1,1]⟩:Ev),⟨7,0,0,[]⟩]) (F:=fun ps=>pA (bs.map eB) (p+1+1+1+1) ([(⟨1,0,0,[1,1,1]⟩:Ev),⟨7,0,0,[]⟩].map Ev.e) 2 ((aa ps 0).toInt) ((aa ps 1).toBool) ((aa ps 2).toInt) ((aa ps 3).toList) ((aa ps 4).toList) ((aa ps 5).toList) ((aa ps 6).toList) ((aa ps 7).toList))
   (enc:=fun i (s:List Ev×Wd)=>[.int .i64 i,.bool s.2.dk.up,.int .i64 s.2.dk.lg.f,.list (s.1.map Ev.e),.list (s.2.dk.lg.rs.map Rec.e),.list (s.2.dk.td.map Word.e),.list (s.2.hs.map House.e),.list (s.2.ns.map Word.e)])
   (res:=fun xs _ s=>.jump [.bool (c7 s.2 xs).dk.up,.int .i64 (c7 s.2 xs).dk.lg.f,.list (bs.map eB),.int .i64 (p+1+1+1+1),.list ((s.1++xs).map Ev.e),.list ((c7 s.2 xs).dk.lg.rs.map Rec.e),.list ((c7 s.2 xs).dk.td.map Word.e),.list ((c7 s.2 xs).hs.map House.e),.list ((c7 s.2 xs).ns.map Word.e)])
   (fun i s=>WOk s.2/\s.1.length=i) (s:=([],w0)) ⟨ok0,rfl⟩ ?_ ?_
  ·have key:aI (fun ps=>pA (bs.map eB) (p+1+1+1+1) [[C.int .i64 1,C.int .i64 0,C.int .i64 0,C.list [[C.int .i64 1],[C.int .i64 1],[C.int .i64 1]]],[C.int .i64 7,C.int .i64 0,C.int .i64 0,C.list []]] (((0+1+1:Nat):Int)) ((aa ps 0).toInt) ((aa ps 1).toBool) ((aa ps 2).toInt) ((aa ps 3).toList) ((aa ps 4).toList) ((aa ps 5).toList) ((aa ps 6).toList) ((aa ps 7).toList))
    [C.int .i64 0,C.bool w0.dk.up,C.int .i64 w0.dk.lg.f,C.list [],C.list (w0.dk.lg.rs.map Rec.e),C.list (w0.dk.td.map Word.e),C.list (w0.hs.map House.e),C.list (w0.ns.map Word.e)]=_:=key
   rw[key]
   exact fin _ _ ⟨rfl,by simp,fun e he=>by
    simp at he;rcases he with rfl|rfl<;>assumption⟩
  ·rintro i x xs ⟨es,w⟩ hx ⟨ow,hl⟩
   have hi:=(List.getElem?_eq_some_iff.1 hx).1
   have hi':(i:Int)<2:=by simp at hi;omega
   have hx3:EvS x:=by
    have:=List.mem_of_getElem? hx
    simp at this;rcases this with rfl|rfl<;>assumption
   simp only at hl
   simp only[aa,C.toInt_int,C.toBool_bool,C.toList_list]
   unfold pA
   simp only[bH,hi',if_true,row_E hx,Ev.e,aa,C.toInt_int,C.toList_list,o6 ow hx3]
   rw[bt (by simp;omega),bt (by simp[cn];omega)]
   simp only[Wd.e,dK,aa,C.toInt_int,C.toList_list,C.toBool_bool]
   rw[au (by omega)]
   refine .inl ⟨(es++[x],wdo w x),?_,⟨ow.do_ x,by simp[hl]⟩,?_⟩
   ·simp[Ev.e]
   ·simp[c7]
  ·rintro⟨es,w⟩ ⟨ow,hl⟩
   simp only[aa,C.toInt_int,C.toBool_bool,C.toList_list]
   unfold pA
   simp[bH,c7]
 ·simp only[hz,if_false]
  exact fin w0 [] ⟨rfl,by simp,by simp⟩
end Dx
namespace Dx
open Go
def mQ{α:Type}(p:α->Bool):Nat->List α->Int
 | _,[]=>-1
 | i,x::xs=>if p x then(i:Int) else mQ p (i+1) xs
theorem dZ{α:Type}(p:α->Bool):∀(xs:List α) (i:Nat),(mQ p i xs>=0)↔xs.any p=true
 | [],i=>by simp[mQ]
 | x::xs,i=>by
  simp only[mQ,List.any_cons,Bool.or_eq_true]
  by_cases h:p x=true
  ·rw[if_pos h];simp[h]
  ·rw[if_neg h,dZ p xs (i+1)];simp[h]
theorem gQ{α:Type}{F:List C->Option Out}{l:List α}(p:α->Bool)
  (hs:∀(i:Nat) (x:α),l[i]?=some x->F [.int .i64 i]=if p x then some (.up (.ret [.int .i64 i])) else some (.jump [.int .i64 ((i+1:Nat):Int)]))
  (hf:F [.int .i64 (l.length:Nat)]=some (.up (.ret [.int .i64 (-1)]))):aI F [.int .i64 0]=some (.ret [.int .i64 (mQ p 0 l)]):=by
 have:=aC (l:=l) (F:=F) (enc:=fun i (_:Unit)=>[.int .i64 i]) (res:=fun xs i _=>.ret [.int .i64 (mQ p i xs)]) (fun _ _=>True) (s:=()) trivial
  (fun i x xs s hx _=>by
   rw[hs i x hx]
   cases h:p x with
   | true=>exact .inr ⟨_,rfl,by simp[mQ,h]⟩
   | false=>exact .inl ⟨(),rfl,trivial,by simp[mQ,h]⟩)
  (fun s _=>hf)
 exact this
theorem nL(n lo hi:Int):bE [.int .i64 n,.int .i64 lo,.int .i64 hi]=some [.bool (in_ n lo hi)]:=by
 rw[q_gs]
 simp only[F_gs,ge_iff_le,in_]
 cases decide (lo<=n)<;>rfl
theorem o7(n:Int):gY [.int .i64 n]=some [.bool (in_ n 1 6)]:=by
 rw[q_ft];simp (disch:=first|assumption|omega|(simp only[zL];omega)) only[F_ft,nL,Int.reduceEq,reduceIte,zU,zT,aa]
theorem dd(n:Int):gC [.int .i64 n]=some [.bool (in_ n 1 3)]:=by
 rw[q_ea];simp (disch:=first|assumption|omega|(simp only[zL];omega)) only[F_ea,nL,Int.reduceEq,reduceIte,zU,zT,aa]
theorem i_w1(n:Int):wK [.int .i64 n]=some [.bool (!in_ n 0 3)]:=by
 rw[q_bm];simp (disch:=first|assumption|omega|(simp only[zL];omega)) only[F_bm,nL,Int.reduceEq,reduceIte,zU,zT,aa]
theorem i_w2(n:Int):wN [.int .i64 n]=some [.bool (n != 0)]:=by
 rw[q_bo];simp (disch:=first|assumption|omega|(simp only[zL];omega)) only[F_bo,Int.reduceEq,reduceIte,zU,zT,aa]
theorem i_ix1{m:List Int}(hL:m.length<=1099511627776):wL [.list (m.map eI)]=some [.int .i64 (mQ (fun n=>!in_ n 0 3) 0 m)]:=by
 rw[q_ao];unfold F_ao
 simp only[List.length_map]
 rw[gQ (l:=m) (fun n=>!in_ n 0 3)]
 ·rfl
 ·intro i x hx
  have hi:=(List.getElem?_eq_some_iff.1 hx).1
  have hi':(i:Int)<(m.length:Nat):=by omega
  simp (disch:=first|assumption|omega|(simp only[zL];omega)) only[zd,fC hx,eI,au,hi',if_true,i_w1,Int.reduceEq,reduceIte,zU,zT,aa]
  cases in_ x 0 3<;>rfl
 ·have h:¬ ((m.length:Int)<(m.length:Nat)):=by omega
  simp (disch:=first|assumption|omega|(simp only[zL];omega)) only[zd,h,if_false,Int.reduceEq,reduceIte,zU,zT,aa]
theorem i_ix2{m:List Int}(hL:m.length<=1099511627776):wO [.list (m.map eI)]=some [.int .i64 (mQ (fun n=>n != 0) 0 m)]:=by
 rw[q_an];unfold F_an
 simp only[List.length_map]
 rw[gQ (l:=m) (fun n=>n != 0)]
 ·rfl
 ·intro i x hx
  have hi:=(List.getElem?_eq_some_iff.1 hx).1
  have hi':(i:Int)<(m.length:Nat):=by omega
  simp (disch:=first|assumption|omega|(simp only[zL];omega)) only[ze,fC hx,eI,au,hi',if_true,i_w2,Int.reduceEq,reduceIte,zU,zT,aa]
  by_cases h:x=0<;>simp[h]
 ·have h:¬ ((m.length:Int)<(m.length:Nat)):=by omega
  simp (disch:=first|assumption|omega|(simp only[zL];omega)) only[ze,h,if_false,Int.reduceEq,reduceIte,zU,zT,aa]
theorem i_cf1{m:List Int}(hL:m.length<=1099511627776):wM [.list (m.map eI)]=some [.bool (m.any fun n=>!in_ n 0 3)]:=by
 rw[q_al];simp (disch:=first|assumption|omega|(simp only[zL];omega)) only[F_al,i_ix1,dZ,Bool.decide_eq_true,Int.reduceEq,reduceIte,zU,zT,aa]
theorem i_cf2{m:List Int}(hL:m.length<=1099511627776):wP [.list (m.map eI)]=some [.bool (m.any fun n=>n != 0)]:=by
 rw[q_ak];simp (disch:=first|assumption|omega|(simp only[zL];omega)) only[F_ak,i_ix2,dZ,Bool.decide_eq_true,Int.reduceEq,reduceIte,zU,zT,aa]
theorem nM{m:List Int}(hL:m.length<=1099511627776):qu [.list (m.map eI)]=some [.bool (bV m)]:=by
 rw[q_dj]
 simp (disch:=first|assumption|omega|(simp only[zL];omega)) only[F_dj,i_cf1,i_cf2,Int.reduceEq,reduceIte,zU,zT,aa]
 by_cases h:m.length=3
 ·have h':((m.length:Nat):Int)=3:=by omega
  simp only[h',if_true]
  match m,h with
  | [a,b,c],_ =>
   have e1:∀ x:Int,in_ x 0 3=true->0<=x:=fun x hx=>(in_iff.1 hx).1
   cases ha:in_ a 0 3<;>cases hb:in_ b 0 3<;>cases hc:in_ c 0 3<;>simp[bV,ha,hb,hc]
   have:=e1 a ha;have:=e1 b hb;have:=e1 c hc
   rw[Bool.eq_iff_iff];simp;omega
 ·have h':¬ ((m.length:Nat):Int)=3:=by omega
  simp[h,h',bV]
theorem kV{k t:Int}{m:List Int}(hL:m.length<=1099511627776):gZ [.int .i64 k,.int .i64 t,.list (m.map eI)]=some [.bool (aA ⟨k,t,m⟩)]:=by
 rw[q_gf]
 simp (disch:=first|assumption|omega|(simp only[zL];omega)) only[F_gf,nL,o7,nM,aA,Int.reduceEq,reduceIte,zU,zT,aa]
 by_cases h1:k=1
 ·subst h1
  have e1:in_ 1 1 7=true:=rfl
  simp only[if_true,e1]
  match m with
  | []=>cases in_ t 1 6<;>rfl
  | [n]=>simp (disch:=first|assumption|omega|(simp only[zL];omega)) only[List.length_cons,List.length_nil,Fk,eI,nL,Int.reduceEq,reduceIte,zU,zT,aa]
         cases in_ t 1 6<;>simp
  | a::b::l =>
   have:¬ ((((a::b::l).length:Nat):Int)=1):=by simp;omega
   simp only[this,if_false]
   cases in_ t 1 6<;>simp
 ·by_cases h4:k=4
  ·subst h4
   have e1:in_ 4 1 7=true:=rfl
   simp only[e1]
   cases in_ t 1 6<;>simp
  ·simp only[h1,h4,if_false]
   have e1:in_ k 1 7=in_ k 2 7:=by rw[Bool.eq_iff_iff,in_iff,in_iff];omega
   rw[e1]
   have e2:(((m.length:Nat):Int)==0)=m.isEmpty:=by cases m<;>simp;omega
   rw[e2]
   cases in_ t 1 6<;>cases in_ k 2 7<;>simp
theorem CC{k t:Int}{m:List Int}(hL:m.length<=1099511627776):wQ [.int .i64 k,.int .i64 t,.list (m.map eI)]=some [.bool (!aA ⟨k,t,m⟩)]:=by
 rw[q_dx];simp (disch:=first|assumption|omega|(simp only[zL];omega)) only[F_dx,kV,Int.reduceEq,reduceIte,zU,zT,aa]
theorem i_ixR{rs:List Rec}(hL:rs.length<=1099511627776)(hm:∀ r∈rs,r.m.length<=1099511627776):wR [.list (rs.map Rec.e)]=some [.int .i64 (mQ (fun r=>!aA r) 0 rs)]:=by
 rw[q_am];unfold F_am
 simp only[List.length_map]
 rw[gQ (l:=rs) (fun r=>!aA r)]
 ·rfl
 ·intro i x hx
  have hi:=(List.getElem?_eq_some_iff.1 hx).1
  have hi':(i:Int)<(rs.length:Nat):=by omega
  have hxm:=hm x (List.mem_of_getElem? hx)
  simp (disch:=first|assumption|omega|(simp only[zL];omega)) only[zf,kE hx,Rec.e,au,hi',if_true,CC,Int.reduceEq,reduceIte,zU,zT,aa]
  cases aA x<;>rfl
 ·have h:¬ ((rs.length:Int)<(rs.length:Nat)):=by omega
  simp (disch:=first|assumption|omega|(simp only[zL];omega)) only[zf,h,if_false,Int.reduceEq,reduceIte,zU,zT,aa]
theorem i_cfR{rs:List Rec}(hL:rs.length<=1099511627776)(hm:∀ r∈rs,r.m.length<=1099511627776):wS [.list (rs.map Rec.e)]=some [.bool (rs.any fun r=>!aA r)]:=by
 rw[q_ah];simp (disch:=first|assumption|omega|(simp only[zL];omega)) only[F_ah,i_ixR,dZ,Bool.decide_eq_true,Int.reduceEq,reduceIte,zU,zT,aa]
theorem kX{rs:List Rec}{f:Int}(hl:LgS ⟨rs,f⟩):g0 [.list (rs.map Rec.e),.int .i64 f]=some [.bool (fX ⟨rs,f⟩)]:=by
 rw[q_gh]
 have h1:rs.length<=1099511627776:=by have:=hl.1;simp only at this;omega
 have h2:∀ r∈rs,r.m.length<=1099511627776:=hl.2
 simp (disch:=first|assumption|omega|(simp only[zL];omega)) only[F_gh,nL,i_cfR h1 h2,fX,Int.reduceEq,reduceIte,zU,zT,aa]
 have e:rs.any (fun r=>!aA r)=!rs.all aA:=by simp[List.any_eq_not_all_not]
 rw[e,Bool.not_not]
 by_cases h40:rs.length<=40
 ·have h40':((rs.length:Nat):Int)<=40:=by omega
  simp only[h40,h40',if_true,decide_true,Bool.true_and]
  cases in_ f 0 (rs.length:Nat)<;>simp
 ·have h40':¬ ((rs.length:Nat):Int)<=40:=by omega
  simp only[h40,h40',if_false,decide_false,Bool.false_and,Bool.and_false]
def TrS(l:List Trip):Prop:=l.length<=2000000/\∀ t∈l,t.m.length<=1099511627776
theorem TrOk.S{l:List Trip}(h:TrOk l):TrS l:=⟨by have:=h.len;omega,fun t ht=>by have:=aT (tripOk_iff.1 (h.ok t ht)).1;omega⟩
theorem yb{m:List Int}{s:Int}(hL:m.length<=1099511627776):wT [.list (m.map eI),.int .i64 s]=some [.bool (!eN ⟨m,s⟩)]:=by
 rw[q_cu];simp (disch:=first|assumption|omega|(simp only[zL];omega)) only[F_cu,nM,nL,eN,Int.reduceEq,reduceIte,zU,zT,aa]
 cases bV m<;>simp
theorem i_ixT{l:List Trip}(hl:TrS l):wU [.list (l.map Trip.e)]=some [.int .i64 (mQ (fun t=>!eN t) 0 l)]:=by
 rw[q_ai];unfold F_ai
 have h1:=hl.1
 simp only[List.length_map]
 rw[gQ (l:=l) (fun t=>!eN t)]
 ·rfl
 ·intro i x hx
  have hi:=(List.getElem?_eq_some_iff.1 hx).1
  have hi':(i:Int)<(l.length:Nat):=by omega
  have hxm:=hl.2 x (List.mem_of_getElem? hx)
  simp (disch:=first|assumption|omega|(simp only[zL];omega)) only[zg,cX hx,Trip.e,au,hi',if_true,yb,Int.reduceEq,reduceIte,zU,zT,aa]
  cases eN x<;>rfl
 ·have h:¬ ((l.length:Int)<(l.length:Nat)):=by omega
  simp (disch:=first|assumption|omega|(simp only[zL];omega)) only[zg,h,if_false,Int.reduceEq,reduceIte,zU,zT,aa]
theorem Bu{l:List Trip}(hl:TrS l):wW [.list (l.map Trip.e)]=some [.bool (dX l)]:=by
 rw[q_fa]
 have hc:wV [.list (l.map Trip.e)]=some [.bool (l.any fun t=>!eN t)]:=by
  rw[q_ae];simp (disch:=first|assumption|omega|(simp only[zL];omega)) only[F_ae,i_ixT,dZ,Bool.decide_eq_true,Int.reduceEq,reduceIte,zU,zT,aa]
 simp (disch:=first|assumption|omega|(simp only[zL];omega)) only[F_fa,hc,dX,Int.reduceEq,reduceIte,zU,zT,aa]
 have e:l.any (fun t=>!eN t)=!l.all eN:=by simp[List.any_eq_not_all_not]
 rw[e,Bool.not_not]
 by_cases h:l.length<=6
 ·have h':((l.length:Nat):Int)<=6:=by omega
  simp[h,h']
 ·have h':¬ ((l.length:Nat):Int)<=6:=by omega
  simp[h,h']
theorem rx{l:List Trip}(hl:l.length<=1099511627776){t:Int}:qv [.list (l.map Trip.e),.int .i64 t]=some [.int .i64 (if in_ t 1 l.length then(tAt l t).s else 0)]:=by
 rw[q_ex]
 simp (disch:=first|assumption|omega|(simp only[zL];omega)) only[F_ex,nL,Int.reduceEq,reduceIte,zU,zT,aa]
 rcases Bool.eq_false_or_eq_true (in_ t 1 (l.length:Nat))with h|h
 ·have h':=in_iff.1 h
  simp (disch:=first|assumption|omega|(simp only[zL];omega)) only[h,Bool.not_true,if_true,az,Dh,Trip.e,Int.reduceEq,reduceIte,zU,zT,aa]
 ·simp[h]
theorem nN{l:List Trip}(hl:TrS l){k t:Int}{m:List Int}(hL:m.length<=1099511627776) :
  qw [.list (l.map Trip.e),.int .i64 k,.int .i64 t,.list (m.map eI)]=some [.bool (dX l && (aA ⟨k,t,m⟩ && bW l ⟨k,t,m⟩))]:=by
 rw[q_dp]
 have h1:=hl.1
 simp (disch:=first|assumption|omega|(simp only[zL];omega)) only[F_dp,Bu,kV,rx,az,Int.reduceEq,reduceIte,zU,zT,aa]
 cases dX l with
 | false=>rfl
 | true =>
  cases hr:aA ⟨k,t,m⟩with
  | false=>rfl
  | true =>
   have ht:=cd hr
   simp only at ht
   simp only[aG,Bool.not_true,aH,Bool.true_and,bW]
   by_cases h4:k=4
   ·simp[h4]
   ·simp only[h4,if_false]
    by_cases hlt:t>(l.length:Nat)
    ·have hf:in_ t 1 (l.length:Nat)=false:=in_false.2 (by omega)
     simp only[hlt,if_true,hf,Bool.false_eq_true,if_false]
     by_cases h5:k=5
     ·simp[h5]
     ·by_cases h6:k=6
      ·simp[h6]
      ·by_cases h7:k=7<;>simp[h5,h6,h7]
    ·have hf:in_ t 1 (l.length:Nat)=true:=in_iff.2 (by omega)
     simp only[hlt,hf,if_true,if_false]
     by_cases h5:k=5
     ·simp[h5]
     ·by_cases h6:k=6
      ·simp[h6]
      ·by_cases h7:k=7
       ·by_cases hs:(tAt l t).s=2<;>simp[h7,hs]
       ·simp[h5,h6,h7]
theorem o8{m:List Int}(hL:m.length<=1099511627776):m6 [.list (m.map eI)]=some [.list (m.map eI)]:=by
 rw[q_bc]
 cases m with
 | nil=>simp[F_bc,dB,bt,cn]
 | cons a l =>
  have:((a::l).map eI).isEmpty=false:=rfl
  simp only[F_bc,this,aH,List.nil_append,iY,fv]
  rw[bt (by simp[cn]at *;omega)]
  rfl
theorem Bv{l:List Trip}(hl:TrS l){k t:Int}{m:List Int}(hL:m.length<=1099511627776) :
  wX [.list (l.map Trip.e),.int .i64 k,.int .i64 t,.list (m.map eI)] =
   some (if dX l && (aA ⟨k,t,m⟩ && bW l ⟨k,t,m⟩) then [.list ((ch l ⟨k,t,m⟩).map Trip.e),.bool true] else [.list [],.bool false]):=by
 rw[q_dy]
 simp (disch:=first|assumption|omega|(simp only[zL];omega)) only[F_dy,nN,Int.reduceEq,reduceIte,zU,zT,aa]
 rcases Bool.eq_false_or_eq_true (dX l && (aA ⟨k,t,m⟩ && bW l ⟨k,t,m⟩))with h|h
 case inr=>simp[h]
 simp only[h,Bool.not_true,aG,aH,if_true]
 simp only[Bool.and_eq_true]at h
 obtain⟨ho,hr,hm⟩:=h
 have ht:=cd hr
 have hml:=fb hr
 have hT:=tripsOk_iff.1 ho
 have hl6:=hT.len
 simp only at ht hml
 have key:=aC (l:=l) (F:=fun ps=>tG (l.map Trip.e) k t (m.map eI) ((l.length:Nat):Int) ((aa ps 0).toInt) ((aa ps 1).toList)) (enc:=fun i (s:List Trip)=>[.int .i64 i,.list (s.map Trip.e)])
  (res:=fun xs _ s=>.ret [.list ((ch (s++xs) ⟨k,t,m⟩).map Trip.e),.bool true]) (fun i s=>s=l.take i) (s:=[]) (by simp) ?_ ?_
 ·have key:aI _ [C.int .i64 0,C.list []]=_:=key
  rw[key];rfl
 ·intro i x xs s hx hs
  have hi:=(List.getElem?_eq_some_iff.1 hx).1
  have hi':(i:Int)<(l.length:Nat):=by omega
  have hxm:=hl.2 x (List.mem_of_getElem? hx)
  have hsl:s.length=i:=by rw[hs];simp;omega
  simp (disch:=first|assumption|omega|(simp only[zL];omega)) only[tG,cX hx,Trip.e,au,hi',if_true,o8,Int.reduceEq,reduceIte,zU,zT,aa]
  refine .inl ⟨s++[x],?_,?_,by simp⟩
  ·simp[Trip.e]
  ·rw[hs,List.take_succ,hx];rfl
 ·intro s hs
  have hs:s=l:=by rw[hs,List.take_length]
  subst hs
  have h:¬ ((s.length:Int)<(s.length:Nat)):=by omega
  simp only[tG,aa,C.toInt_int,C.toList_list,bH,h,if_false,List.append_nil]
  rcases gj hr hm with ⟨h4,h⟩|⟨h1,h2,h⟩
  ·simp only at h4;subst h4
   have hml':m.length<=1099511627776:=by omega
   simp only[bn,if_true,o8 hml',cd_l,aa,C.toList_list]
   rw[bt (by simp[cn];omega)]
   simp[nF,ch,Trip.e]
  ·simp only at h1 h2 h
   have hx:=sC h1 h2
   have hw:IntKind.wrap .i64 (t-1)=t-1:=az (by omega) (by omega)
   have hb:(decide ((0:Int)<=t-1) && decide (t-1<((s.map Trip.e).length:Nat)))=true:=lt_B (by omega) (by simp;omega)
   have st:∀ z:Int,setRow 1 (s.map Trip.e) (t-1).toNat [C.int .i64 z]=(s.set (t-1).toNat ⟨(tAt s t).m,z⟩).map Trip.e:=fun z=>cY hx rfl
   simp only[hw,ch,bn,bt hb,Dh h1 h2,Trip.e,aa,C.toInt_int,st]
   rcases h with ⟨h|h,_⟩|⟨h,hs⟩
   ·subst h;rfl
   ·subst h;rfl
   ·subst h
    rcases hs with hs|hs<;>simp[hs,upD]
theorem ry{rs:List Rec}(hL:rs.length<=2000000)(hm:∀ r∈rs,r.m.length<=1099511627776) :
  qx [.list (rs.map Rec.e)]=some [.list (((a8 rs).getD []).map Trip.e),.bool (a8 rs).isSome]:=by
 rw[q_ed];unfold F_ed
 have key:=aC (l:=rs) (F:=fun ps=>pB (rs.map Rec.e) ((aa ps 0).toList) ((aa ps 1).toBool) ((aa ps 2).toInt)) (enc:=fun i (s:Option (List Trip))=>[.list ((s.getD []).map Trip.e),.bool s.isSome,.int .i64 i])
  (res:=fun xs _ s=>match s with
   | some l=>.ret [.list (((bJ xs l).getD []).map Trip.e),.bool (bJ xs l).isSome]
   | none=>.ret [.list [],.bool false]) (fun _ s=>∀ l,s=some l->TrOk l) (s:=some []) (fun l e=>by simp only[Option.some.injEq]at e;rw[<-e];exact TrOk.nil) ?_ ?_
 ·have key:aI _ [C.list [],C.bool true,C.int .i64 0]=_:=key
  rw[key];rfl
 ·intro i x xs s hx hs
  have hi:=(List.getElem?_eq_some_iff.1 hx).1
  have hi':(i:Int)<(rs.length:Nat):=by omega
  have hxm:=hm x (List.mem_of_getElem? hx)
  cases s with
  | none=>exact .inr ⟨_,rfl,rfl⟩
  | some l =>
   have hT:=hs l rfl
   have hS:=hT.S
   simp (disch:=first|assumption|omega|(simp only[zL];omega)) only[pB,Option.isSome_some,Option.getD_some,kE hx,Rec.e,hi',if_true,Bv,Int.reduceEq,reduceIte,zU,zT,aa]
   have e1:dX l=true:=tripsOk_iff.2 hT
   simp only[e1,Bool.true_and]
   rcases Bool.eq_false_or_eq_true (aA x && bW l x)with h|h
   ·simp only[h,if_true]
    refine .inl ⟨some (ch l x),?_,fun l' e=>?_,by simp[bJ,h]⟩
    ·simp (disch:=first|assumption|omega|(simp only[zL];omega)) only[au,Option.isSome_some,Option.getD_some,Int.reduceEq,reduceIte,zU,zT,aa]
    ·simp only[Option.some.injEq]at e;rw[<-e]
     simp only[Bool.and_eq_true]at h
     exact nk hT h.1 h.2
   ·simp only[h,Bool.false_eq_true,if_false]
    refine .inl ⟨none,?_,?_,?_⟩
    ·simp (disch:=first|assumption|omega|(simp only[zL];omega)) only[au,Option.isSome_none,Option.getD_none,Int.reduceEq,reduceIte,zU,zT,aa]
     try simp
    ·intro l' e;cases e
    ·simp[bJ,h]
 ·intro s hs
  have h:¬ ((rs.length:Int)<(rs.length:Nat)):=by omega
  cases s with
  | none=>simp[pB,aa]
  | some l=>simp[pB,aa,bH,bJ]
end Dx
namespace Dx
open Go
theorem iG{k h t m:Int}:hD [.int .i64 k,.int .i64 h,.int .i64 t,.int .i64 m]=some [.bool (bg ⟨k,h,t,m⟩)]:=by
 rw[q_ga]
 simp (disch:=first|assumption|omega|(simp only[zL];omega)) only[F_ga,nL,dd,o7,bg,Int.reduceEq,reduceIte,zU,zT,aa]
 by_cases h1:k=1
 ·simp only[h1,if_true]
  cases in_ h 1 3<;>cases in_ t 1 6<;>cases in_ 1 1 7<;>simp
 ·simp only[h1,if_false]
  cases in_ h 1 3<;>cases in_ t 1 6<;>cases in_ k 1 7<;>simp
theorem iH{k h t m:Int}:jl [.int .i64 k,.int .i64 h,.int .i64 t,.int .i64 m]=some [.bool (decide (k>=4))]:=by
 rw[q_bg];simp (disch:=first|assumption|omega|(simp only[zL];omega)) only[F_bg,Int.reduceEq,reduceIte,zU,zT,aa]
theorem jz{td:List Word}(hL:td.length<=1099511627776){k h t m:Int}:ml [.list (td.map Word.e),.int .i64 k,.int .i64 h,.int .i64 t,.int .i64 m]=some [.bool (td.contains ⟨k,h,t,m⟩)]:=by
 rw[q_ap]
 have hi:wY [.list (td.map Word.e),.int .i64 k,.int .i64 h,.int .i64 t,.int .i64 m]=some [.int .i64 (mQ (fun x=>decide ((⟨k,h,t,m⟩:Word)=x)) 0 td)]:=by
  rw[q_ar];unfold F_ar
  simp only[List.length_map]
  rw[gQ (l:=td) (fun x=>decide ((⟨k,h,t,m⟩:Word)=x))]
  ·rfl
  ·intro i x hx
   have hi:=(List.getElem?_eq_some_iff.1 hx).1
   have hi':(i:Int)<(td.length:Nat):=by omega
   have hw:=kF ⟨k,h,t,m⟩ x
   simp only at hw
   simp (disch:=first|assumption|omega|(simp only[zL];omega)) only[zh,gJ hx,Word.e,au,hi',if_true,hw,decide_eq_true_eq,Int.reduceEq,reduceIte,zU,zT,aa]
  ·have h:¬ ((td.length:Int)<(td.length:Nat)):=by omega
   simp (disch:=first|assumption|omega|(simp only[zL];omega)) only[zh,h,if_false,Int.reduceEq,reduceIte,zU,zT,aa]
 simp (disch:=first|assumption|omega|(simp only[zL];omega)) only[F_ap,hi,dZ,Bool.decide_eq_true,Int.reduceEq,reduceIte,zU,zT,aa]
 rw[List.contains_eq_any_beq]
 congr
theorem lQ{k t:Int}{m:List Int}(hL:m.length<=1099511627776):qB [.int .i64 k,.int .i64 t,.list (m.map eI)]=some [.int .i64 k,.int .i64 t,.list (m.map eI)]:=by
 rw[q_bu];simp (disch:=first|assumption|omega|(simp only[zL];omega)) only[F_bu,o8,Int.reduceEq,reduceIte,zU,zT,aa]
theorem sG{rs:List Rec}{f many forced:Int}(hl:LgS ⟨rs,f⟩)(h1:0<=many)(h2:many<=rs.length) :
  mm [.list (rs.map Rec.e),.int .i64 f,.int .i64 many,.int .i64 forced]=some [.list ((rs.take many.toNat).map Rec.e),.int .i64 forced]:=by
 rw[q_cs]
 have e1:∀ n:Nat,(rs.map Rec.e).take n=(rs.take n).map Rec.e:=fun n=>by simp
 unfold F_cs
 simp only[e1,List.length_map]
 rw[cC h1 h2]
 have hm:∀ r∈rs.take many.toNat,r.m.length<=1099511627776:=fun r hr=>hl.2 r (List.mem_of_mem_take hr)
 have hlen:(rs.take many.toNat).length<=2000000:=by simp;have:=hl.1;simp only at this;omega
 generalize rs.take many.toNat=l at hm hlen
 have key:=aC (l:=l) (F:=fun ps=>tJ forced (l.map Rec.e) ((l.length:Nat):Int) ((aa ps 0).toInt) ((aa ps 1).toList)) (enc:=fun i (s:List Rec)=>[.int .i64 i,.list (s.map Rec.e)])
  (res:=fun xs _ s=>.ret [.list ((s++xs).map Rec.e),.int .i64 forced]) (fun i s=>s.length=i) (s:=[]) rfl ?_ ?_
 ·have key:aI _ [C.int .i64 0,C.list []]=_:=key
  rw[key];rfl
 ·intro i x xs s hx hs
  have hi:=(List.getElem?_eq_some_iff.1 hx).1
  have hi':(i:Int)<(l.length:Nat):=by omega
  have hxm:=hm x (List.mem_of_getElem? hx)
  simp (disch:=first|assumption|omega|(simp only[zL];omega)) only[tJ,kE hx,Rec.e,au,hi',if_true,lQ,Int.reduceEq,reduceIte,zU,zT,aa]
  refine .inl ⟨s++[x],?_,by simp[hs],by simp⟩
  simp[Rec.e]
 ·intro s hs
  have h:¬ ((l.length:Int)<(l.length:Nat)):=by omega
  simp (disch:=first|assumption|omega|(simp only[zL];omega)) only[tJ,h,if_false,Int.reduceEq,reduceIte,zU,zT,aa]
  simp
theorem iw{rs:List Rec}{f:Int}(hl:LgS ⟨rs,f⟩):mn [.list (rs.map Rec.e),.int .i64 f]=some [.list (rs.map Rec.e),.int .i64 f]:=by
 rw[q_bt]
 have h:=sG hl (many:=((rs.length:Nat):Int)) (forced:=f) (by omega) (by omega)
 simp only[Int.toNat_natCast,List.take_length]at h
 simp (disch:=first|assumption|omega|(simp only[zL];omega)) only[F_bt,h,Int.reduceEq,reduceIte,zU,zT,aa]
theorem vo{m:List Word}(hL:m.length<=1099511627776):qC [.list (m.map Word.e)]=some [.list (m.map Word.e)]:=by
 rw[q_as]
 cases m with
 | nil=>simp[F_as,dB,bt,cn]
 | cons a l =>
  have:((a::l).map Word.e).isEmpty=false:=rfl
  simp only[F_as,this,aH,List.nil_append,Ag,fv]
  rw[bt (by simp[cn]at *;omega)]
  rfl
structure DkS (d:Desk):Prop where
 lg:LgS d.lg
 td:d.td.length<=2000000
theorem DkOk.S{d:Desk}(h:DkOk d):DkS d:=⟨h.lg.S,by have:=h.tdlen;omega⟩
theorem LgS.m{rs:List Rec}{f:Int}(h:LgS ⟨rs,f⟩):∀ r∈rs,r.m.length<=1099511627776:=h.2
theorem LgS.l{rs:List Rec}{f:Int}(h:LgS ⟨rs,f⟩):rs.length<=2000000:=h.1
section
variable {up b:Bool} {rs:List Rec} {f:Int} {td:List Word} {k h t m keep:Int} {ms:List Int}
theorem cG(hs:DkS ⟨up,⟨rs,f⟩,td⟩):fV [.bool up,.list (rs.map Rec.e),.int .i64 f,.list (td.map Word.e)]=some (Desk.e ⟨up,⟨rs,f⟩,td⟩):=by
 rw[q_bb]
 have h1:LgS ⟨rs,f⟩:=hs.lg
 have h2:td.length<=1099511627776:=by have:=hs.td;simp only at this;omega
 simp (disch:=first|assumption|omega|(simp only[zL];omega)) only[F_bb,iw,vo,Int.reduceEq,reduceIte,zU,zT,aa]
 rfl
theorem Ak(hl:b=true->0<=f/\f<=rs.length):qD [.list (rs.map Rec.e),.int .i64 f,.bool b]=some [.list ((a9 ⟨rs,f⟩ b).map Rec.e)]:=by
 rw[q_cv]
 cases b with
 | false=>simp[F_cv,a9]
 | true =>
  obtain⟨h1,h2⟩:=hl rfl
  simp only[F_cv,aG,List.length_map]
  rw[cC h1 h2]
  simp[a9]
theorem nO(hs:LgS ⟨rs,f⟩)(hl:b=true->0<=f/\f<=rs.length){tl:List (List C)}:eu [.bool up,.list (rs.map Rec.e),.int .i64 f,.list tl,.bool b]=some [.list ((ah ⟨rs,f⟩ b).map Trip.e)]:=by
 rw[q_bv]
 have h1:(a9 ⟨rs,f⟩ b).length<=2000000:=by have:=hs.l;unfold a9;split<;>simp<;>omega
 have h2:∀ r∈a9 ⟨rs,f⟩ b,r.m.length<=1099511627776:=fun r hr=>hs.2 r (by unfold a9 at hr;split at hr;exact List.mem_of_mem_take hr;exact hr)
 simp (disch:=first|assumption|omega|(simp only[zL];omega)) only[F_bv,Ak hl,ry h1 h2,ah,Int.reduceEq,reduceIte,zU,zT,aa]
theorem kK(hs:LgS ⟨rs,f⟩){tl:List (List C)}:eu [.bool up,.list (rs.map Rec.e),.int .i64 f,.list tl,.bool false]=some [.list ((ah ⟨rs,f⟩ false).map Trip.e)]:=nO hs (fun h=>by cases h)
theorem CD(hs:LgOk ⟨rs,f⟩){tl:List (List C)}:eu [.bool up,.list (rs.map Rec.e),.int .i64 f,.list tl,.bool true]=some [.list ((ah ⟨rs,f⟩ true).map Trip.e)]:=nO hs.S (fun _=>⟨hs.lo,hs.hi⟩)
theorem bx(hs:DkS ⟨up,⟨rs,f⟩,td⟩):cu [.bool up,.list (rs.map Rec.e),.int .i64 f,.list (td.map Word.e)]=some [.bool (aU ⟨up,⟨rs,f⟩,td⟩)]:=by
 rw[q_fm]
 have h1:LgS ⟨rs,f⟩:=hs.lg
 have h2:td.length<=2000000:=hs.td
 have hj:aj (zi (rs.map Rec.e) (td.map Word.e))=some [.bool (dp ((a8 rs).getD []).length [] td && (a8 rs).isSome)]:=by
  unfold zi
  have ht:=ry h1.l h1.m
  simp only[ht,Ig,aa,C.toBool_bool,C.toList_list,List.length_map]
  have key:=aC (l:=td) (F:=fun ps=>tH (td.map Word.e) (((a8 rs).getD []).map Trip.e) (a8 rs).isSome ((td.length:Nat):Int) ((aa ps 0).toInt)) (enc:=fun i (_:Unit)=>[.int .i64 i])
   (res:=fun xs i _=>.ret [.bool (dp ((a8 rs).getD []).length (td.take i) xs && (a8 rs).isSome)]) (fun _ _=>True) (s:=()) trivial ?_ ?_
  ·have key:aI _ [C.int .i64 0]=_:=key
   rw[key];rfl
  ·intro i x xs s hx _
   have hi:=(List.getElem?_eq_some_iff.1 hx).1
   have hi':(i:Int)<(td.length:Nat):=by omega
   have e1:(td.map Word.e).take i=(td.take i).map Word.e:=by simp
   have c1:(0:Int)<=(i:Int):=by omega
   have c2:(i:Int)<=(td.length:Nat):=by omega
   have c3:(td.take i).length<=1099511627776:=by simp;omega
   have e2:td.take (i+1)=td.take i++[x]:=by rw[List.take_succ,hx];rfl
   have e3:∀ n:Nat,decide (x.t>(n:Int))=!decide (x.t<=(n:Int)):=fun n=>by rw[Bool.eq_iff_iff];simp
   simp (disch:=first|assumption|omega|(simp only[zL];omega)) only[tH,gJ hx,Word.e,au,hi',if_true,iG,iH,e1,Int.toNat_natCast,jz,cC c1 c2,Int.reduceEq,reduceIte,zU,zT,aa]
   simp only[dp,e2]
   cases bg x with
   | false=>exact .inr ⟨_,rfl,by simp⟩
   | true =>
    by_cases h4:x.k>=4
    ·by_cases h5:x.t>((((a8 rs).getD []).length:Nat):Int)
     ·have h5':¬ x.t<=((((a8 rs).getD []).length:Nat):Int):=by omega
      exact .inr ⟨_,by simp only[h4,h5,if_true,aG,Bool.not_true,aH];rfl,by simp[h5']⟩
     ·have h5':x.t<=((((a8 rs).getD []).length:Nat):Int):=by omega
      cases hc:(td.take i).contains x with
      | true =>
       refine .inr ⟨.ret [.bool false],?_,by simp⟩
       simp only[h4,h5,if_true,if_false,aG,Bool.not_true,aH]
       try rw[bt (by simp;omega)]
      | false =>
       refine .inl ⟨(),?_,trivial,by simp[h4,h5']⟩
       simp only[h4,h5,if_true,if_false,aG,Bool.not_true,aH]
       try rw[bt (by simp;omega)]
    ·exact .inr ⟨_,by simp only[h4,if_false,aG,Bool.not_true,aH];rfl,by simp[h4]⟩
  ·intro s _
   have h:¬ ((td.length:Int)<(td.length:Nat)):=by omega
   simp (disch:=first|assumption|omega|(simp only[zL];omega)) only[tH,h,if_false,Int.reduceEq,reduceIte,zU,zT,aa]
   rfl
 simp (disch:=first|assumption|omega|(simp only[zL];omega)) only[F_fm,kX,oY,hj,Int.reduceEq,reduceIte,zU,zT,aa]
 unfold aU
 cases fX ⟨rs,f⟩with
 | false=>simp
 | true =>
  simp only[Bool.not_true,aH,Bool.true_and]
  cases up with
  | true =>
   simp only[aG,bc]
   rw[hj]
   cases a8 rs<;>simp
  | false =>
   simp only[aH]
   by_cases hz:((td.length:Nat):Int)>0
   ·have:td.isEmpty=false:=by
     cases td with
     | nil=>simp at hz
     | cons a l=>rfl
    simp only[hz,if_true,oY,aG,aH,aw]
    cases a8 rs<;>simp[this]
   ·have:td=[]:=by
     cases td with
     | nil=>rfl
     | cons a l=>simp at hz
    simp only[hz,if_false,aG,aH,bc]
    rw[hj,this]
    cases a8 rs<;>simp
end
end Dx
namespace Dx
open Go
def dz:Desk:=⟨false,⟨[],0⟩,[]⟩
section
variable {up b:Bool} {rs:List Rec} {f:Int} {td:List Word} {k h t m keep:Int} {ms:List Int}
theorem vp(hl:LgS ⟨rs,f⟩)(hm:ms.length<=1099511627776) :
  qE [.list (rs.map Rec.e),.int .i64 f,.int .i64 k,.int .i64 t,.list (ms.map eI)] =
   some (if fX ⟨rs,f⟩ && aA ⟨k,t,ms⟩ then [.list ((cL ⟨rs,f⟩ ⟨k,t,ms⟩).rs.map Rec.e),.int .i64 f,.bool (nb ⟨rs,f⟩)] else [.list [],.int .i64 0,.bool false]):=by
 rw[q_fz]
 simp (disch:=first|assumption|omega|(simp only[zL];omega)) only[F_fz,kX,kV,iw,lQ,Int.reduceEq,reduceIte,zU,zT,aa]
 cases hlo:fX ⟨rs,f⟩with
 | false=>simp
 | true =>
  cases aA ⟨k,t,ms⟩with
  | false=>simp
  | true =>
   have hl40:rs.length<=40:=(logOk_iff.1 hlo).len
   simp only[aG,Bool.and_self,if_true]
   by_cases h40:((rs.length:Nat):Int)=40
   ·have h':rs.length>=40:=by omega
    simp[h40,cL,nb,h']
   ·have h':¬ rs.length>=40:=by omega
    have hc:rs.length+1<=1099511627776:=by omega
    simp[h40,cL,nb,h',hc,Rec.e]
theorem kY(hd:DkOk ⟨up,⟨rs,f⟩,td⟩)(hr:aA ⟨k,t,ms⟩=true) :
  gD [.bool up,.list (rs.map Rec.e),.int .i64 f,.list (td.map Word.e),.int .i64 k,.int .i64 t,.list (ms.map eI)] =
   some (.bool (cA ⟨up,⟨rs,f⟩,td⟩ ⟨k,t,ms⟩)::(aQ ⟨up,⟨rs,f⟩,td⟩ ⟨k,t,ms⟩).e):=by
 rw[q_bz]
 have hlg:LgOk ⟨rs,f⟩:=hd.lg
 have hS:=hlg.S
 have hT:TrOk (ah ⟨rs,f⟩ false):=hd.trOk false
 have hTS:=hT.S
 have hml:=fb hr
 have hml':ms.length<=1099511627776:=by simp only at hml;omega
 have hto:dX (ah ⟨rs,f⟩ false)=true:=tripsOk_iff.2 hT
 have hlo:fX ⟨rs,f⟩=true:=logOk_iff.2 hlg
 simp (disch:=first|assumption|omega|(simp only[zL];omega)) only[F_bz,kK,nN,vp,hto,hr,hlo,Bool.true_and,Bool.and_self,if_true,aQ,cA,af,Int.reduceEq,reduceIte,zU,zT,aa]
 cases up with
 | false=>simp[Desk.e]
 | true =>
  simp only[aG,Bool.true_and]
  cases bW (ah ⟨rs,f⟩ false) ⟨k,t,ms⟩with
  | false=>simp[Desk.e]
  | true=>simp[Desk.e,zB]
theorem Dk(hL:td.length<=1099511627776){r:List (List C)}:qF [.bool up,.list r,.int .i64 f,.list (td.map Word.e),.int .i64 k,.int .i64 h,.int .i64 t]=some [.bool (td.contains ⟨k,h,t,0⟩)]:=by
 rw[q_cl];simp (disch:=first|assumption|omega|(simp only[zL];omega)) only[F_cl,jz,Int.reduceEq,reduceIte,zU,zT,aa]
theorem Fn(hL:td.length<=1099511627776)(hm:ms.length<=1000)(hn:∀ n∈ms,0<=n){r:List (List C)} :
  m8 [.bool up,.list r,.int .i64 f,.list (td.map Word.e),.int .i64 k,.int .i64 t,.list (ms.map eI)]=some [.bool (aP td t k 1 ms),.bool (al td t k 1 ms)]:=by
 rw[q_bx];unfold F_bx
 simp only[List.length_map]
 have key:=aC (l:=ms) (F:=fun ps=>tL up r f (td.map Word.e) k t (ms.map eI) ((ms.length:Nat):Int) ((aa ps 0).toBool) ((aa ps 1).toBool) ((aa ps 2).toInt)) (enc:=fun i (s:Bool×Bool)=>[.bool s.1,.bool s.2,.int .i64 i])
  (res:=fun xs i s=>.ret [.bool (s.1 || aP td t k ((i+1:Nat):Int) xs),.bool (s.2 && al td t k ((i+1:Nat):Int) xs)]) (fun _ _=>True) (s:=(false,true)) trivial ?_ ?_
 ·have key:aI _ [C.bool false,C.bool true,C.int .i64 0]=_:=key
  rw[key];simp
 ·rintro i x xs ⟨a,b⟩ hx _
  have hi:=(List.getElem?_eq_some_iff.1 hx).1
  have hi':(i:Int)<(ms.length:Nat):=by omega
  have hx0:=hn x (List.mem_of_getElem? hx)
  have e1:((i+1:Nat):Int)+1=((i+1+1:Nat):Int):=by omega
  simp (disch:=first|assumption|omega|(simp only[zL];omega)) only[tL,fC hx,eI,au,hi',if_true,Dk,Int.reduceEq,reduceIte,zU,zT,aa]
  by_cases h0:x=0
  ·have h0':¬ x>0:=by omega
   simp only[h0,if_true]
   refine .inl ⟨(a,b),?_,trivial,?_⟩
   ·rfl
   ·simp only[aP,al,e1];simp
  ·have h0':x>0:=by omega
   simp only[h0,if_false]
   generalize hc:td.contains ⟨k,((i+1:Nat):Int),t,0⟩=c
   refine .inl ⟨(a || c,b && c),?_,trivial,?_⟩
   ·cases a<;>cases b<;>simp
   ·simp only[aP,al,e1,hc,h0',decide_true,Bool.true_and,Bool.not_true,Bool.false_or]
    cases a<;>cases b<;>cases c<;>simp
 ·rintro⟨a,b⟩ _
  have h:¬ ((ms.length:Int)<(ms.length:Nat)):=by omega
  simp (disch:=first|assumption|omega|(simp only[zL];omega)) only[tL,h,if_false,Int.reduceEq,reduceIte,zU,zT,aa]
  simp[aP,al]
def Dl(d:Desk)(t K:Int):Desk:=if K>0 then aQ d ⟨K,t,[]⟩ else d
theorem yc(d:Desk)(t:Int):aF d t=Dl d t (mG (tAt (af d false) t).s (ib d t) d.td t (tAt (af d false) t).m):=rfl
theorem d8(Φ:Phi)(f:Nat)(args:List Cell)(ks:List CK)(t:Tree)(env:List C):den Φ (.call f args ks t) env=ac (Φ f (aK env args)) ks fun r=>den Φ t (env++r):=by rw[den]
theorem vq(hd:DkOk ⟨up,⟨rs,f⟩,td⟩)(h1:1<=t)(h2:t<=(ah ⟨rs,f⟩ false).length) :
  tM [.bool up,.list (rs.map Rec.e),.int .i64 f,.list (td.map Word.e),.int .i64 t]=some (aF ⟨up,⟨rs,f⟩,td⟩ t).e:=by
 have hlg:LgOk ⟨rs,f⟩:=hd.lg
 have hS:=hlg.S
 have tA:TrOk (ah ⟨rs,f⟩ false):=hd.trOk false
 have tF:TrOk (ah ⟨rs,f⟩ true):=hd.trOk true
 have lA:=tA.len
 have lF:=tF.len
 have hx:=tripOk_iff.1 (tA.ok _ (gP (t:=t) (by omega)))
 have hml:=aT hx.1
 have hml':(tAt (ah ⟨rs,f⟩ false) t).m.length<=1000:=by omega
 have hn:∀ n∈(tAt (ah ⟨rs,f⟩ false) t).m,0<=n:=fun n hn=>(gG hx.1 hn).1
 have htd:td.length<=1099511627776:=by have:=hd.tdlen;simp only at this;omega
 have w5:=kY hd (k:=5) (t:=t) (ms:=[]) (by simp[aA,in_iff];omega)
 have w6:=kY hd (k:=6) (t:=t) (ms:=[]) (by simp[aA,in_iff];omega)
 have w7:=kY hd (k:=7) (t:=t) (ms:=[]) (by simp[aA,in_iff];omega)
 simp only[List.map_nil,Desk.e]at w5 w6 w7
 unfold tM t_bf
 simp (disch:=first|assumption|omega|(simp only[zL];omega)) only[den,EG,aK,Cell.den,At.den,kK,CD,Fn,rx,Dh,az,Trip.e,Prim.den,List.cons_append,Int.reduceEq,reduceIte,zT,aa]
 rw[yc]
 have hsure:((if in_ t 1 ((ah ⟨rs,f⟩ true).length:Nat)=true then(tAt (ah ⟨rs,f⟩ true) t).s else 0)==(tAt (ah ⟨rs,f⟩ false) t).s)=ib ⟨up,⟨rs,f⟩,td⟩ t:=by
  have hs1:=hx.2.1
  unfold ib af
  by_cases h:t<=((ah ⟨rs,f⟩ true).length:Nat)
  ·have hi:in_ t 1 ((ah ⟨rs,f⟩ true).length:Nat)=true:=in_iff.2 ⟨h1,h⟩
   simp[hi,h]
  ·have hi:in_ t 1 ((ah ⟨rs,f⟩ true).length:Nat)=false:=in_false.2 (by omega)
   simp[hi,h];omega
 simp only[hsure]
 dsimp only[af]
 have hs:=hx.2
 generalize ib ⟨up,⟨rs,f⟩,td⟩ t=b
 generalize (tAt (ah ⟨rs,f⟩ false) t).s=s at hs ⊢
 generalize (tAt (ah ⟨rs,f⟩ false) t).m=m
 unfold mG
 generalize aP td t 5 1 m=a5
 generalize al td t 4 1 m=a4
 generalize al td t 6 1 m=a6
 generalize al td t 7 1 m=a7
 rcases (by omega:s=1\/s=2\/s=3\/s=4\/s=5)with e|e|e|e|e<;>subst e
 ·cases a5<;>cases a4<;>simp[gK,CK.of,aa,w5,w6,w7,bn,kC,Dl,Desk.e]
 ·cases b<;>cases a6<;>simp[gK,CK.of,aa,w5,w6,w7,bn,kC,Dl,Desk.e]
 ·cases b<;>cases a7<;>simp[gK,CK.of,aa,w5,w6,w7,bn,kC,Dl,Desk.e]
 ·simp[gK,CK.of,aa,bn,Dl,Desk.e]
 ·simp[gK,CK.of,aa,bn,Dl,Desk.e]
end
end Dx
namespace Dx
open Go
section
variable {up b:Bool} {rs:List Rec} {f:Int} {td:List Word} {k h t m keep:Int} {ms:List Int} {id room:Int}
theorem Dm(hd:DkOk ⟨up,⟨rs,f⟩,td⟩) :
  qH [.bool up,.list (rs.map Rec.e),.int .i64 f,.list (td.map Word.e),.int .i64 k,.int .i64 h,.int .i64 t,.int .i64 m]=some (dhear ⟨up,⟨rs,f⟩,td⟩ ⟨k,h,t,m⟩).e:=by
 rw[q_cq]
 have hlg:LgOk ⟨rs,f⟩:=hd.lg
 have hS:=hlg.S
 have htd:td.length<=72:=hd.tdlen
 unfold dhear
 simp (disch:=first|assumption|omega|(simp only[zL];omega)) only[F_cq,iG,iH,kK,jz,Int.reduceEq,reduceIte,zU,zT,aa]
 have nh:bd ⟨up,⟨rs,f⟩,td⟩ ⟨k,h,t,m⟩=false->(if bd ⟨up,⟨rs,f⟩,td⟩ ⟨k,h,t,m⟩=true then aF (aZ ⟨up,⟨rs,f⟩,td⟩ ⟨k,h,t,m⟩) t else⟨up,⟨rs,f⟩,td⟩)=⟨up,⟨rs,f⟩,td⟩:=fun e=>by rw[e];rfl
 cases up with
 | false=>rw[nh rfl];rfl
 | true =>
  cases hw:bg ⟨k,h,t,m⟩with
  | false=>rw[nh (by simp[bd,hw])];rfl
  | true =>
   have wt:=(wordOk_iff.1 hw).t
   simp only at wt
   simp only[aG,dL]
   by_cases h4:k>=4
   ·by_cases ht:t>((ah ⟨rs,f⟩ false).length:Nat)
    ·rw[nh (by rw[gb,hw];simp only[Bool.true_and];rw[Bool.and_eq_false_iff];right;exact decide_eq_false (by omega))]
     simp only[h4,ht,if_true,if_false];rfl
    ·have c1:bd ⟨true,⟨rs,f⟩,td⟩ ⟨k,h,t,m⟩=true:=by rw[gb,hw];simp only[Bool.true_and];rw[Bool.and_eq_true];exact⟨decide_eq_true (by omega),decide_eq_true (by omega)⟩
     rw[if_pos c1]
     simp only[h4,ht,if_false,if_true,aZ]
     cases hc:td.contains ⟨k,h,t,m⟩with
     | true =>
      simp (disch:=first|assumption|omega|(simp only[zL];omega)) only[vq,Desk.e,aG,aH,aw,sB,aa,C.toInt_int,C.toBool_bool,C.toList_list,if_true]
     | false =>
      have hd2:DkOk ⟨true,⟨rs,f⟩,td++[⟨k,h,t,m⟩]⟩:=by
       have:=hd.tell (w:=⟨k,h,t,m⟩) c1
       unfold aZ at this
       rw[if_neg (by rw[hc];simp)]at this
       exact this
      have e1:(td.map Word.e)++[[C.int .i64 k,C.int .i64 h,C.int .i64 t,C.int .i64 m]]=(td++[(⟨k,h,t,m⟩:Word)]).map Word.e:=by simp[Word.e]
      have hd3:=vq hd2 wt.1 (show t<=((ah ⟨rs,f⟩ false).length:Nat) by omega)
      simp only[aH,aG,e1,hd3]
      simp (disch:=first|assumption|omega|(simp only[zL];omega)) only[Desk.e,Bool.false_eq_true,if_false,Int.reduceEq,reduceIte,zU,zT,aa]
   ·rw[nh (by rw[gb,hw];simp[h4])]
    simp only[h4,if_false];rfl
theorem dD(hs:DkS ⟨up,⟨rs,f⟩,td⟩) :
  gF [.bool up,.list (rs.map Rec.e),.int .i64 f,.list (td.map Word.e),.int .i64 k,.int .i64 h,.int .i64 t,.int .i64 m]=some (if aU ⟨up,⟨rs,f⟩,td⟩ then dhear ⟨up,⟨rs,f⟩,td⟩ ⟨k,h,t,m⟩ else dz).e:=by
 rw[q_dl]
 cases ho:aU ⟨up,⟨rs,f⟩,td⟩with
 | false=>simp (disch:=first|assumption|omega|(simp only[zL];omega)) only[F_dl,bx,ho,Int.reduceEq,reduceIte,zU,zT,aa];rfl
 | true =>
  have hd:=deskOk_iff.1 ho
  simp (disch:=first|assumption|omega|(simp only[zL];omega)) only[F_dl,bx,ho,cG,Dm,Desk.e,Int.reduceEq,reduceIte,zU,zT,aa]
theorem rz(hl:LgOk ⟨rs,f⟩):qJ [.list (rs.map Rec.e),.int .i64 f,.int .i64 keep]=some (iP ⟨rs,f⟩ keep).e:=by
 rw[q_eb]
 have hS:=hl.S
 have h1:=hl.lo
 have h2:=hl.hi
 have h3:=hl.len
 have hk:=hl.keep keep
 simp only at h1 h2 h3 hk
 have hlo:=logOk_iff.2 hl
 have e1:f+(if(0:Int)>(if((rs.length:Nat):Int)-f<keep then((rs.length:Nat):Int)-f else keep) then 0 else(if((rs.length:Nat):Int)-f<keep then((rs.length:Nat):Int)-f else keep))=iO ⟨rs,f⟩ keep:=by
  unfold iO
  simp only[Int.min_def]
  split<;>split<;>split<;>(try split)<;>omega
 have w1:IntKind.wrap .i64 (((rs.length:Nat):Int)-f)=((rs.length:Nat):Int)-f:=az (by omega) (by omega)
 simp (disch:=first|assumption|omega|(simp only[zL];omega)) only[F_eb,kX,hlo,Int.reduceEq,reduceIte,zU,zT,aa]
 rw[w1,az (by rw[e1];omega) (by rw[e1];omega),e1,sG hS (by omega) (by omega)]
 simp only[Ih,aa,C.toInt_int,C.toList_list,aw]
 rfl
theorem aW(hs:DkS ⟨up,⟨rs,f⟩,td⟩):dh [.bool up,.list (rs.map Rec.e),.int .i64 f,.list (td.map Word.e),.bool b]=some [.list ((if aU ⟨up,⟨rs,f⟩,td⟩ then ah ⟨rs,f⟩ b else []).map Trip.e)]:=by
 rw[q_ce]
 cases ho:aU ⟨up,⟨rs,f⟩,td⟩with
 | false=>simp (disch:=first|assumption|omega|(simp only[zL];omega)) only[F_ce,bx,ho,Int.reduceEq,reduceIte,zU,zT,aa];rfl
 | true =>
  have hd:=deskOk_iff.1 ho
  have hlg:LgOk ⟨rs,f⟩:=hd.lg
  simp (disch:=first|assumption|omega|(simp only[zL];omega)) only[F_ce,bx,ho,nO hlg.S (fun _=>⟨hlg.lo,hlg.hi⟩),if_true,Int.reduceEq,reduceIte,zU,zT,aa]
theorem nP(hd:DkOk ⟨up,⟨rs,f⟩,td⟩) :
  qK [.bool up,.list (rs.map Rec.e),.int .i64 f,.list (td.map Word.e),.int .i64 keep]=some (dfall ⟨up,⟨rs,f⟩,td⟩ keep).e:=by
 rw[q_di]
 have hS:=hd.S
 have ho:=deskOk_iff.2 hd
 have hlg:LgOk ⟨rs,f⟩:=hd.lg
 simp (disch:=first|assumption|omega|(simp only[zL];omega)) only[F_di,bx,ho,rz hlg,Log.e,Int.reduceEq,reduceIte,zU,zT,aa]
 rfl
theorem nQ(hl:LgOk ⟨rs,f⟩):qI [.list (rs.map Rec.e),.int .i64 f]=some (eM ⟨rs,f⟩).e:=by
 rw[q_dc]
 have hS:=hl.S
 have hlo:=logOk_iff.2 hl
 have hf:=sG hS (many:=((rs.length:Nat):Int)) (forced:=((rs.length:Nat):Int)) (by omega) (by omega)
 simp only[Int.toNat_natCast,List.take_length]at hf
 simp (disch:=first|assumption|omega|(simp only[zL];omega)) only[F_dc,kX,hlo,hf,Int.reduceEq,reduceIte,zU,zT,aa]
 rfl
theorem uN(hd:DkOk ⟨up,⟨rs,f⟩,td⟩):xp [.bool up,.list (rs.map Rec.e),.int .i64 f,.list (td.map Word.e)]=some (bv ⟨up,⟨rs,f⟩,td⟩).e:=by
 rw[q_cd]
 have hS:=hd.S
 have ho:=deskOk_iff.2 hd
 have hlg:LgOk ⟨rs,f⟩:=hd.lg
 simp (disch:=first|assumption|omega|(simp only[zL];omega)) only[F_cd,bx,ho,cG,nQ hlg,Log.e,Desk.e,Int.reduceEq,reduceIte,zU,zT,aa]
 cases up<;>rfl
theorem yd(hd:DkOk ⟨up,⟨rs,f⟩,td⟩):xx [.bool up,.list (rs.map Rec.e),.int .i64 f,.list (td.map Word.e)]=some (mv ⟨up,⟨rs,f⟩,td⟩).e:=by
 rw[q_de]
 have hS:=hd.S
 have ho:=deskOk_iff.2 hd
 simp (disch:=first|assumption|omega|(simp only[zL];omega)) only[F_de,bx,ho,cG,Desk.e,Int.reduceEq,reduceIte,zU,zT,aa]
 rfl
theorem iy(hs:DkS ⟨up,⟨rs,f⟩,td⟩)(hm:ms.length<=1099511627776) :
  hU [.bool up,.list (rs.map Rec.e),.int .i64 f,.list (td.map Word.e),.list (ms.map eI)] =
   some (if aU ⟨up,⟨rs,f⟩,td⟩ && aA (aV ⟨up,⟨rs,f⟩,td⟩ ms) then(aQ ⟨up,⟨rs,f⟩,td⟩ (aV ⟨up,⟨rs,f⟩,td⟩ ms)).e++[.bool (cA ⟨up,⟨rs,f⟩,td⟩ (aV ⟨up,⟨rs,f⟩,td⟩ ms))] else dz.e++[.bool false]):=by
 rw[q_cr]
 cases ho:aU ⟨up,⟨rs,f⟩,td⟩with
 | false=>simp (disch:=first|assumption|omega|(simp only[zL];omega)) only[F_cr,bx,ho,Int.reduceEq,reduceIte,zU,zT,aa];simp[Desk.e,dz]
 | true =>
  have hd:=deskOk_iff.1 ho
  have hlg:LgOk ⟨rs,f⟩:=hd.lg
  have hS:=hlg.S
  have hT:TrOk (ah ⟨rs,f⟩ false):=hd.trOk false
  have hl:=hT.len
  have eR:aV ⟨up,⟨rs,f⟩,td⟩ ms=⟨4,((ah ⟨rs,f⟩ false).length:Nat)+1,ms⟩:=rfl
  rw[eR]
  simp (disch:=first|assumption|omega|(simp only[zL];omega)) only[F_cr,bx,ho,cG,Desk.e,kK,az,kV,Bool.true_and,Int.reduceEq,reduceIte,zU,zT,aa]
  rcases Bool.eq_false_or_eq_true (aA ⟨4,((ah ⟨rs,f⟩ false).length:Nat)+1,ms⟩)with hr|hr
  ·simp (disch:=first|assumption|omega|(simp only[zL];omega)) only[hr,kY,Desk.e,if_true,Int.reduceEq,reduceIte,zU,zT,aa]
   simp
  ·simp[hr,dz]
theorem ye(hs:DkS ⟨up,⟨rs,f⟩,td⟩) :
  xj [.bool up,.list (rs.map Rec.e),.int .i64 f,.list (td.map Word.e),.int .i64 t] =
   some (if aU ⟨up,⟨rs,f⟩,td⟩ && in_ t 1 6 then(aQ ⟨up,⟨rs,f⟩,td⟩ ⟨6,t,[]⟩).e++[.bool (cA ⟨up,⟨rs,f⟩,td⟩ ⟨6,t,[]⟩)] else dz.e++[.bool false]):=by
 rw[q_dn]
 cases ho:aU ⟨up,⟨rs,f⟩,td⟩with
 | false=>simp (disch:=first|assumption|omega|(simp only[zL];omega)) only[F_dn,bx,ho,Int.reduceEq,reduceIte,zU,zT,aa];simp[Desk.e,dz]
 | true =>
  have hd:=deskOk_iff.1 ho
  simp (disch:=first|assumption|omega|(simp only[zL];omega)) only[F_dn,bx,ho,o7,cG,Desk.e,Bool.true_and,Int.reduceEq,reduceIte,zU,zT,aa]
  cases ht:in_ t 1 6 with
  | false=>simp[dz]
  | true =>
   have hw:=kY hd (k:=6) (t:=t) (ms:=[]) (by simp[aA,in_iff,in_iff.1 ht])
   simp only[List.map_nil,Desk.e]at hw
   simp (disch:=first|assumption|omega|(simp only[zL];omega)) only[hw,Int.reduceEq,reduceIte,zU,zT,aa]
   simp
theorem Jk(s:Int):w8 [.int .i64 m,.int .i64 s]=some [.bool (bh ⟨m,s⟩)]:=by
 rw[q_ew]
 simp (disch:=first|assumption|omega|(simp only[zL];omega)) only[F_ew,nL,bh,Int.reduceEq,reduceIte,zU,zT,aa]
 by_cases h0:s=0
 ·simp[h0]
 ·by_cases h1:s=1
  ·simp[h1]
  ·by_cases h2:s=2
   ·simp[h2]
   ·by_cases h3:s=3
    ·simp[h3]
    ·simp[h0,h1,h2,h3]
theorem Dn{hs:List Hold}(hr:0<=room/\room<=9)(ho:∀ h∈hs,bh h=true)(hl:hs.length<=100) :
  qy [.int .i64 room,.list (hs.map Hold.e)]=some [.int .i64 (free ⟨room,hs⟩)]:=by
 rw[q_bp];unfold F_bp
 simp only[List.length_map]
 have key:=aC (l:=hs) (F:=fun ps=>tI (hs.map Hold.e) ((hs.length:Nat):Int) ((aa ps 0).toInt) ((aa ps 1).toInt)) (enc:=fun i (s:Int)=>[.int .i64 s,.int .i64 i])
  (res:=fun xs _ s=>.ret [.int .i64 (s-(xs.map had).sum)]) (fun i s=>room-3*i<=s/\s<=room) (s:=room) (by simp) ?_ ?_
 ·have key:aI _ [C.int .i64 room,C.int .i64 0]=_:=key
  rw[key];rfl
 ·intro i x xs s hx ⟨h1,h2⟩
  have hi:=(List.getElem?_eq_some_iff.1 hx).1
  have hi':(i:Int)<(hs.length:Nat):=by omega
  have hm:=vk (ho x (List.mem_of_getElem? hx))
  simp (disch:=first|assumption|omega|(simp only[zL];omega)) only[tI,EI hx,Hold.e,au,hi',if_true,az,Int.reduceEq,reduceIte,zU,zT,aa]
  refine .inl ⟨s-had x,?_,by omega,by simp[Int.sub_sub]⟩
  unfold had
  by_cases e1:x.s=1
  ·simp[e1]
  ·by_cases e2:x.s=2<;>simp[e1,e2]
 ·intro s _
  have h:¬ ((hs.length:Int)<(hs.length:Nat)):=by omega
  simp (disch:=first|assumption|omega|(simp only[zL];omega)) only[tI,h,if_false,Int.reduceEq,reduceIte,zU,zT,aa]
  simp
theorem Bw{hs:List Hold}(ho:StOk ⟨room,hs⟩):xc [.int .i64 room,.list (hs.map Hold.e)]=some [.bool true]:=by
 rw[q_ez]
 have hl:hs.length=6:=ho.len
 have hc:xb [.list (hs.map Hold.e)]=some [.bool (hs.any fun x=>!bh x)]:=by
  have hi:xa [.list (hs.map Hold.e)]=some [.int .i64 (mQ (fun x=>!bh x) 0 hs)]:=by
   rw[q_ag];unfold F_ag
   simp only[List.length_map]
   rw[gQ (l:=hs) (fun x=>!bh x)]
   ·rfl
   ·intro i x hx
    have hi:=(List.getElem?_eq_some_iff.1 hx).1
    have hi':(i:Int)<(hs.length:Nat):=by omega
    have h1:w9 [.int .i64 x.m,.int .i64 x.s]=some [.bool (!bh x)]:=by rw[q_cx];simp (disch:=first|assumption|omega|(simp only[zL];omega)) only[F_cx,Jk,Int.reduceEq,reduceIte,zU,zT,aa]
    simp (disch:=first|assumption|omega|(simp only[zL];omega)) only[zj,EI hx,Hold.e,au,hi',if_true,h1,Int.reduceEq,reduceIte,zU,zT,aa]
    cases bh x<;>rfl
   ·have h:¬ ((hs.length:Int)<(hs.length:Nat)):=by omega
    simp (disch:=first|assumption|omega|(simp only[zL];omega)) only[zj,h,if_false,Int.reduceEq,reduceIte,zU,zT,aa]
  rw[q_af];simp (disch:=first|assumption|omega|(simp only[zL];omega)) only[F_af,hi,dZ,Bool.decide_eq_true,Int.reduceEq,reduceIte,zU,zT,aa]
 have e1:hs.any (fun x=>!bh x)=false:=by rw[List.any_eq_false];intro x hx;simp[ho.hold x hx]
 have e2:in_ room 0 9=true:=in_iff.2 ho.room
 have e3:((hs.length:Nat):Int)=6:=by omega
 have e4:free ⟨room,hs⟩>=0:=ho.free
 simp (disch:=first|assumption|omega|(simp only[zL];omega)) only[F_ez,nL,e2,e3,hc,e1,Dn ho.room ho.hold (show hs.length<=100 by omega),e4,decide_true,if_true,Int.reduceEq,reduceIte,zU,zT,aa]
theorem yg:wZ [.int .i64 room]=some ((if in_ room 0 9 then bY room else⟨0,[]⟩).e++[.bool (in_ room 0 9)]):=by
 rw[q_dv]
 simp (disch:=first|assumption|omega|(simp only[zL];omega)) only[F_dv,nL,Int.reduceEq,reduceIte,zU,zT,aa]
 cases in_ room 0 9<;>rfl
theorem nR{hs:List Hold}(ho:StOk ⟨room,hs⟩)(hL:ms.length<=1099511627776) :
  qz [.int .i64 room,.list (hs.map Hold.e),.int .i64 k,.int .i64 t,.list (ms.map eI)]=some [.bool (aA ⟨k,t,ms⟩ && may ⟨room,hs⟩ ⟨k,t,ms⟩)]:=by
 rw[q_df]
 have hl:hs.length=6:=ho.len
 simp (disch:=first|assumption|omega|(simp only[zL];omega)) only[F_df,Bw ho,kV,Int.reduceEq,reduceIte,zU,zT,aa]
 cases hr:aA ⟨k,t,ms⟩with
 | false=>rfl
 | true =>
  have ht:=cd hr
  simp only at ht
  simp (disch:=first|assumption|omega|(simp only[zL];omega)) only[az,Fi,Hold.e,may,dW,Dn ho.room ho.hold (show hs.length<=100 by omega),Bool.true_and,Int.reduceEq,reduceIte,zU,zT,aa]
  by_cases h1:k=1
  ·obtain⟨n,e,_⟩:=dA hr h1
   simp only at e;subst e
   simp only[h1,if_true,Fk,eI,Int.reduceEq,reduceIte,zU,zT,aa]
   by_cases h0:(hAt hs t).s=0<;>simp[h0,aw]
  ·by_cases h2:k=2
   ·simp[h2,aw]
   ·by_cases h3:k=3
    ·by_cases h0:(hAt hs t).s=1<;>simp[h3,h0,aw]
    ·simp[h1,h2,h3,aw]
theorem Fo(m:List Hold):(m.map Hold.e).all (ak [.int .i64,.int .i64])=true:=by simp[List.all_map,Hold.e,ak,fG,ep,Function.comp_def]
theorem CE{hs:List Hold}(hL:hs.length<=1099511627776):xd [.list (hs.map Hold.e)]=some [.list (hs.map Hold.e)]:=by
 rw[q_at]
 cases hs with
 | nil=>simp[F_at,dB,bt,cn]
 | cons a l =>
  have:((a::l).map Hold.e).isEmpty=false:=rfl
  simp only[F_at,this,aH,List.nil_append,Fo,fv]
  rw[bt (by simp[cn]at *;omega)]
  rfl
theorem Bx{hs:List Hold}(ho:StOk ⟨room,hs⟩)(hL:ms.length<=1099511627776) :
  xe [.int .i64 room,.list (hs.map Hold.e),.int .i64 k,.int .i64 t,.list (ms.map eI)] =
   some (if aA ⟨k,t,ms⟩ && may ⟨room,hs⟩ ⟨k,t,ms⟩ then(act ⟨room,hs⟩ ⟨k,t,ms⟩).e++[.bool true] else [.int .i64 0,.list [],.bool false]):=by
 rw[q_ev]
 have hl:hs.length=6:=ho.len
 have hl':hs.length<=1099511627776:=by omega
 simp (disch:=first|assumption|omega|(simp only[zL];omega)) only[F_ev,nR ho hL,CE hl',Int.reduceEq,reduceIte,zU,zT,aa]
 cases hr:aA ⟨k,t,ms⟩with
 | false=>simp
 | true =>
  cases hm:may ⟨room,hs⟩ ⟨k,t,ms⟩with
  | false=>simp
  | true =>
   have ht:=cd hr
   simp only at ht
   have hx:=sD (l:=hs) ht.1 (by omega)
   have st:∀ a b:Int,setRow 0 (hs.map Hold.e) (t-1).toNat [C.int .i64 a,C.int .i64 b]=(hs.set (t-1).toNat ⟨a,b⟩).map Hold.e:=fun a b=>cY hx rfl
   have st1:∀ a:Int,setRow 1 (hs.map Hold.e) (t-1).toNat [C.int .i64 a]=(hs.set (t-1).toNat ⟨(hAt hs t).m,a⟩).map Hold.e:=fun a=>cY hx rfl
   simp (disch:=first|assumption|omega|(simp only[zL];omega)) only[C9,az,act,io,st,st1,Bool.and_self,if_true,Int.reduceEq,reduceIte,zU,zT,aa]
   by_cases h1:k=1
   ·obtain⟨n,e,_⟩:=dA hr h1
    simp only at e;subst e
    simp only[h1,if_true,Fk,eI,Int.reduceEq,reduceIte,zU,zT,aa]
    simp[Stock.e,st]
   ·by_cases h2:k=2
    ·simp[h2,Stock.e]
    ·by_cases h3:k=3
     ·simp[h3,Stock.e]
     ·exfalso;simp[may,h1,h2,h3]at hm
theorem rA(hL:rs.length<=2000000)(hm:∀ r∈rs,r.m.length<=1099511627776) :
  qA [.int .i64 room,.list (rs.map Rec.e)]=some (((bM room rs).getD ⟨0,[]⟩).e++[.bool (bM room rs).isSome]):=by
 rw[q_eh]
 simp (disch:=first|assumption|omega|(simp only[zL];omega)) only[F_eh,yg,Stock.e,List.cons_append,Int.reduceEq,reduceIte,zU,zT,aa]
 have key:=aC (l:=rs) (F:=fun ps=>pC (rs.map Rec.e) ((aa ps 0).toBool) ((aa ps 1).toInt) ((aa ps 2).toInt) ((aa ps 3).toList)) (enc:=fun i (s:Option Stock)=>[.bool s.isSome,.int .i64 i,.int .i64 (s.getD ⟨0,[]⟩).room,.list ((s.getD ⟨0,[]⟩).hs.map Hold.e)])
  (res:=fun xs _ s=>match s with
   | some l=>.ret (((bP xs l).getD ⟨0,[]⟩).e++[.bool (bP xs l).isSome])
   | none=>.ret ((⟨0,[]⟩:Stock).e++[.bool false])) (fun _ s=>∀ l,s=some l->StOk l) (s:=if in_ room 0 9 then some (bY room) else none)
   (fun l e=>by
    cases hr:in_ room 0 9 with
    | false=>simp[hr]at e
    | true=>simp only[hr,if_true,Option.some.injEq]at e;rw[<-e];exact fA (in_iff.1 hr)) ?_ ?_
 ·cases hr:in_ room 0 9 with
  | false =>
   simp only[hr,Bool.false_eq_true,if_false]at key
   have key:aI _ [C.bool false,C.int .i64 0,C.int .i64 0,C.list []]=_:=key
   simp only[Bool.false_eq_true,if_false,List.map_nil]
   rw[key];simp[bM,hr,Stock.e]
  | true =>
   simp only[hr,if_true]at key
   have key:aI _ [C.bool true,C.int .i64 0,C.int .i64 (bY room).room,C.list ((bY room).hs.map Hold.e)]=_:=key
   simp only[if_true]
   rw[key];simp[bM,hr,Stock.e]
 ·intro i x xs s hx hs
  have hi:=(List.getElem?_eq_some_iff.1 hx).1
  have hi':(i:Int)<(rs.length:Nat):=by omega
  have hxm:=hm x (List.mem_of_getElem? hx)
  cases s with
  | none=>exact .inr ⟨_,rfl,rfl⟩
  | some l =>
   have hT:=hs l rfl
   have hT':StOk ⟨l.room,l.hs⟩:=hT
   simp (disch:=first|assumption|omega|(simp only[zL];omega)) only[pC,Option.isSome_some,Option.getD_some,kE hx,Rec.e,hi',if_true,Bx hT' hxm,Int.reduceEq,reduceIte,zU,zT,aa]
   rcases Bool.eq_false_or_eq_true (aA x && may l x)with h|h
   ·simp only[h,if_true]
    refine .inl ⟨some (act l x),?_,fun l' e=>?_,by simp[bP,h]⟩
    ·simp (disch:=first|assumption|omega|(simp only[zL];omega)) only[au,Option.isSome_some,Option.getD_some,Stock.e,List.cons_append,Int.reduceEq,reduceIte,zU,zT,aa]
    ·simp only[Option.some.injEq]at e;rw[<-e]
     simp only[Bool.and_eq_true]at h
     exact tW hT h.1 h.2
   ·simp only[h,Bool.false_eq_true,if_false]
    refine .inl ⟨none,?_,?_,?_⟩
    ·simp (disch:=first|assumption|omega|(simp only[zL];omega)) only[au,Option.isSome_none,Option.getD_none,Int.reduceEq,reduceIte,zU,zT,aa]
     try simp
    ·intro l' e;cases e
    ·simp[bP,h]
 ·intro s hs
  have h:¬ ((rs.length:Int)<(rs.length:Nat)):=by omega
  cases s with
  | none=>simp[pC,aa,Stock.e]
  | some l=>simp[pC,aa,bH,bP,Stock.e]
end
end Dx
namespace Dx
open Go
def hz:House:=⟨0,false,0,⟨[],0⟩⟩
section
variable {up b:Bool} {rs:List Rec} {f:Int} {td:List Word} {k h t m keep:Int} {ms:List Int} {id room:Int} {hs:List House} {ns:List Word}
theorem eT(hl:LgS ⟨rs,f⟩):hP [.int .i64 id,.bool up,.int .i64 room,.list (rs.map Rec.e),.int .i64 f]=some [.bool (cz ⟨id,up,room,⟨rs,f⟩⟩)]:=by
 rw[q_el]
 simp (disch:=first|assumption|omega|(simp only[zL];omega)) only[F_el,dd,kX,rA hl.l hl.m,Stock.e,List.cons_append,cz,Int.reduceEq,reduceIte,zU,zT,aa]
 cases in_ id 1 3<;>cases fX ⟨rs,f⟩<;>simp
theorem dE(hl:LgS ⟨rs,f⟩):jm [.int .i64 id,.bool up,.int .i64 room,.list (rs.map Rec.e),.int .i64 f]=some (House.e ⟨id,up,room,⟨rs,f⟩⟩):=by
 rw[q_ax]
 simp (disch:=first|assumption|omega|(simp only[zL];omega)) only[F_ax,iw,Int.reduceEq,reduceIte,zU,zT,aa]
 rfl
theorem Al(hl:LgOk ⟨rs,f⟩):m9 [.int .i64 id,.bool up,.int .i64 room,.list (rs.map Rec.e),.int .i64 f,.bool b]=some (ax ⟨id,up,room,⟨rs,f⟩⟩ b).e:=by
 rw[q_be]
 have hs:=hl.S
 have h1:(a9 ⟨rs,f⟩ b).length<=2000000:=by have:=hs.l;unfold a9;split<;>simp<;>omega
 have h2:∀ r∈a9 ⟨rs,f⟩ b,r.m.length<=1099511627776:=fun r hr=>hs.2 r (by unfold a9 at hr;split at hr;exact List.mem_of_mem_take hr;exact hr)
 simp (disch:=first|assumption|omega|(simp only[zL];omega)) only[F_be,Ak (fun _=>⟨hl.lo,hl.hi⟩),rA h1 h2,Stock.e,List.cons_append,ax,Int.reduceEq,reduceIte,zU,zT,aa]
def Ik(w:Word)(all forced:Int):Int:=if w.k=1/\all=0 then 5 else(oW (answer 0 w forced)).k
theorem yh(ho:HsOk ⟨id,up,room,⟨rs,f⟩⟩)(ht:1<=t/\t<=6) :
  xk [.int .i64 id,.bool up,.int .i64 room,.list (rs.map Rec.e),.int .i64 f,.int .i64 k,.int .i64 h,.int .i64 t,.int .i64 m] =
   some [.int .i64 (Ik ⟨k,h,t,m⟩ (dW (ax ⟨id,up,room,⟨rs,f⟩⟩ false) t) (dW (ax ⟨id,up,room,⟨rs,f⟩⟩ true) t))]:=by
 rw[q_au]
 have hlg:LgOk ⟨rs,f⟩:=ho.lg
 have lA:=(ho.stOk false).len
 have lF:=(ho.stOk true).len
 have j0:∀(st:Int) (c:Bool),aj (zn k st c)=some [.int .i64 (if c then 4 else if k=1/\st=3 then 5 else if k=2/\st=2 then 6 else if k=3/\st=3 then 7 else 0)]:=by
  intro st c
  unfold zn
  cases c with
  | true=>rfl
  | false =>
   simp only[aH,bn,Bool.false_eq_true,if_false]
   by_cases h1:k=1
   ·by_cases h3:st=3<;>simp[h1,h3]
   ·by_cases h2:k=2
    ·by_cases h3:st=2<;>simp[h2,h3]
    ·by_cases h3:k=3
     ·by_cases h4:st=3<;>simp[h3,h4]
     ·simp[h1,h2,h3]
 have j1:∀(st:Int) (c:Bool),aj (zo k st c)=some [.int .i64 (if c then 5 else if k=1/\(st=1\/st=2) then 4 else if k=1/\st=3 then 5 else if k=2/\st=2 then 6 else if k=3/\st=3 then 7 else 0)]:=by
  intro st c
  unfold zo
  cases c with
  | true=>rfl
  | false =>
   simp only[aH,bn,Bool.false_eq_true,if_false]
   by_cases h1:k=1
   ·by_cases h3:st=1
    ·simp[h1,h3,aa];rw[<-h1,j0];simp
    ·simp[h1,h3,aa];rw[<-h1,j0];simp[h1]
   ·simp only[h1,if_false,bc,aa,C.toBool_bool];rw[j0];simp[h1]
 simp (disch:=first|assumption|omega|(simp only[zL];omega)) only[F_au,Al hlg,Stock.e,Fi,az,Hold.e,dW,Int.reduceEq,reduceIte,zT,aa]
 simp only[bn]
 by_cases h1:k=1
 ·simp only[h1,if_true,bc,aa,C.toBool_bool]
  rw[<-h1,j1]
  unfold Ik answer oW
  by_cases h0:(hAt (ax ⟨id,up,room,⟨rs,f⟩⟩ false).hs t).s=0
  ·simp[h1,h0]
  ·generalize (hAt (ax ⟨id,up,room,⟨rs,f⟩⟩ true).hs t).s=st
   by_cases s1:st=1
   ·simp[h1,h0,s1]
   ·by_cases s2:st=2
    ·simp[h1,h0,s2]
    ·by_cases s3:st=3<;>simp[h1,h0,s1,s2,s3]
 ·simp only[h1,if_false,bc,aa,C.toBool_bool]
  rw[j1]
  unfold Ik answer oW
  generalize (hAt (ax ⟨id,up,room,⟨rs,f⟩⟩ true).hs t).s=st
  by_cases h2:k=2
  ·by_cases s2:st=2<;>simp[h2,s2]
  ·by_cases h3:k=3
   ·by_cases s3:st=3<;>simp[h3,s3]
   ·simp[h1,h2,h3]
theorem Do{id:Int}{w:Word}{st:Int}:(oW (answer 0 w st)).k=0↔answer id w st=none:=by
 unfold answer oW
 split
 ·simp
 ·split
  ·simp
  ·split
   ·simp
   ·split<;>simp
theorem Jl{id:Int}{w x:Word}{st:Int}(h:answer id w st=some x):x=⟨(oW (answer 0 w st)).k,id,w.t,0⟩:=by
 unfold answer oW at *
 split at h
 ·rename_i c;simp only[Option.some.injEq]at h;subst h;simp[c]
 ·rename_i c1
  split at h
  ·rename_i c;simp only[Option.some.injEq]at h;subst h;simp[c]
  ·rename_i c2
   split at h
   ·rename_i c;simp only[Option.some.injEq]at h;subst h;simp[c]
   ·rename_i c3
    split at h
    ·rename_i c;simp only[Option.some.injEq]at h;subst h;simp[c]
    ·cases h
theorem uO(ho:HsOk ⟨id,up,room,⟨rs,f⟩⟩) :
  xm [.int .i64 id,.bool up,.int .i64 room,.list (rs.map Rec.e),.int .i64 f,.int .i64 k,.int .i64 h,.int .i64 t,.int .i64 m] =
   some ((hhear ⟨id,up,room,⟨rs,f⟩⟩ ⟨k,h,t,m⟩).1.e++((oW (hhear ⟨id,up,room,⟨rs,f⟩⟩ ⟨k,h,t,m⟩).2).e++[.bool (hhear ⟨id,up,room,⟨rs,f⟩⟩ ⟨k,h,t,m⟩).2.isSome])):=by
 rw[q_cf]
 have hlg:LgOk ⟨rs,f⟩:=ho.lg
 have hS:=hlg.S
 have hok:cz ⟨id,up,room,⟨rs,f⟩⟩=true:=houseOk_iff.2 ho
 have hlo:fX ⟨rs,f⟩=true:=logOk_iff.2 hlg
 simp (disch:=first|assumption|omega|(simp only[zL];omega)) only[F_cf,eT,hok,dE,House.e,iG,iH,hhear,Int.reduceEq,reduceIte,zU,zT,aa]
 cases up with
 | false=>rfl
 | true =>
  cases hw:bg ⟨k,h,t,m⟩with
  | false=>rfl
  | true =>
   have wok:=wordOk_iff.1 hw
   have wt:=wok.t
   have wk:=wok.k
   simp only at wt wk
   simp only[aG,Bool.not_true,Bool.false_or]
   by_cases h4:k>=4
   ·have h3:k>3:=by omega
    simp[h4,h3,House.e,oW,Word.e]
   ·have h3:¬ k>3:=by omega
    by_cases e1:h=id
    ·subst e1
     have hms:(if k=1 then mE k h t m h true room (rs.map Rec.e) f [[C.int .i64 m]] else mE k h t m h true room (rs.map Rec.e) f [])=mE k h t m h true room (rs.map Rec.e) f ((bf ⟨k,h,t,m⟩).m.map eI):=by
      by_cases h1:k=1
      ·simp[h1,bf,eI]
      ·by_cases h2:k=2<;>simp[h1,h2,bf]
     have hr:=b8 wok
     have er:bf ⟨k,h,t,m⟩=⟨k,t,(bf ⟨k,h,t,m⟩).m⟩:=by
      by_cases h1:k=1
      ·simp[h1,bf]
      ·by_cases h2:k=2
       ·simp[h2,bf]
       ·have:k=3:=by omega
        simp[this,bf]
     have sA:=ho.stOk false
     have sA':StOk ⟨(ax ⟨h,true,room,⟨rs,f⟩⟩ false).room,(ax ⟨h,true,room,⟨rs,f⟩⟩ false).hs⟩:=sA
     have hml:=fb hr
     have hml':(bf ⟨k,h,t,m⟩).m.length<=1099511627776:=by omega
     have hmay:=nR (k:=k) (t:=t) sA' hml'
     have hadd:=vp (k:=k) (t:=t) hS hml'
     rw[<-er]at hmay hadd
     simp only[Df,hr,hlo,Bool.true_and,Bool.and_self,if_true]at hmay hadd
     have hans:=yh (k:=k) (h:=h) (m:=m) ho wt
     have hj:aj (mE k h t m h true room (rs.map Rec.e) f ((bf ⟨k,h,t,m⟩).m.map eI))=some ((if may (ax ⟨h,true,room,⟨rs,f⟩⟩ false) (bf ⟨k,h,t,m⟩)=true then((⟨h,true,room,cL ⟨rs,f⟩ (bf ⟨k,h,t,m⟩)⟩:House),(none:Option Word))
       else if k=1/\dW (ax ⟨h,true,room,⟨rs,f⟩⟩ false) t=0 then(⟨h,true,room,⟨rs,f⟩⟩,some ⟨5,h,t,0⟩)
       else(⟨h,true,room,⟨rs,f⟩⟩,answer h ⟨k,h,t,m⟩ (dW (ax ⟨h,true,room,⟨rs,f⟩⟩ true) t))).1.e++((oW (if may (ax ⟨h,true,room,⟨rs,f⟩⟩ false) (bf ⟨k,h,t,m⟩)=true then((⟨h,true,room,cL ⟨rs,f⟩ (bf ⟨k,h,t,m⟩)⟩:House),(none:Option Word))
       else if k=1/\dW (ax ⟨h,true,room,⟨rs,f⟩⟩ false) t=0 then(⟨h,true,room,⟨rs,f⟩⟩,some ⟨5,h,t,0⟩)
       else(⟨h,true,room,⟨rs,f⟩⟩,answer h ⟨k,h,t,m⟩ (dW (ax ⟨h,true,room,⟨rs,f⟩⟩ true) t))).2).e++[.bool (if may (ax ⟨h,true,room,⟨rs,f⟩⟩ false) (bf ⟨k,h,t,m⟩)=true then((⟨h,true,room,cL ⟨rs,f⟩ (bf ⟨k,h,t,m⟩)⟩:House),(none:Option Word))
       else if k=1/\dW (ax ⟨h,true,room,⟨rs,f⟩⟩ false) t=0 then(⟨h,true,room,⟨rs,f⟩⟩,some ⟨5,h,t,0⟩)
       else(⟨h,true,room,⟨rs,f⟩⟩,answer h ⟨k,h,t,m⟩ (dW (ax ⟨h,true,room,⟨rs,f⟩⟩ true) t))).2.isSome])):=by
      unfold mE
      simp (disch:=first|assumption|omega|(simp only[zL];omega)) only[Al hlg,Stock.e,hmay,hadd,hans,Int.reduceEq,reduceIte,zT,aa]
      cases may (ax ⟨h,true,room,⟨rs,f⟩⟩ false) (bf ⟨k,h,t,m⟩)with
      | true=>simp[House.e,zB,oW,Word.e]
      | false =>
       simp only[aH,bn,Bool.false_eq_true,if_false,Ik]
       by_cases c:k=1/\dW (ax ⟨h,true,room,⟨rs,f⟩⟩ false) t=0
       ·simp[c,House.e,oW,Word.e]
       ·simp only[c,if_false]
        cases ha:answer h ⟨k,h,t,m⟩ (dW (ax ⟨h,true,room,⟨rs,f⟩⟩ true) t)with
        | none =>
         have:=(Do (id:=h)).2 ha
         simp only[this,if_true]
         simp[House.e,oW,Word.e]
        | some x =>
         have h0:¬ (oW (answer 0 ⟨k,h,t,m⟩ (dW (ax ⟨h,true,room,⟨rs,f⟩⟩ true) t))).k=0:=fun e=>by
          rw[(Do (id:=h)).1 e]at ha;cases ha
         have hx:=Jl ha
         simp only[h0,if_false]
         subst hx
         simp[House.e,oW,Word.e]
     simp only[h4,if_false,if_true,hms,hj,h3,decide_false,bne_self_eq_false,Bool.or_self,Bool.false_eq_true]
     rfl
    ·simp[h4,h3,e1,House.e,oW,Word.e]
end
end Dx
namespace Dx
open Go
theorem kL{l:List House}{i:Int}(h1:1<=i)(h2:i<=l.length)(id:Int)(up:Bool)(room:Int)(rs:List Rec)(f:Int) :
  setRow 0 (l.map House.e) (i-1).toNat [.int .i64 id,.bool up,.int .i64 room,.list (rs.map Rec.e),.int .i64 f]=(l.set (i-1).toNat ⟨id,up,room,⟨rs,f⟩⟩).map House.e :=
 cY (vl h1 h2) rfl
section
variable {up b:Bool} {rs:List Rec} {f:Int} {td:List Word} {k h t m keep:Int} {ms:List Int} {id room:Int} {hs:List House} {ns:List Word}
theorem si(ho:HsOk ⟨id,up,room,⟨rs,f⟩⟩):xq [.int .i64 id,.bool up,.int .i64 room,.list (rs.map Rec.e),.int .i64 f]=some (bQ ⟨id,up,room,⟨rs,f⟩⟩).e:=by
 rw[q_by]
 have hlg:LgOk ⟨rs,f⟩:=ho.lg
 have hS:=hlg.S
 have hok:=houseOk_iff.2 ho
 simp (disch:=first|assumption|omega|(simp only[zL];omega)) only[F_by,eT,hok,dE,House.e,nQ hlg,Log.e,Int.reduceEq,reduceIte,zU,zT,aa]
 cases up<;>rfl
theorem uP(ho:HsOk ⟨id,up,room,⟨rs,f⟩⟩):xy [.int .i64 id,.bool up,.int .i64 room,.list (rs.map Rec.e),.int .i64 f]=some (nc ⟨id,up,room,⟨rs,f⟩⟩).e:=by
 rw[q_ch]
 have hlg:LgOk ⟨rs,f⟩:=ho.lg
 have hS:=hlg.S
 have hok:=houseOk_iff.2 ho
 simp (disch:=first|assumption|omega|(simp only[zL];omega)) only[F_ch,eT,hok,dE,House.e,Int.reduceEq,reduceIte,zU,zT,aa]
 rfl
theorem uQ(ho:HsOk ⟨id,up,room,⟨rs,f⟩⟩) :
  xu [.int .i64 id,.bool up,.int .i64 room,.list (rs.map Rec.e),.int .i64 f,.int .i64 keep]=some (hfall ⟨id,up,room,⟨rs,f⟩⟩ keep).e:=by
 rw[q_cz]
 have hlg:LgOk ⟨rs,f⟩:=ho.lg
 have hS:=hlg.S
 have hok:=houseOk_iff.2 ho
 simp (disch:=first|assumption|omega|(simp only[zL];omega)) only[F_cz,eT,hok,rz hlg,Log.e,Int.reduceEq,reduceIte,zU,zT,aa]
 rfl
theorem zC(hL:ns.length<=1000) :
  jn [.bool up,.list (rs.map Rec.e),.int .i64 f,.list (td.map Word.e),.list (hs.map House.e),.list (ns.map Word.e),.int .i64 k,.int .i64 h,.int .i64 t,.int .i64 m]=some (fM ⟨⟨up,⟨rs,f⟩,td⟩,hs,ns⟩ ⟨k,h,t,m⟩).e:=by
 rw[q_bq]
 simp (disch:=first|assumption|omega|(simp only[zL];omega)) only[F_bq,fM,Int.reduceEq,reduceIte,zU,zT,aa]
 by_cases hn:ns.length<14
 ·have h':((ns.length:Nat):Int)<14:=by omega
  have hc:ns.length+1<=1099511627776:=by omega
  simp[hn,h',Wd.e,Word.e,cn,hc]
 ·have h':¬ (((ns.length:Nat):Int)<14):=by omega
  simp[hn,h',Wd.e]
theorem Fp(ho:WOk ⟨⟨up,⟨rs,f⟩,td⟩,hs,ns⟩)(hx:WdOk ⟨k,h,t,m⟩) :
  xn [.bool up,.list (rs.map Rec.e),.int .i64 f,.list (td.map Word.e),.list (hs.map House.e),.list (ns.map Word.e),.int .i64 k,.int .i64 h,.int .i64 t,.int .i64 m] =
   some ((oW (aM ⟨⟨up,⟨rs,f⟩,td⟩,hs,ns⟩ ⟨k,h,t,m⟩).2).e++(.bool (aM ⟨⟨up,⟨rs,f⟩,td⟩,hs,ns⟩ ⟨k,h,t,m⟩).2.isSome::(aM ⟨⟨up,⟨rs,f⟩,td⟩,hs,ns⟩ ⟨k,h,t,m⟩).1.e)):=by
 rw[q_bk]
 have hd:DkOk ⟨up,⟨rs,f⟩,td⟩:=ho.dk
 have hl:hs.length=3:=ho.len
 have hh:=hx.h
 simp only at hh
 by_cases h4:k>=4
 ·simp (disch:=first|assumption|omega|(simp only[zL];omega)) only[F_bk,iH,Dm,aM,h4,if_true,decide_true,Desk.e,Int.reduceEq,reduceIte,zU,zT,aa]
  simp[Wd.e,oW,Word.e]
 ·have hho:=(ho.houseAt (i:=h) hh).2.1
  rw[bo]at hho
  simp only at hho
  have hho':HsOk ⟨(dr hs h).id,(dr hs h).up,(dr hs h).room,⟨(dr hs h).lg.rs,(dr hs h).lg.f⟩⟩:=hho
  have h2:h<=hs.length:=by omega
  have hset:=fun id up room rs f=>kL (l:=hs) hh.1 h2 id up room rs f
  simp (disch:=first|assumption|omega|(simp only[zL];omega)) only[F_bk,iH,aM,h4,if_false,decide_false,az,nK,House.e,uO,List.cons_append,Word.e,hset,mw,kf,eqD,List.set_set,bo,Int.reduceEq,reduceIte,zU,zT,aa]
  simp[Wd.e,setHouse]
theorem uR(ho:WOk ⟨⟨up,⟨rs,f⟩,td⟩,hs,ns⟩){i:Int} :
  xr [.bool up,.list (rs.map Rec.e),.int .i64 f,.list (td.map Word.e),.list (hs.map House.e),.list (ns.map Word.e),.int .i64 i]=some (dy ⟨⟨up,⟨rs,f⟩,td⟩,hs,ns⟩ i).e:=by
 rw[q_ab]
 have hd:DkOk ⟨up,⟨rs,f⟩,td⟩:=ho.dk
 have hl:hs.length=3:=ho.len
 by_cases h0:i=0
 ·subst h0
  simp (disch:=first|assumption|omega|(simp only[zL];omega)) only[Hx,dy,uN,Desk.e,Int.reduceEq,reduceIte,zU,zT,aa]
  simp[Wd.e]
 ·cases hi:in_ i 1 3 with
  | false=>simp (disch:=first|assumption|omega|(simp only[zL];omega)) only[Hx,dd,dy,h0,hi,if_false,Int.reduceEq,reduceIte,zU,zT,aa];simp[Wd.e]
  | true =>
   have hi':=in_iff.1 hi
   have hho:=(ho.houseAt (i:=i) hi').2.1
   rw[bo]at hho
   simp only at hho
   have hho':HsOk ⟨(dr hs i).id,(dr hs i).up,(dr hs i).room,⟨(dr hs i).lg.rs,(dr hs i).lg.f⟩⟩:=hho
   have h2:i<=hs.length:=by omega
   have hset:=fun id up room rs f=>kL (l:=hs) hi'.1 h2 id up room rs f
   simp (disch:=first|assumption|omega|(simp only[zL];omega)) only[Hx,dd,dy,h0,hi,if_false,if_true,az,nK,House.e,si,hset,mw,kf,eqD,List.set_set,bo,Int.reduceEq,reduceIte,zU,zT,aa]
   simp[Wd.e,setHouse]
theorem yi(ho:WOk ⟨⟨up,⟨rs,f⟩,td⟩,hs,ns⟩){i:Int} :
  xz [.bool up,.list (rs.map Rec.e),.int .i64 f,.list (td.map Word.e),.list (hs.map House.e),.list (ns.map Word.e),.int .i64 i]=some (cP ⟨⟨up,⟨rs,f⟩,td⟩,hs,ns⟩ ⟨9,i,0,[]⟩).e:=by
 rw[q_ad]
 have hd:DkOk ⟨up,⟨rs,f⟩,td⟩:=ho.dk
 have hl:hs.length=3:=ho.len
 by_cases h0:i=0
 ·subst h0
  have e0:in_ 0 0 3=true:=rfl
  simp (disch:=first|assumption|omega|(simp only[zL];omega)) only[HI,cP,e0,yd,Desk.e,Int.reduceEq,reduceIte,zU,zT,aa]
  simp[Wd.e]
 ·cases hi:in_ i 1 3 with
  | false =>
   have e0:in_ i 0 3=false:=by rw[in_false]at hi ⊢;omega
   simp (disch:=first|assumption|omega|(simp only[zL];omega)) only[HI,dd,cP,e0,h0,hi,if_false,Int.reduceEq,reduceIte,zU,zT,aa];simp[Wd.e]
  | true =>
   have hi':=in_iff.1 hi
   have e0:in_ i 0 3=true:=in_iff.2 (by omega)
   have hho:=(ho.houseAt (i:=i) hi').2.1
   rw[bo]at hho
   simp only at hho
   have hho':HsOk ⟨(dr hs i).id,(dr hs i).up,(dr hs i).room,⟨(dr hs i).lg.rs,(dr hs i).lg.f⟩⟩:=hho
   have h2:i<=hs.length:=by omega
   have hset:=fun id up room rs f=>kL (l:=hs) hi'.1 h2 id up room rs f
   simp (disch:=first|assumption|omega|(simp only[zL];omega)) only[HI,dd,cP,e0,h0,hi,if_false,if_true,az,nK,House.e,uP,hset,mw,kf,eqD,List.set_set,bo,Int.reduceEq,reduceIte,zU,zT,aa]
   simp[Wd.e,setHouse]
theorem i_do1(hd:DkOk ⟨up,⟨rs,f⟩,td⟩){k a:Int}{mc:List (List C)} :
  xt [.bool up,.list (rs.map Rec.e),.int .i64 f,.list (td.map Word.e),.int .i64 k,.int .i64 a,.int .i64 keep,.list mc]=some (dfall ⟨up,⟨rs,f⟩,td⟩ keep).e:=by
 rw[q_bw]
 simp (disch:=first|assumption|omega|(simp only[zL];omega)) only[F_bw,nP hd,Desk.e,Int.reduceEq,reduceIte,zU,zT,aa]
theorem i_do2(ho:HsOk ⟨id,up,room,⟨rs,f⟩⟩){k a:Int}{mc:List (List C)} :
  xv [.int .i64 id,.bool up,.int .i64 room,.list (rs.map Rec.e),.int .i64 f,.int .i64 k,.int .i64 a,.int .i64 keep,.list mc]=some (hfall ⟨id,up,room,⟨rs,f⟩⟩ keep).e:=by
 rw[q_br]
 simp (disch:=first|assumption|omega|(simp only[zL];omega)) only[F_br,uQ ho,House.e,Int.reduceEq,reduceIte,zU,zT,aa]
theorem yj(ho:WOk ⟨⟨up,⟨rs,f⟩,td⟩,hs,ns⟩){i:Int}{k a k' a':Int}{mc mc':List (List C)} :
  xw [.bool up,.list (rs.map Rec.e),.int .i64 f,.list (td.map Word.e),.list (hs.map House.e),.list (ns.map Word.e),.int .i64 i,.int .i64 k,.int .i64 a,.int .i64 keep,.list mc,.int .i64 k',.int .i64 a',.int .i64 keep,.list mc']=some (cP ⟨⟨up,⟨rs,f⟩,td⟩,hs,ns⟩ ⟨8,i,keep,[]⟩).e:=by
 rw[q_aa]
 have hd:DkOk ⟨up,⟨rs,f⟩,td⟩:=ho.dk
 have hl:hs.length=3:=ho.len
 by_cases h0:i=0
 ·subst h0
  have e0:in_ 0 0 3=true:=rfl
  simp (disch:=first|assumption|omega|(simp only[zL];omega)) only[HE,cP,e0,i_do1 hd,Desk.e,Int.reduceEq,reduceIte,zU,zT,aa]
  simp[Wd.e]
 ·cases hi:in_ i 1 3 with
  | false =>
   have e0:in_ i 0 3=false:=by rw[in_false]at hi ⊢;omega
   simp (disch:=first|assumption|omega|(simp only[zL];omega)) only[HE,dd,cP,e0,h0,hi,if_false,Int.reduceEq,reduceIte,zU,zT,aa];simp[Wd.e]
  | true =>
   have hi':=in_iff.1 hi
   have e0:in_ i 0 3=true:=in_iff.2 (by omega)
   have hho:=(ho.houseAt (i:=i) hi').2.1
   rw[bo]at hho
   simp only at hho
   have hho':HsOk ⟨(dr hs i).id,(dr hs i).up,(dr hs i).room,⟨(dr hs i).lg.rs,(dr hs i).lg.f⟩⟩:=hho
   have h2:i<=hs.length:=by omega
   have hset:=fun id up room rs f=>kL (l:=hs) hi'.1 h2 id up room rs f
   simp (disch:=first|assumption|omega|(simp only[zL];omega)) only[HE,dd,cP,e0,h0,hi,if_false,if_true,az,nK,House.e,i_do2 hho',hset,mw,kf,eqD,List.set_set,bo,Int.reduceEq,reduceIte,zU,zT,aa]
   simp[Wd.e,setHouse]
theorem By:tR []=some deskNew.e:=by rw[q_ei];rfl
end
end Dx
namespace Dx
open Go
section
variable {up b:Bool} {rs:List Rec} {f:Int} {td:List Word} {k h t m keep:Int} {ms:List Int} {id room:Int} {hs:List House} {ns:List Word}
theorem CF{r:List (List C)}{i:Nat}{x12 x13:Int}(hi:i<=100)(hm:ms.length<=3)(hL:td.length<=1099511627775)(h14:b=true->x13=mt x12){acc:List Word}(ha:acc.length<=300) :
  aI (fun ps=>pD up r f (td.map Word.e) ((i:Nat):Int) (ms.map eI) x12 x13 b ((ms.length:Nat):Int) ((aa ps 0).toInt) ((aa ps 1).toList)) [.int .i64 0,.list (acc.map Word.e)] =
   some (.jump [.int .i64 ((i+1:Nat):Int),.list ((acc++if b then ba td x12 ((i+1:Nat):Int) 1 ms else []).map Word.e)]):=by
 have key:=aC (l:=ms) (F:=fun ps=>pD up r f (td.map Word.e) ((i:Nat):Int) (ms.map eI) x12 x13 b ((ms.length:Nat):Int) ((aa ps 0).toInt) ((aa ps 1).toList)) (enc:=fun j (s:List Word)=>[.int .i64 j,.list (s.map Word.e)])
  (res:=fun xs j s=>.jump [.int .i64 ((i+1:Nat):Int),.list ((s++if b then ba td x12 ((i+1:Nat):Int) ((j+1:Nat):Int) xs else []).map Word.e)]) (fun j s=>s.length<=300+j) (s:=acc) (by omega) ?_ ?_
 ·have key:aI _ [C.int .i64 0,C.list (acc.map Word.e)]=_:=key
  rw[key];rfl
 ·intro j x xs s hx hs
  have hj:=(List.getElem?_eq_some_iff.1 hx).1
  have hj':(j:Int)<(ms.length:Nat):=by omega
  have e1:((j+1:Nat):Int)+1=((j+1+1:Nat):Int):=by omega
  have hc:s.length+1<=1099511627776:=by omega
  simp (disch:=first|assumption|omega|(simp only[zL];omega)) only[pD,fC hx,eI,au,hj',if_true,Dk,Int.reduceEq,reduceIte,zU,zT,aa]
  cases b with
  | false =>
   exact .inl ⟨s,by simp,by omega,by simp⟩
  | true =>
   have h13:=h14 rfl
   simp only[ba,fL,e1,if_true]
   rw[h13]
   by_cases h0:x=0
   ·simp only[h0,if_true,true_or,List.nil_append]
    exact .inl ⟨s,rfl,by omega,rfl⟩
   ·simp only[h0,if_false,false_or]
    cases hcn:td.contains ⟨mt x12,((j+1:Nat):Int),((i+1:Nat):Int),0⟩with
    | true =>
     simp only[aG,if_true,List.nil_append]
     exact .inl ⟨s,rfl,by omega,rfl⟩
    | false =>
     simp only[aH,Bool.false_eq_true,if_false]
     by_cases h1:x12=1
     ·subst h1
      simp only[if_true,aG]
      exact .inl ⟨s++[⟨1,((j+1:Nat):Int),((i+1:Nat):Int),x⟩],by simp[Word.e],by simp;omega,by simp⟩
     ·simp only[h1,if_false]
      simp only[aG]
      exact .inl ⟨s++[⟨x12,((j+1:Nat):Int),((i+1:Nat):Int),0⟩],by simp[Word.e],by simp;omega,by simp⟩
 ·intro s hs
  have h:¬ ((ms.length:Int)<(ms.length:Nat)):=by omega
  simp (disch:=first|assumption|omega|(simp only[zL];omega)) only[pD,h,if_false,au,Int.reduceEq,reduceIte,zU,zT,aa]
  cases b<;>simp[upD,ba]
theorem Am(hd:DkOk ⟨up,⟨rs,f⟩,td⟩):qG [.bool up,.list (rs.map Rec.e),.int .i64 f,.list (td.map Word.e)]=some [.list ((aN ⟨up,⟨rs,f⟩,td⟩).map Word.e)]:=by
 rw[q_bl]
 have hS:=hd.lg.S
 have hS':LgS ⟨rs,f⟩:=hS
 have h1:0<=f:=hd.lg.lo
 have h2:f<=rs.length:=hd.lg.hi
 have hT:TrOk (ah ⟨rs,f⟩ true):=hd.trOk true
 have htl:td.length<=1099511627775:=by have:=hd.tdlen;simp only at this;omega
 cases up with
 | false=>simp[F_bl,aN]
 | true =>
  simp (disch:=first|assumption|omega|(simp only[zL];omega)) only[F_bl,nO hS' (fun _=>⟨h1,h2⟩),Int.reduceEq,reduceIte,zU,zT,aa]
  have ed:aN ⟨true,⟨rs,f⟩,td⟩=cy td 1 (ah ⟨rs,f⟩ true):=rfl
  rw[ed]
  generalize ah ⟨rs,f⟩ true=l at hT
  have hl6:=hT.len
  have key:=aC (l:=l) (F:=fun ps=>tK true (rs.map Rec.e) f (td.map Word.e) (l.map Trip.e) ((l.length:Nat):Int) ((aa ps 0).toInt) ((aa ps 1).toList)) (enc:=fun j (s:List Word)=>[.int .i64 j,.list (s.map Word.e)])
   (res:=fun xs j s=>.ret [.list ((s++cy td ((j+1:Nat):Int) xs).map Word.e)]) (fun j s=>s.length<=3*j) (s:=[]) (by simp) ?_ ?_
  ·have key:aI _ [C.int .i64 0,C.list []]=_:=key
   rw[key];rfl
  ·intro j x xs s hx hs
   have hj:=(List.getElem?_eq_some_iff.1 hx).1
   have hj':(j:Int)<(l.length:Nat):=by omega
   have hxo:=tripOk_iff.1 (hT.ok x (List.mem_of_getElem? hx))
   have hm3:=aT hxo.1
   have e1:((j+1:Nat):Int)+1=((j+1+1:Nat):Int):=by omega
   obtain⟨hx1,hx2⟩:=hxo.2
   simp (disch:=first|assumption|omega|(simp only[zL];omega)) only[tK,cX hx,Trip.e,hj',if_true,Int.reduceEq,reduceIte,zU,zT,aa]
   rw[CF (hi:=by omega) (hm:=by omega) (hL:=htl) (ha:=by omega)]
   ·refine .inl ⟨s++(if(([1,2,3]:List Int).any fun k=>(x.s:Int)==k) then ba td (ic [(1,1),(2,2),(3,3)] x.s) ((j+1:Nat):Int) 1 x.m else []),rfl,?_,?_⟩
    ·rw[List.length_append]
     have:=eD td (ic [(1,1),(2,2),(3,3)] x.s) ((j+1:Nat):Int) x.m 1
     split
     ·omega
     ·simp;omega
    ·simp only[cy,e1,List.append_assoc]
     have:(if(([1,2,3]:List Int).any fun k=>(x.s:Int)==k) then ba td (ic [(1,1),(2,2),(3,3)] x.s) ((j+1:Nat):Int) 1 x.m else [])=if x.s>3 then [] else ba td x.s ((j+1:Nat):Int) 1 x.m:=by
      have:x.s=1\/x.s=2\/x.s=3\/x.s=4\/x.s=5:=by omega
      rcases this with e|e|e|e|e<;>rw[e]<;>simp[ic]
     rw[this]
   ·intro hb
    have:x.s=1\/x.s=2\/x.s=3\/x.s=4\/x.s=5:=by omega
    rcases this with e|e|e|e|e<;>rw[e]at hb ⊢<;>simp[ic,mt]at hb ⊢
  ·intro s hs
   have h:¬ ((l.length:Int)<(l.length:Nat)):=by omega
   simp (disch:=first|assumption|omega|(simp only[zL];omega)) only[tK,h,if_false,Int.reduceEq,reduceIte,zU,zT,aa]
   simp[cy]
theorem dQ(hl:DkS ⟨up,⟨rs,f⟩,td⟩):jq [.bool up,.list (rs.map Rec.e),.int .i64 f,.list (td.map Word.e)]=some [.list ((if aU ⟨up,⟨rs,f⟩,td⟩ then aN ⟨up,⟨rs,f⟩,td⟩ else []).map Word.e)]:=by
 rw[q_co]
 cases ho:aU ⟨up,⟨rs,f⟩,td⟩with
 | false=>simp (disch:=first|assumption|omega|(simp only[zL];omega)) only[F_co,bx,ho,Int.reduceEq,reduceIte,zU,zT,aa];rfl
 | true =>
  have hd:=deskOk_iff.1 ho
  simp (disch:=first|assumption|omega|(simp only[zL];omega)) only[F_co,bx,ho,Am hd,if_true,Int.reduceEq,reduceIte,zU,zT,aa]
end
end Dx
namespace Dx
open Go
section
variable {up b:Bool} {rs:List Rec} {f:Int} {td:List Word} {k h t m keep:Int} {ms:List Int} {id room:Int} {hs:List House} {ns:List Word}
theorem i_net(ho:WOk ⟨⟨up,⟨rs,f⟩,td⟩,hs,ns⟩){k a b:Int}{mc:List (List C)}(hk:k=4\/k=5\/k=6) :
  xo [.bool up,.list (rs.map Rec.e),.int .i64 f,.list (td.map Word.e),.list (hs.map House.e),.list (ns.map Word.e),.int .i64 k,.int .i64 a,.int .i64 b,.list mc]=some (jS ⟨⟨up,⟨rs,f⟩,td⟩,hs,ns⟩ ⟨k,a,b,ms⟩).e:=by
 rw[q_ct]
 have hnl:ns.length<=14:=ho.nlen
 simp (disch:=first|assumption|omega|(simp only[zL];omega)) only[F_ct,nL,az,Int.reduceEq,reduceIte,zU,zT,aa]
 cases hi:in_ a 0 ((ns.length:Nat)-1)with
 | false =>
  have hn:(if 0<=a then ns[a.toNat]? else none)=none:=by
   rw[in_false]at hi
   split
   ·rw[List.getElem?_eq_none];omega
   ·rfl
  unfold jS
  simp only[hn,aH,aG,Bool.not_false,aw]
  rfl
 | true =>
  have hi:=in_iff.1 hi
  have hlt:a.toNat<ns.length:=by omega
  have hx:ns[a.toNat]?=some ns[a.toNat]:=by simp
  have hn:(if 0<=a then ns[a.toNat]? else none)=some ns[a.toNat]:=by rw[if_pos hi.1,hx]
  have hxo:=ho.ns _ (List.getElem_mem hlt)
  have hrow:∀ f:List C->Option Out,aE (.list (ns.map Word.e)) (.int .i64 a) [.int .i64,.int .i64,.int .i64,.int .i64] f=f (ns[a.toNat]).e:=fun f=>db hi.1 hx rfl
  have hdel:qV [.list (ns.map Word.e),.int .i64 a,.int .i64 (a+1)]=some [.list ((ns.eraseIdx a.toNat).map Word.e)]:=by
   have hc:(decide (0<=a) && (decide (a<a+1) && decide (a+1<=((ns.map Word.e).length:Nat))))=true:=by
    simp only[Bool.and_eq_true,decide_eq_true_eq,List.length_map];omega
   unfold qV
   simp only[hc]
   have e1:(a+1).toNat=a.toNat+1:=by omega
   rw[e1,List.eraseIdx_eq_take_drop_succ,List.map_append,List.map_take,List.map_drop]
  have hd:decide (0<=a) && decide (a<((ns.length:Nat):Int))=true:=by simp;omega
  have hto:=ho.take a
  unfold jS
  simp only[hn]
  generalize hxx:ns[a.toNat]=x at hrow hxo
  have hsn:jn [.bool up,.list (rs.map Rec.e),.int .i64 f,.list (td.map Word.e),.list (hs.map House.e),.list (ns.map Word.e),.int .i64 x.k,.int .i64 x.h,.int .i64 x.t,.int .i64 x.m]=some (fM ⟨⟨up,⟨rs,f⟩,td⟩,hs,ns⟩ x).e:=zC (by omega)
  have hto':WOk ⟨⟨up,⟨rs,f⟩,td⟩,hs,ns.eraseIdx a.toNat⟩:=hto
  have hh:=hto'.hear hxo
  have hhe:=Fp (k:=x.k) (h:=x.h) (t:=x.t) (m:=x.m) hto' hxo
  have etk:dV ⟨⟨up,⟨rs,f⟩,td⟩,hs,ns⟩ a=⟨⟨up,⟨rs,f⟩,td⟩,hs,ns.eraseIdx a.toNat⟩:=rfl
  simp only[etk]
  have hw:IntKind.wrap .i64 (a+1)=a+1:=az (by omega) (by omega)
  rcases hk with e|e|e
  ·subst e
   simp (disch:=first|assumption|omega|(simp only[zL];omega)) only[tN,hrow,hd,Word.e,Int.reduceEq,reduceIte,zU,zT,aa]
   rw[hw,hdel]
   simp only[cd_l,aa,C.toList_list]
   rw[hhe]
   have ex:(⟨x.k,x.h,x.t,x.m⟩:Word)=x:=rfl
   rw[ex]
   generalize aM (⟨⟨up,⟨rs,f⟩,td⟩,hs,ns.eraseIdx a.toNat⟩:Wd) x=q at hh ⊢
   obtain⟨q1,q2⟩:=q
   cases q2 with
   | none =>
    simp only[oW,Word.e,Wd.e,List.cons_append,List.nil_append,Option.isSome_none]
    rw[bO rfl]
    rfl
   | some y =>
    have hq:WOk q1:=hh.1
    have hql:=hq.nlen
    have hsn2:jn [.bool q1.dk.up,.list (q1.dk.lg.rs.map Rec.e),.int .i64 q1.dk.lg.f,.list (q1.dk.td.map Word.e),.list (q1.hs.map House.e),.list (q1.ns.map Word.e),.int .i64 y.k,.int .i64 y.h,.int .i64 y.t,.int .i64 y.m]=some (fM q1 y).e:=zC (ns:=q1.ns) (by omega)
    simp only[oW,Word.e,Wd.e,List.cons_append,List.nil_append,Option.isSome_some,Option.getD_some]
    rw[bO rfl]
    simp only[aa,C.toBool_bool,C.toList_list,C.toInt_int,aG]
    rw[hsn2]
    simp only[Wd.e]
    rw[bO rfl]
    rfl
  ·subst e
   simp (disch:=first|assumption|omega|(simp only[zL];omega)) only[tN,hrow,hd,Word.e,Int.reduceEq,reduceIte,zU,zT,aa]
   rw[hw,hdel]
   rfl
  ·subst e
   simp (disch:=first|assumption|omega|(simp only[zL];omega)) only[tN,hrow,hd,Word.e,Int.reduceEq,reduceIte,zU,zT,aa]
   rw[hsn]
   simp only[Wd.e]
   rw[bO rfl]
   rfl
theorem tY{l:List Word}{i:Int}{x:Word}(h0:0<=i)(h:l[i.toNat]?=some x){kk:IntKind}{f:List C->Option Out}:aE (.list (l.map Word.e)) (.int kk i) [.int .i64,.int .i64,.int .i64,.int .i64] f=f x.e:=db h0 h rfl
theorem rB{d:Desk}{r:Rec}(h:cA d r=false):aQ d r=d:=by
 unfold cA at h
 unfold aQ
 split
 ·rename_i hc
  simp only[Bool.and_eq_true]at hc
  simp only[hc.1,hc.2,Bool.true_and]at h
  have:d.lg.rs.length>=40:=by simpa [nb] using h
  simp[cL,this]
 ·rfl
theorem i_do(ho:WOk ⟨⟨up,⟨rs,f⟩,td⟩,hs,ns⟩){k a b:Int}(hm:ms.length<=1099511627776) :
  tO [.bool up,.list (rs.map Rec.e),.int .i64 f,.list (td.map Word.e),.list (hs.map House.e),.list (ns.map Word.e),.int .i64 k,.int .i64 a,.int .i64 b,.list (ms.map eI)]=some (wdo ⟨⟨up,⟨rs,f⟩,td⟩,hs,ns⟩ ⟨k,a,b,ms⟩).e:=by
 rw[q_dg]
 have hd:DkOk ⟨up,⟨rs,f⟩,td⟩:=ho.dk
 have hdS:DkS ⟨up,⟨rs,f⟩,td⟩:=hd.S
 have hdo:=deskOk_iff.2 hd
 have hnl:ns.length<=14:=ho.nlen
 unfold F_dg
 by_cases h1:k=1
 ·subst h1
  simp only[BEq.rfl,aG,iy hdS hm,hdo,Bool.true_and]
  have ew:wdo ⟨⟨up,⟨rs,f⟩,td⟩,hs,ns⟩ ⟨1,a,b,ms⟩=⟨dx ⟨up,⟨rs,f⟩,td⟩ ms,hs,ns⟩:=rfl
  rw[ew]
  unfold dx
  cases hr:aA (aV ⟨up,⟨rs,f⟩,td⟩ ms)with
  | false=>rfl
  | true =>
   simp only[if_true]
   cases hb:cA ⟨up,⟨rs,f⟩,td⟩ (aV ⟨up,⟨rs,f⟩,td⟩ ms)with
   | false=>rw[rB hb];rfl
   | true=>rfl
 by_cases h2:k=2
 ·subst h2
  simp only[Int.reduceBEq,aH,aG,ye hdS,hdo,Bool.true_and]
  have ew:wdo ⟨⟨up,⟨rs,f⟩,td⟩,hs,ns⟩ ⟨2,a,b,ms⟩=⟨mu ⟨up,⟨rs,f⟩,td⟩ a,hs,ns⟩:=rfl
  rw[ew]
  unfold mu
  cases hr:in_ a 1 6 with
  | false=>rfl
  | true =>
   simp only[if_true]
   cases hb:cA ⟨up,⟨rs,f⟩,td⟩ ⟨6,a,[]⟩with
   | false=>rw[rB hb];rfl
   | true=>rfl
 by_cases h3:k=3
 ·subst h3
  have hwl:(aN ⟨up,⟨rs,f⟩,td⟩).length<=18:=gH hd
  simp (disch:=first|assumption|omega|(simp only[zL];omega)) only[Int.reduceBEq,Am hd,nL,az,Int.reduceEq,reduceIte,zU,zT,aa]
  have ew:wdo ⟨⟨up,⟨rs,f⟩,td⟩,hs,ns⟩ ⟨3,a,b,ms⟩=iQ ⟨⟨up,⟨rs,f⟩,td⟩,hs,ns⟩ ⟨3,a,b,ms⟩:=rfl
  rw[ew]
  unfold iQ
  simp only[Int.reduceEq,if_false,if_true]
  generalize aN ⟨up,⟨rs,f⟩,td⟩=l at hwl
  cases hi:in_ a 0 ((l.length:Nat)-1)with
  | false =>
   have hn:(if 0<=a then l[a.toNat]? else none)=none:=by
    rw[in_false]at hi
    split
    ·rw[List.getElem?_eq_none];omega
    ·rfl
   rw[hn];rfl
  | true =>
   have hi:=in_iff.1 hi
   have hlt:a.toNat<l.length:=by omega
   have hx:l[a.toNat]?=some l[a.toNat]:=by simp
   have hn:(if 0<=a then l[a.toNat]? else none)=some l[a.toNat]:=by rw[if_pos hi.1,hx]
   rw[hn]
   simp only[aG]
   rw[tY hi.1 hx]
   generalize l[a.toNat]=x
   simp only[Word.e,aa,C.toInt_int]
   have hsn:jn [.bool up,.list (rs.map Rec.e),.int .i64 f,.list (td.map Word.e),.list (hs.map House.e),.list (ns.map Word.e),.int .i64 x.k,.int .i64 x.h,.int .i64 x.t,.int .i64 x.m]=some (fM ⟨⟨up,⟨rs,f⟩,td⟩,hs,ns⟩ x).e:=zC (by omega)
   rw[hsn]
   simp only[Wd.e]
   rw[bO rfl]
   rfl
 have e1:(k==1)=false:=by simpa using h1
 have e2:(k==2)=false:=by simpa using h2
 have e3:(k==3)=false:=by simpa using h3
 have ew:wdo ⟨⟨up,⟨rs,f⟩,td⟩,hs,ns⟩ ⟨k,a,b,ms⟩=if k=4\/k=5\/k=6 then jS ⟨⟨up,⟨rs,f⟩,td⟩,hs,ns⟩ ⟨k,a,b,ms⟩ else if k=7\/k=8\/k=9 then cP ⟨⟨up,⟨rs,f⟩,td⟩,hs,ns⟩ ⟨k,a,b,ms⟩ else⟨⟨up,⟨rs,f⟩,td⟩,hs,ns⟩:=by
  unfold wdo;simp only[h1,h2,h3,false_or,if_false]
 rw[ew]
 simp only[e1,e2,e3,aH]
 by_cases h4:k=4\/k=5\/k=6
 ·rw[if_pos h4]
  have hn:=i_net (ms:=ms) ho (k:=k) (a:=a) (b:=b) (mc:=ms.map eI) h4
  have:bi (ae (k==4) (some (.jump [.bool true])) (ae (k==5) (some (.jump [.bool true])) (some (.jump [.bool (k==6)])))) (fun ps=>pE up (rs.map Rec.e) f (td.map Word.e) (hs.map House.e) (ns.map Word.e) k a b (ms.map eI) (aa ps 0).toBool) =
    pE up (rs.map Rec.e) f (td.map Word.e) (hs.map House.e) (ns.map Word.e) k a b (ms.map eI) true:=by
   rcases h4 with e|e|e<;>subst e<;>rfl
  rw[this]
  unfold pE
  simp only[aG]
  rw[hn]
  simp only[Wd.e]
  rw[bO rfl]
  rfl
 ·rw[if_neg h4]
  simp only[not_or]at h4
  have f4:(k==4)=false:=by simpa using h4.1
  have f5:(k==5)=false:=by simpa using h4.2.1
  have f6:(k==6)=false:=by simpa using h4.2.2
  simp only[f4,f5,f6,aH,bc,aa,C.toBool_bool]
  unfold pE
  simp only[aH]
  by_cases h7:k=7
  ·subst h7
   have hn:cP ⟨⟨up,⟨rs,f⟩,td⟩,hs,ns⟩ ⟨7,a,b,ms⟩=dy ⟨⟨up,⟨rs,f⟩,td⟩,hs,ns⟩ a:=by
    unfold cP dy
    cases hi:in_ a 0 3 with
    | true=>simp
    | false =>
     rw[in_false]at hi
     have h0:a≠0:=by omega
     have h1:in_ a 1 3=false:=by rw[in_false];omega
     simp[h0,h1]
   simp only[BEq.rfl,aG,uR ho,Int.reduceEq,true_or,if_true,hn]
   simp only[Wd.e]
   rw[bO rfl]
   rfl
  by_cases h8:k=8
  ·subst h8
   have hn:cP ⟨⟨up,⟨rs,f⟩,td⟩,hs,ns⟩ ⟨8,a,b,ms⟩=cP ⟨⟨up,⟨rs,f⟩,td⟩,hs,ns⟩ ⟨8,a,b,[]⟩:=rfl
   simp only[Int.reduceBEq,aH,aG,yj ho,Int.reduceEq,true_or,or_true,if_true,hn]
   simp only[Wd.e]
   rw[bO rfl]
   rfl
  by_cases h9:k=9
  ·subst h9
   have hn:cP ⟨⟨up,⟨rs,f⟩,td⟩,hs,ns⟩ ⟨9,a,b,ms⟩=cP ⟨⟨up,⟨rs,f⟩,td⟩,hs,ns⟩ ⟨9,a,0,[]⟩:=rfl
   simp only[Int.reduceBEq,aH,aG,yi ho,Int.reduceEq,or_true,if_true,hn]
   simp only[Wd.e]
   rw[bO rfl]
   rfl
  have g7:(k==7)=false:=by simpa using h7
  have g8:(k==8)=false:=by simpa using h8
  have g9:(k==9)=false:=by simpa using h9
  simp only[g7,g8,g9,aH,h7,h8,h9,or_false,if_false,aw]
  rfl
theorem i_do'{w:Wd}(ho:WOk w){e:Ev}(hm:e.m.length<=1099511627776) :
  tO [.bool w.dk.up,.list (w.dk.lg.rs.map Rec.e),.int .i64 w.dk.lg.f,.list (w.dk.td.map Word.e),.list (w.hs.map House.e),.list (w.ns.map Word.e),.int .i64 e.k,.int .i64 e.a,.int .i64 e.b,.list (e.m.map eI)]=some (wdo w e).e :=
 i_do (up:=w.dk.up) (rs:=w.dk.lg.rs) (f:=w.dk.lg.f) (td:=w.dk.td) (hs:=w.hs) (ns:=w.ns) ho hm
end
end Dx
namespace Dx
open Go
theorem pL{α:Type}[DecidableEq α]{F:List C->Option Out}{a b:List α}(hl:a.length=b.length)
  (hs:∀(i:Nat) (x y:α),a[i]?=some x->b[i]?=some y->F [.int .i64 (i:Nat)]=if x=y then some (.jump [.int .i64 ((i+1:Nat):Int)]) else some (.up (.ret [.bool false])))
  (hf:F [.int .i64 ((a.length:Nat):Int)]=some (.up (.ret [.bool true]))):aI F [.int .i64 0]=some (.ret [.bool (decide (a=b))]):=by
 have key:=aC (l:=a) (F:=F) (enc:=fun i (_:Unit)=>[.int .i64 i]) (res:=fun xs i _=>.ret [.bool (decide (xs=b.drop i))]) (fun _ _=>True) (s:=()) trivial ?_ ?_
 ·have key:aI _ [C.int .i64 0]=_:=key
  rw[key];rfl
 ·intro i x xs _ hx _
  have hi:=(List.getElem?_eq_some_iff.1 hx).1
  have hb:i<b.length:=by omega
  have hy:b[i]?=some b[i]:=by simp[hb]
  have:=hs i x b[i] hx hy
  have hdr:=List.drop_eq_getElem_cons hb
  by_cases e:x=b[i]
  ·rw[if_pos e]at this
   exact .inl ⟨(),this,trivial,by simp only[hdr,List.cons.injEq,e,true_and,false_and,decide_false]⟩
  ·rw[if_neg e]at this
   exact .inr ⟨_,this,by simp only[hdr,List.cons.injEq,e,true_and,false_and,decide_false]⟩
 ·intro _ _
  rw[hf,List.drop_of_length_le (by omega)]
  simp
theorem An(a b:Int):(a==b)=decide (a=b):=by by_cases h:a=b<;>simp[h]
theorem Dp(a b:Int):(a != b)=!decide (a=b):=by by_cases h:a=b<;>simp[h]
section
variable {a b:List Int} {up up':Bool} {rs rs':List Rec} {f f':Int} {td td':List Word} {k k' t t' id id' room room' h m:Int} {hs hs':List House} {ns ns':List Word}
theorem tZ(ha:a.length<=1099511627776):jo [.list (a.map eI),.list (b.map eI)]=some [.bool (decide (a=b))]:=by
 rw[q_gd];unfold F_gd
 simp only[List.length_map]
 by_cases hl:a.length=b.length
 ·have e:(((a.length:Nat):Int) != ((b.length:Nat):Int))=false:=by simp[hl]
  simp only[e,aH]
  rw[pL hl]
  ·rfl
  ·intro i x y hx hy
   have hi:=(List.getElem?_eq_some_iff.1 hx).1
   have hi':(i:Int)<(a.length:Nat):=by omega
   simp (disch:=first|assumption|omega|(simp only[zL];omega)) only[zu,fC hx,fC hy,eI,au,hi',if_true,Int.reduceEq,reduceIte,zU,zT,aa]
   try (by_cases e:x=y<;>simp[e])
  ·have h:¬ ((a.length:Int)<(a.length:Nat)):=by omega
   simp (disch:=first|assumption|omega|(simp only[zL];omega)) only[zu,h,if_false,Int.reduceEq,reduceIte,zU,zT,aa]
 ·have e:(((a.length:Nat):Int) != ((b.length:Nat):Int))=true:=by simp;omega
  have:a≠b:=fun h=>hl (by rw[h])
  simp[e,this]
theorem n_Rec{r r':Rec}(hr:r.m.length<=1099511627776):xE [.int .i64 r.k,.int .i64 r.t,.list (r.m.map eI),.int .i64 r'.k,.int .i64 r'.t,.list (r'.m.map eI)]=some [.bool (decide (r=r'))]:=by
 rw[q_gi]
 obtain⟨k,t,m⟩:=r
 obtain⟨k',t',m'⟩:=r'
 simp (disch:=first|assumption|omega|(simp only[zL];omega)) only[F_gi,tZ,Int.reduceEq,reduceIte,zU,zT,aa]
 by_cases e1:k=k'<;>by_cases e2:t=t'<;>simp[e1,e2]
theorem zD(hr:rs.length<=1099511627776)(hm:∀ r∈rs,r.m.length<=1099511627776):jp [.list (rs.map Rec.e),.list (rs'.map Rec.e)]=some [.bool (decide (rs=rs'))]:=by
 rw[q_fs];unfold F_fs
 simp only[List.length_map]
 by_cases hl:rs.length=rs'.length
 ·have e:(((rs.length:Nat):Int) != ((rs'.length:Nat):Int))=false:=by simp[hl]
  simp only[e,aH]
  rw[pL hl]
  ·rfl
  ·intro i x y hx hy
   have hi:=(List.getElem?_eq_some_iff.1 hx).1
   have hi':(i:Int)<(rs.length:Nat):=by omega
   have hxm:=hm x (List.mem_of_getElem? hx)
   simp (disch:=first|assumption|omega|(simp only[zL];omega)) only[zv,kE hx,kE hy,Rec.e,au,hi',if_true,n_Rec,Int.reduceEq,reduceIte,zU,zT,aa]
   try (by_cases e:x=y<;>simp[e])
  ·have h:¬ ((rs.length:Int)<(rs.length:Nat)):=by omega
   simp (disch:=first|assumption|omega|(simp only[zL];omega)) only[zv,h,if_false,Int.reduceEq,reduceIte,zU,zT,aa]
 ·have e:(((rs.length:Nat):Int) != ((rs'.length:Nat):Int))=true:=by simp;omega
  have:rs≠rs':=fun h=>hl (by rw[h])
  simp[e,this]
theorem Il(hl:LgS ⟨rs,f⟩):qN [.list (rs.map Rec.e),.int .i64 f,.list (rs'.map Rec.e),.int .i64 f']=some [.bool (decide ((⟨rs,f⟩:Log)=⟨rs',f'⟩))]:=by
 rw[q_gm]
 have h1:rs.length<=1099511627776:=by have:=hl.1;simp only at this;omega
 have h2:∀ r∈rs,r.m.length<=1099511627776:=hl.2
 simp (disch:=first|assumption|omega|(simp only[zL];omega)) only[F_gm,zD h1 h2,Int.reduceEq,reduceIte,zU,zT,aa]
 by_cases e1:f=f'<;>by_cases e2:rs=rs'<;>simp[e1,e2]
theorem Ao{x x':House}(hl:LgS x.lg):qO [.int .i64 x.id,.bool x.up,.int .i64 x.room,.list (x.lg.rs.map Rec.e),.int .i64 x.lg.f,.int .i64 x'.id,.bool x'.up,.int .i64 x'.room,.list (x'.lg.rs.map Rec.e),.int .i64 x'.lg.f]=some [.bool (decide (x=x'))]:=by
 rw[q_ee]
 obtain⟨id,up,room,⟨rs,f⟩⟩:=x
 obtain⟨id',up',room',⟨rs',f'⟩⟩:=x'
 have key:decide ((⟨id,up,room,⟨rs,f⟩⟩:House)=⟨id',up',room',⟨rs',f'⟩⟩)=(decide (id=id') && ((up==up') && (decide (room=room') && decide ((⟨rs,f⟩:Log)=⟨rs',f'⟩)))):=by
  rw[Bool.eq_iff_iff];simp
 simp (disch:=first|assumption|omega|(simp only[zL];omega)) only[F_ee,Il hl,key,Int.reduceEq,reduceIte,zT,aa]
 rw[An id,An room]
 generalize decide (id=id')=p1
 generalize (up==up')=p2
 generalize decide (room=room')=p3
 generalize decide ((⟨rs,f⟩:Log)=⟨rs',f'⟩)=p4
 cases p1<;>cases p2<;>cases p3<;>rfl
theorem nS(hl:td.length<=1099511627776):iN [.list (td.map Word.e),.list (td'.map Word.e)]=some [.bool (decide (td=td'))]:=by
 rw[q_em];unfold F_em
 simp only[List.length_map]
 by_cases hl':td.length=td'.length
 ·have e:(((td.length:Nat):Int) != ((td'.length:Nat):Int))=false:=by simp[hl']
  simp only[e,aH]
  rw[pL hl']
  ·rfl
  ·intro i x y hx hy
   have hi:=(List.getElem?_eq_some_iff.1 hx).1
   have hi':(i:Int)<(td.length:Nat):=by omega
   have hb:=kF x y
   simp (disch:=first|assumption|omega|(simp only[zL];omega)) only[zw,gJ hx,gJ hy,Word.e,au,hi',if_true,hb,Int.reduceEq,reduceIte,zU,zT,aa]
   try (by_cases e:x=y<;>simp[e])
  ·have h:¬ ((td.length:Int)<(td.length:Nat)):=by omega
   simp (disch:=first|assumption|omega|(simp only[zL];omega)) only[zw,h,if_false,Int.reduceEq,reduceIte,zU,zT,aa]
 ·have e:(((td.length:Nat):Int) != ((td'.length:Nat):Int))=true:=by simp;omega
  have:td≠td':=fun h=>hl' (by rw[h])
  simp[e,this]
theorem zE(hs:DkS ⟨up,⟨rs,f⟩,td⟩):cW [.bool up,.list (rs.map Rec.e),.int .i64 f,.list (td.map Word.e),.bool up',.list (rs'.map Rec.e),.int .i64 f',.list (td'.map Word.e)]=some [.bool (decide ((⟨up,⟨rs,f⟩,td⟩:Desk)=⟨up',⟨rs',f'⟩,td'⟩))]:=by
 rw[q_gc]
 have h1:LgS ⟨rs,f⟩:=hs.lg
 have h2:td.length<=1099511627776:=by have:=hs.td;simp only at this;omega
 have key:decide ((⟨up,⟨rs,f⟩,td⟩:Desk)=⟨up',⟨rs',f'⟩,td'⟩)=((up==up') && (decide ((⟨rs,f⟩:Log)=⟨rs',f'⟩) && decide (td=td'))):=by
  rw[Bool.eq_iff_iff];simp
 simp (disch:=first|assumption|omega|(simp only[zL];omega)) only[F_gc,Il h1,nS h2,key,Int.reduceEq,reduceIte,zT,aa]
 generalize (up==up')=p1
 generalize decide ((⟨rs,f⟩:Log)=⟨rs',f'⟩)=p2
 generalize decide (td=td')=p3
 cases p1<;>cases p2<;>rfl
theorem Ap{w w':Wd}(hd:DkS w.dk)(hh:∀ x∈w.hs,LgS x.lg)(hhl:w.hs.length<=2000000)(hn:w.ns.length<=2000000) :
  fW [.bool w.dk.up,.list (w.dk.lg.rs.map Rec.e),.int .i64 w.dk.lg.f,.list (w.dk.td.map Word.e),.list (w.hs.map House.e),.list (w.ns.map Word.e),.bool w'.dk.up,.list (w'.dk.lg.rs.map Rec.e),.int .i64 w'.dk.lg.f,.list (w'.dk.td.map Word.e),.list (w'.hs.map House.e),.list (w'.ns.map Word.e)]=some [.bool (decide (w=w'))]:=by
 rw[q_er]
 obtain⟨⟨up,⟨rs,f⟩,td⟩,hs,ns⟩:=w
 obtain⟨⟨up',⟨rs',f'⟩,td'⟩,hs',ns'⟩:=w'
 simp only at hh hhl hn hd
 simp (disch:=first|assumption|omega|(simp only[zL];omega)) only[F_er,zE hd,nS,Int.reduceEq,reduceIte,zU,zT,aa]
 by_cases e1:(⟨up,⟨rs,f⟩,td⟩:Desk)=⟨up',⟨rs',f'⟩,td'⟩
 case neg=>simp[e1]
 by_cases e2:ns=ns'
 case neg=>simp[e2]
 simp only[e1,e2,decide_true,aG]
 by_cases hl:hs.length=hs'.length
 ·have e:(((hs.length:Nat):Int) != ((hs'.length:Nat):Int))=false:=by simp[hl]
  have e':((hs.length:Nat):Int)=((hs'.length:Nat):Int):=by omega
  simp only[e',if_true]
  rw[pL (a:=hs) (b:=hs') hl]
  ·simp
  ·intro i x y hx hy
   have hi:=(List.getElem?_eq_some_iff.1 hx).1
   have hi':(i:Int)<(hs.length:Nat):=by omega
   have hxm:=hh x (List.mem_of_getElem? hx)
   simp (disch:=first|assumption|omega|(simp only[zL];omega)) only[zx,fO hx,fO hy,House.e,au,hi',if_true,Ao hxm,Int.reduceEq,reduceIte,zU,zT,aa]
   try (by_cases e:x=y<;>simp[e])
  ·have h:¬ ((hs.length:Int)<(hs.length:Nat)):=by omega
   simp (disch:=first|assumption|omega|(simp only[zL];omega)) only[zx,h,if_false,Int.reduceEq,reduceIte,zU,zT,aa]
 ·have e':¬ ((hs.length:Nat):Int)=((hs'.length:Nat):Int):=by omega
  have:hs≠hs':=fun h=>hl (by rw[h])
  simp[e',this]
theorem WOk.n{w w':Wd}(ho:WOk w) :
  fW [.bool w.dk.up,.list (w.dk.lg.rs.map Rec.e),.int .i64 w.dk.lg.f,.list (w.dk.td.map Word.e),.list (w.hs.map House.e),.list (w.ns.map Word.e),.bool w'.dk.up,.list (w'.dk.lg.rs.map Rec.e),.int .i64 w'.dk.lg.f,.list (w'.dk.td.map Word.e),.list (w'.hs.map House.e),.list (w'.ns.map Word.e)]=some [.bool (decide (w=w'))] :=
 Ap ho.dk.S (fun x hx=>by
  obtain⟨i,hi⟩:=List.mem_iff_getElem?.1 hx
  exact(ho.hs i x hi).1.lg.S) (by rw[ho.len];omega) (by have:=ho.nlen;omega)
end
end Dx
namespace Dx
open Go
def fk(code:List Int):Prop:=∀ b∈code,0<=b/\b<=255
def Dq(code:List Int)(rooms:List Int)(es:List Ev)(w:Wd):List C :=
 [.list (code.map eB),.int .i64 code.length,.bool false,.list (rooms.map eI),.list (es.map Ev.e),
  .bool w.dk.up,.list (w.dk.lg.rs.map Rec.e),.int .i64 w.dk.lg.f,.list (w.dk.td.map Word.e),.list (w.hs.map House.e),.list (w.ns.map Word.e),.bool true,
  .bool w.dk.up,.list (w.dk.lg.rs.map Rec.e),.int .i64 w.dk.lg.f,.list (w.dk.td.map Word.e),.list (w.hs.map House.e),.list (w.ns.map Word.e),.bool true,.bool false,.bool true,.bool false,.bool false]
theorem d9(Φ:Phi)(p:Prim)(args:List Cell)(t:Tree)(env:List C):den Φ (.letp p args t) env=den Φ t (env++[p.den (aK env args)]):=by rw[den]
theorem ec(Φ:Phi)(a:At)(t e:Tree)(env:List C):den Φ (.ite a t e) env=ae (a.den env).toBool (den Φ t env) (den Φ e env):=by rw[den]
theorem fS(Φ:Phi)(xs:List Cell)(env:List C):den Φ (.ret xs) env=some (.ret (aK env xs)):=by rw[den]
def t0(code more:List Int)(rooms:List Int)(es:List Ev)(w:Wd):List C :=
 [.list (code.map eB),.list (more.map eB),.int .i64 code.length,.bool false,.int .i64 more.length,.bool false,.list (rooms.map eI),.list (es.map Ev.e),
  .bool w.dk.up,.list (w.dk.lg.rs.map Rec.e),.int .i64 w.dk.lg.f,.list (w.dk.td.map Word.e),.list (w.hs.map House.e),.list (w.ns.map Word.e),.bool true,
  .bool w.dk.up,.list (w.dk.lg.rs.map Rec.e),.int .i64 w.dk.lg.f,.list (w.dk.td.map Word.e),.list (w.hs.map House.e),.list (w.ns.map Word.e),.bool true,.bool false,.bool true,.bool false,.bool false]
end Dx
namespace Dx
open Go
theorem gk(Φ:Phi)(init:List Cell)(body:Tree)(env:List C):den Φ (.iter init body) env=aI (fun ps=>den Φ body (env++gK ps 0 (c8 init))) (aK env init):=by rw[den]
theorem fT(Φ:Phi)(l i:At)(ks:List CK)(t:Tree)(env:List C):den Φ (.row l i ks t) env=aE (l.den env) (i.den env) ks fun r=>den Φ t (env++r):=by rw[den]
theorem kg(Φ:Phi)(t:Tree)(env:List C):den Φ (.up t) env=upD (den Φ t env):=by rw[den]
theorem fw(Φ:Phi)(xs:List Cell)(env:List C):den Φ (.jump xs) env=some (.jump (aK env xs)):=by rw[den]
theorem gR(Φ:Phi)(p:Prim)(args:List Cell)(t:Tree)(env:List C):den Φ (.chk p args t) env=ai (p.den (aK env args)).toBool (den Φ t env):=by rw[den]
theorem fx(Φ:Phi)(ks:List CK)(body k:Tree)(env:List C):den Φ (.join ks body k) env=bi (den Φ body env) fun ps=>den Φ k (env++gK ps 0 ks):=by rw[den]
theorem sH{α:Type}{F:List C->Option Out}{l:List α}{o:Out}(hs:∀(i:Nat) (x:α),l[i]?=some x->F [.int .i64 (i:Nat)]=some (.jump [.int .i64 ((i+1:Nat):Int)]))
  (hf:F [.int .i64 ((l.length:Nat):Int)]=some (.up o)):aI F [.int .i64 0]=some o :=
 aC (l:=l) (F:=F) (enc:=fun i (_:Unit)=>[.int .i64 i]) (res:=fun _ _ _=>o) (fun _ _=>True) (s:=()) trivial (fun i x _ _ hx _=>.inl ⟨(),hs i x hx,trivial,rfl⟩) (fun _ _=>hf)
section
variable {code:List Int}
end
end Dx
namespace Dx
open Go
section
variable {code:List Int}
end
end Dx
namespace Dx
open Go
section
variable {code:List Int}
end
end Dx
