import Derived.KernelRfl
set_option linter.all false
namespace Dx
structure Rec where
 k:Int
 t:Int
 m:List Int
 deriving DecidableEq
structure Log where
 rs:List Rec
 f:Int
 deriving DecidableEq
structure Hold where
 m:Int
 s:Int
 deriving DecidableEq
structure Stock where
 room:Int
 hs:List Hold
 deriving DecidableEq
structure Word where
 k:Int
 h:Int
 t:Int
 m:Int
 deriving DecidableEq
structure House where
 id:Int
 up:Bool
 room:Int
 lg:Log
 deriving DecidableEq
structure Trip where
 m:List Int
 s:Int
 deriving DecidableEq
structure Desk where
 up:Bool
 lg:Log
 td:List Word
 deriving DecidableEq
structure Wd where
 dk:Desk
 hs:List House
 ns:List Word
 deriving DecidableEq
structure Ev where
 k:Int
 a:Int
 b:Int
 m:List Int
 deriving DecidableEq
def in_(n lo hi:Int):Bool:=decide (lo<=n) && decide (n<=hi)
theorem in_iff{n lo hi:Int}:in_ n lo hi=true↔lo<=n/\n<=hi:=by simp[in_]
theorem in_false{n lo hi:Int}:in_ n lo hi=false↔¬ (lo<=n/\n<=hi):=by simp[in_]
def bV(m:List Int):Bool:=m.all (fun n=>in_ n 0 3) && (m.length==3 && decide (m.sum>0))
def aA(r:Rec):Bool:=in_ r.t 1 6 && (if r.k=1 then(match r.m with|[n]=>in_ n 1 3|_=>false) else if r.k=4 then bV r.m else in_ r.k 2 7 && r.m.isEmpty)
def fX(l:Log):Bool:=l.rs.all aA && (decide (l.rs.length<=40) && in_ l.f 0 l.rs.length)
def cL(l:Log)(r:Rec):Log:=if l.rs.length>=40 then l else⟨l.rs++[r],l.f⟩
def nb(l:Log):Bool:=!decide (l.rs.length>=40)
def eM(l:Log):Log:=⟨l.rs,l.rs.length⟩
def iO(l:Log)(keep:Int):Int:=if keep>0 then l.f+min keep (l.rs.length-l.f) else l.f
def iP(l:Log)(keep:Int):Log:=⟨l.rs.take (iO l keep).toNat,iO l keep⟩
def a9(l:Log)(forced:Bool):List Rec:=if forced then l.rs.take l.f.toNat else l.rs
def bh(h:Hold):Bool:=if h.s=0 then h.m==0 else if h.s=1\/h.s=2 then in_ h.m 1 3 else if h.s=3 then in_ h.m 0 3 else false
def had(h:Hold):Int:=if h.s=1\/h.s=2 then h.m else 0
def free(s:Stock):Int:=s.room-(s.hs.map had).sum
def bY(room:Int):Stock:=⟨room,List.replicate 6 ⟨0,0⟩⟩
def hAt(hs:List Hold)(t:Int):Hold:=(hs[(t-1).toNat]?).getD ⟨0,0⟩
def dW(s:Stock)(t:Int):Int:=(hAt s.hs t).s
def may(s:Stock)(r:Rec):Bool :=
 if r.k=1 then(dW s r.t==0) && decide (r.m.headD 0<=free s)
 else if r.k=2 then dW s r.t==1
 else if r.k=3 then(dW s r.t==1) || (dW s r.t==0)
 else false
def io(h:Hold)(r:Rec):Hold:=if r.k=1 then⟨r.m.headD 0,1⟩ else if r.k=2 then⟨h.m,2⟩ else if r.k=3 then⟨h.m,3⟩ else h
def act(s:Stock)(r:Rec):Stock:=⟨s.room,s.hs.set (r.t-1).toNat (io (hAt s.hs r.t) r)⟩
def bP:List Rec->Stock->Option Stock
 | [],s=>some s
 | r::rs,s=>if aA r && may s r then bP rs (act s r) else none
def bM(room:Int)(rs:List Rec):Option Stock:=if in_ room 0 9 then bP rs (bY room) else none
def bg(w:Word):Bool:=in_ w.h 1 3 && (in_ w.t 1 6 && (in_ w.k 1 7 && (if w.k=1 then in_ w.m 1 3 else w.m==0)))
def cz(h:House):Bool:=in_ h.id 1 3 && (fX h.lg && (bM h.room h.lg.rs).isSome)
def ax(h:House)(forced:Bool):Stock:=(bM h.room (a9 h.lg forced)).getD ⟨0,[]⟩
def bf(w:Word):Rec:=if w.k=1 then⟨1,w.t,[w.m]⟩ else if w.k=2 then⟨2,w.t,[]⟩ else⟨3,w.t,[]⟩
def answer(id:Int)(w:Word)(st:Int):Option Word :=
 if w.k=1/\(st=1\/st=2) then some ⟨4,id,w.t,0⟩
 else if w.k=1/\st=3 then some ⟨5,id,w.t,0⟩
 else if w.k=2/\st=2 then some ⟨6,id,w.t,0⟩
 else if w.k=3/\st=3 then some ⟨7,id,w.t,0⟩
 else none
def hhear(h:House)(w:Word):House×Option Word :=
 if !h.up || !bg w || w.h != h.id || decide (w.k>3) then(h,none)
 else if may (ax h false) (bf w) then({h with lg:=cL h.lg (bf w)},none)
 else if w.k=1/\dW (ax h false) w.t=0 then(h,some ⟨5,h.id,w.t,0⟩)
 else(h,answer h.id w (dW (ax h true) w.t))
def bQ(h:House):House:=if h.up then {h with lg:=eM h.lg} else h
def hfall(h:House)(keep:Int):House:={h with up:=false,lg:=iP h.lg keep}
def nc(h:House):House:={h with up:=true}
def eN(t:Trip):Bool:=bV t.m && in_ t.s 1 5
def dX(l:List Trip):Bool:=l.all eN && decide (l.length<=6)
def tAt(l:List Trip)(t:Int):Trip:=(l[(t-1).toNat]?).getD ⟨[],0⟩
def bW(l:List Trip)(r:Rec):Bool :=
 if r.k=4 then r.t==(l.length:Int)+1
 else if r.t>l.length then false
 else if r.k=5\/r.k=6 then(tAt l r.t).s==1
 else if r.k=7 then(tAt l r.t).s==2 || (tAt l r.t).s==3
 else false
def ch(l:List Trip)(r:Rec):List Trip :=
 if r.k=4 then l++[⟨r.m,1⟩]
 else if r.k=5 then l.set (r.t-1).toNat ⟨(tAt l r.t).m,2⟩
 else if r.k=6 then l.set (r.t-1).toNat ⟨(tAt l r.t).m,3⟩
 else if r.k=7 then l.set (r.t-1).toNat ⟨(tAt l r.t).m,(tAt l r.t).s+2⟩
 else l
def bJ:List Rec->List Trip->Option (List Trip)
 | [],l=>some l
 | r::rs,l=>if aA r && bW l r then bJ rs (ch l r) else none
def a8(rs:List Rec):Option (List Trip):=bJ rs []
def deskNew:Desk:=⟨true,⟨[],0⟩,[]⟩
def dp(n:Nat):List Word->List Word->Bool
 | _,[]=>true
 | before,w::ws=>bg w && decide (w.k>=4) && decide (w.t<=n) && !before.contains w && dp n (before++[w]) ws
def aU(d:Desk):Bool:=fX d.lg && (match a8 d.lg.rs with
 | some l=>dp l.length [] d.td && (d.up || d.td.isEmpty)
 | none=>false)
def ah(l:Log)(forced:Bool):List Trip:=(a8 (a9 l forced)).getD []
def af(d:Desk)(forced:Bool):List Trip:=ah d.lg forced
def cA(d:Desk)(r:Rec):Bool:=d.up && (bW (af d false) r && nb d.lg)
def aQ(d:Desk)(r:Rec):Desk:=if d.up && bW (af d false) r then {d with lg:=cL d.lg r} else d
def al(td:List Word)(t k:Int):Int->List Int->Bool
 | _,[]=>true
 | h,n::ns=>(!decide (n>0) || td.contains ⟨k,h,t,0⟩) && al td t k (h+1) ns
def aP(td:List Word)(t k:Int):Int->List Int->Bool
 | _,[]=>false
 | h,n::ns=>(decide (n>0) && td.contains ⟨k,h,t,0⟩) || aP td t k (h+1) ns
def ib(d:Desk)(t:Int):Bool:=decide (t<=(af d true).length) && (tAt (af d true) t).s==(tAt (af d false) t).s
def bC(d:Desk)(t:Int):Int :=
 let x:=tAt (af d false) t
 if x.s=1/\aP d.td t 5 1 x.m then 6
 else if x.s=1/\al d.td t 4 1 x.m then 5
 else if x.s=2/\ib d t/\al d.td t 6 1 x.m then 7
 else if x.s=3/\ib d t/\al d.td t 7 1 x.m then 7
 else 0
def aF(d:Desk)(t:Int):Desk:=if bC d t>0 then aQ d ⟨bC d t,t,[]⟩ else d
def aZ(d:Desk)(w:Word):Desk:=if d.td.contains w then d else {d with td:=d.td++[w]}
def bd(d:Desk)(w:Word):Bool:=d.up && (bg w && (decide (w.k>=4) && decide (w.t<=(af d false).length)))
def dhear(d:Desk)(w:Word):Desk:=if bd d w then aF (aZ d w) w.t else d
def mt(s:Int):Int:=if s=1 then 4 else if s=2 then 6 else 7
def fL(td:List Word)(s t h n:Int):List Word:=if n=0\/td.contains ⟨mt s,h,t,0⟩ then [] else [⟨s,h,t,if s=1 then n else 0⟩]
def ba(td:List Word)(s t:Int):Int->List Int->List Word
 | _,[]=>[]
 | h,n::ns=>fL td s t h n++ba td s t (h+1) ns
def cy(td:List Word):Int->List Trip->List Word
 | _,[]=>[]
 | t,x::xs=>(if x.s>3 then [] else ba td x.s t 1 x.m)++cy td (t+1) xs
def aN(d:Desk):List Word:=if d.up then cy d.td 1 (af d true) else []
def aV(d:Desk)(m:List Int):Rec:=⟨4,(af d false).length+1,m⟩
def dx(d:Desk)(m:List Int):Desk:=if aA (aV d m) then aQ d (aV d m) else d
def mu(d:Desk)(t:Int):Desk:=if in_ t 1 6 then aQ d ⟨6,t,[]⟩ else d
def bv(d:Desk):Desk:=if d.up then {d with lg:=eM d.lg} else d
def dfall(d:Desk)(keep:Int):Desk:=⟨false,iP d.lg keep,[]⟩
def mv(d:Desk):Desk:={d with up:=true}
def dJ(rooms:List Int):List House:=(rooms.zipIdx 1).map fun p=>⟨p.2,true,p.1,⟨[],0⟩⟩
def bZ(rooms:List Int):Option Wd:=if rooms.length=3/\rooms.all (fun n=>in_ n 0 9) then some ⟨deskNew,dJ rooms,[]⟩ else none
def cj(w:Wd):Bool:=aU w.dk && (w.hs.length==3 && (decide (w.ns.length<=14) && (w.hs.all cz && ((w.hs.zipIdx 1).all (fun p=>p.1.id==(p.2:Int)) && w.ns.all bg))))
def fM(w:Wd)(x:Word):Wd:=if w.ns.length<14 then {w with ns:=w.ns++[x]} else w
def qS(w:Wd):Option Word->Wd
 | some x=>fM w x
 | none=>w
def dV(w:Wd)(i:Int):Wd:={w with ns:=w.ns.eraseIdx i.toNat}
def houseAt(w:Wd)(i:Int):House:=(w.hs[(i-1).toNat]?).getD ⟨0,false,0,⟨[],0⟩⟩
def setHouse(w:Wd)(i:Int)(h:House):Wd:={w with hs:=w.hs.set (i-1).toNat h}
def aM(w:Wd)(x:Word):Wd×Option Word :=
 if x.k>=4 then({w with dk:=dhear w.dk x},none)
 else(setHouse w x.h (hhear (houseAt w x.h) x).1,(hhear (houseAt w x.h) x).2)
def jS(w:Wd)(e:Ev):Wd:=match if 0<=e.a then w.ns[e.a.toNat]? else none with
 | none=>w
 | some x=>if e.k=5 then dV w e.a else if e.k=6 then fM w x else qS (aM (dV w e.a) x).1 (aM (dV w e.a) x).2
def iQ(w:Wd)(e:Ev):Wd :=
 if e.k=1 then {w with dk:=dx w.dk e.m}
 else if e.k=2 then {w with dk:=mu w.dk e.a}
 else if e.k=3 then(match if 0<=e.a then(aN w.dk)[e.a.toNat]? else none with
  | some x=>fM w x
  | none=>w)
 else w
def dy(w:Wd)(i:Int):Wd:=if i=0 then {w with dk:=bv w.dk} else if in_ i 1 3 then setHouse w i (bQ (houseAt w i)) else w
def cP(w:Wd)(e:Ev):Wd :=
 if in_ e.a 0 3 then
  if e.k=7 then dy w e.a
  else if e.k=8 then(if e.a=0 then {w with dk:=dfall w.dk e.b} else setHouse w e.a (hfall (houseAt w e.a) e.b))
  else if e.k=9 then(if e.a=0 then {w with dk:=mv w.dk} else setHouse w e.a (nc (houseAt w e.a)))
  else w
 else w
def wdo(w:Wd)(e:Ev):Wd :=
 if e.k=1\/e.k=2\/e.k=3 then iQ w e
 else if e.k=4\/e.k=5\/e.k=6 then jS w e
 else if e.k=7\/e.k=8\/e.k=9 then cP w e
 else w
def c7(w:Wd):List Ev->Wd
 | []=>w
 | e::es=>c7 (wdo w e) es
def bw(w:Wd)(x:Word):Wd:=match (aM w x).2 with
 | some y=>(aM (aM w x).1 y).1
 | none=>(aM w x).1
def fN(w:Wd):List Word->Wd
 | []=>w
 | x::xs=>fN (bw w x) xs
def fa(w:Wd):Wd:=⟨mv w.dk,w.hs.map nc,w.ns⟩
def bB(w:Wd):Wd:=⟨bv w.dk,w.hs.map bQ,w.ns⟩
def eO(w:Wd):Wd:=bB (fN {fa w with ns:=[]} (w.ns++aN (mv w.dk)))
def BL(w:Wd):Nat->Wd
 | 0=>w
 | n+1=>BL (eO w) n
end Dx
namespace Dx
structure StOk (s:Stock):Prop where
 len:s.hs.length=6
 hold:∀ h∈s.hs,bh h=true
 room:0<=s.room/\s.room<=9
 free:0<=free s
theorem cd{r:Rec}(h:aA r=true):1<=r.t/\r.t<=6:=by
 simp only[aA,Bool.and_eq_true,in_iff]at h;exact h.1
theorem E5{r:Rec}(h:aA r=true):1<=r.k/\r.k<=7:=by
 simp only[aA,Bool.and_eq_true]at h
 have h:=h.2
 split at h
 ·omega
 ·split at h
  ·omega
  ·simp only[Bool.and_eq_true,in_iff]at h;omega
theorem dA{r:Rec}(h:aA r=true)(hk:r.k=1):∃ n,r.m=[n]/\1<=n/\n<=3:=by
 simp only[aA,Bool.and_eq_true,hk,if_true]at h
 have h:=h.2
 split at h
 ·rename_i n he;exact⟨n,he,in_iff.1 h⟩
 ·cases h
theorem iq{r:Rec}(h:aA r=true)(hk:r.k=4):bV r.m=true:=by
 simp only[aA,Bool.and_eq_true,hk]at h
 simpa using h.2
theorem uE{r:Rec}(h:aA r=true)(h1:r.k≠1)(h4:r.k≠4):r.m=[]:=by
 simp only[aA,Bool.and_eq_true,h1,h4,if_false]at h
 simpa using h.2.2
theorem aT{m:List Int}(h:bV m=true):m.length=3:=by
 simp only[bV,Bool.and_eq_true,beq_iff_eq]at h;exact h.2.1
theorem gG{m:List Int}(h:bV m=true){n:Int}(hn:n∈m):0<=n/\n<=3:=by
 simp only[bV,Bool.and_eq_true,List.all_eq_true]at h
 exact in_iff.1 (h.1 n hn)
theorem fb{r:Rec}(h:aA r=true):r.m.length<=3:=by
 by_cases h1:r.k=1
 ·obtain⟨n,e,_⟩:=dA h h1;simp[e]
 ·by_cases h4:r.k=4
  ·have:=aT (iq h h4);omega
  ·simp[uE h h1 h4]
theorem E6{l:List Hold}{i:Nat}{a:Hold}(f:Hold->Int)(hi:i<l.length):((l.set i a).map f).sum=(l.map f).sum-f l[i]+f a:=by
 induction l generalizing i with
 | nil=>simp at hi
 | cons x xs ih=>cases i with
  | zero=>simp;omega
  | succ i=>simp only[List.length_cons]at hi;simp only[List.set_cons_succ,List.map_cons,List.sum_cons,List.getElem_cons_succ];rw[ih (by omega)];omega
theorem tV{hs:List Hold}{t:Int}(h:(t-1).toNat<hs.length):hAt hs t=hs[(t-1).toNat]:=by unfold hAt;rw[List.getElem?_eq_getElem h];rfl
theorem Aa{hs:List Hold}{t:Int}(h:(t-1).toNat<hs.length):hAt hs t∈hs:=by rw[tV h];exact List.getElem_mem h
theorem E7(s:Stock)(r:Rec):(act s r).hs.length=s.hs.length:=by simp[act]
theorem Cj{s:Stock}{r:Rec}(h:(r.t-1).toNat<s.hs.length):free (act s r)=free s+had (hAt s.hs r.t)-had (io (hAt s.hs r.t) r):=by
 simp only[free,act]
 rw[E6 had h,tV h];omega
theorem tW{s:Stock}{r:Rec}(hs:StOk s)(hr:aA r=true)(hm:may s r=true):StOk (act s r):=by
 have ht:=cd hr
 have hi:(r.t-1).toNat<s.hs.length:=by rw[hs.len];omega
 have ho:=hs.hold _ (Aa hi)
 have hf:=hs.free
 have key:bh (io (hAt s.hs r.t) r)=true/\had (io (hAt s.hs r.t) r)<=had (hAt s.hs r.t)+free s:=by
  simp only[may,dW]at hm
  by_cases h1:r.k=1
  ·obtain⟨n,e,hn⟩:=dA hr h1
   simp only[h1,if_true,e,List.headD_cons,Bool.and_eq_true,beq_iff_eq,decide_eq_true_eq]at hm
   simp[io,h1,e,bh,had,in_iff,hn,hm]
  ·simp only[h1,if_false]at hm
   by_cases h2:r.k=2
   ·simp only[h2,if_true,beq_iff_eq]at hm
    simp only[bh,hm]at ho
    have:(hAt s.hs r.t).m=(hAt s.hs r.t).m:=rfl
    simp[io,h2,bh,had,hm]at ho ⊢
    exact⟨ho,by omega⟩
   ·simp only[h2,if_false]at hm
    by_cases h3:r.k=3
    ·simp only[h3,if_true,Bool.or_eq_true,beq_iff_eq]at hm
     rcases hm with hm|hm
     ·simp only[bh,hm]at ho
      simp[io,h3,bh,had,hm,in_iff]at ho ⊢
      omega
     ·simp only[bh,hm]at ho
      simp[io,h3,bh,had,hm,in_iff]at ho ⊢
      omega
    ·simp[h3]at hm
 refine⟨by rw[E7];exact hs.len,?_,hs.room,?_⟩
 ·intro h hh
  rcases List.mem_or_eq_of_mem_set hh with hh|rfl
  ·exact hs.hold _ hh
  ·exact key.1
 ·rw[Cj hi];omega
theorem fA{room:Int}(h:0<=room/\room<=9):StOk (bY room):=by
 refine⟨by simp[bY],?_,h,?_⟩
 ·intro x hx;simp[bY,List.mem_replicate]at hx;subst hx;rfl
 ·simp[bY,free,List.replicate,had];exact h.1
theorem gx:∀(a b:List Rec) (s:Stock),bP (a++b) s=(bP a s).bind (bP b)
 | [],b,s=>rfl
 | r::a,b,s=>by
  simp only[List.cons_append,bP]
  split
  ·exact gx a b _
  ·rfl
theorem u6:∀ {rs:List Rec} {s s':Stock},StOk s->bP rs s=some s'->StOk s'
 | [],s,s',h,e=>by simp only[bP,Option.some.injEq]at e;exact e ▸ h
 | r::rs,s,s',h,e=>by
  simp only[bP]at e
  split at e
  ·rename_i hc;simp only[Bool.and_eq_true]at hc;exact u6 (tW h hc.1 hc.2) e
  ·cases e
theorem ng:∀ {rs:List Rec} {s s':Stock},bP rs s=some s'->s'.room=s.room
 | [],s,s',e=>by simp only[bP,Option.some.injEq]at e;rw[e]
 | r::rs,s,s',e=>by
  simp only[bP]at e
  split at e
  ·exact(ng e).trans rfl
  ·cases e
theorem xI{rs:List Rec}{s s':Stock}(h:bP rs s=some s')(n:Nat):∃ s1,bP (rs.take n) s=some s1/\bP (rs.drop n) s1=some s':=by
 rw[<-List.take_append_drop n rs,gx]at h
 cases h1:bP (rs.take n) s with
 | none=>rw[h1]at h;cases h
 | some s1=>rw[h1]at h;exact⟨s1,rfl,h⟩
theorem stockOf_some{room:Int}{rs:List Rec}{s:Stock}:bM room rs=some s↔(0<=room/\room<=9)/\bP rs (bY room)=some s:=by
 simp only[bM]
 split
 ·rename_i h;simp[in_iff.1 h]
 ·rename_i h;simp only[reduceCtorEq,false_iff];intro ⟨h1,_⟩;exact h (in_iff.2 h1)
theorem jr{room:Int}{rs:List Rec}{s:Stock}(h:bM room rs=some s):StOk s/\s.room=room:=by
 obtain⟨h1,h2⟩:=stockOf_some.1 h
 exact⟨u6 (fA h1) h2,ng h2⟩
theorem jT{room:Int}{rs:List Rec}{s:Stock}(h:bM room rs=some s)(n:Nat):∃ s1,bM room (rs.take n)=some s1/\bP (rs.drop n) s1=some s:=by
 obtain⟨h1,h2⟩:=stockOf_some.1 h
 obtain⟨s1,h3,h4⟩:=xI h2 n
 exact⟨s1,stockOf_some.2 ⟨h1,h3⟩,h4⟩
theorem xJ{rs:List Rec}{r:Rec}{s s1:Stock}(h:bP rs s=some s1)(hr:aA r=true)(hm:may s1 r=true):bP (rs++[r]) s=some (act s1 r):=by
 rw[gx,h];simp[bP,hr,hm]
theorem jU{room:Int}{rs:List Rec}{r:Rec}{s:Stock}(h:bM room rs=some s)(hr:aA r=true)(hm:may s r=true):bM room (rs++[r])=some (act s r):=by
 obtain⟨h1,h2⟩:=stockOf_some.1 h
 exact stockOf_some.2 ⟨h1,xJ h2 hr hm⟩
structure LgOk (l:Log):Prop where
 ok:∀ r∈l.rs,aA r=true
 len:l.rs.length<=40
 lo:0<=l.f
 hi:l.f<=l.rs.length
theorem logOk_iff{l:Log}:fX l=true↔LgOk l:=by
 simp only[fX,Bool.and_eq_true,List.all_eq_true,decide_eq_true_eq,in_iff]
 exact⟨fun⟨h1,h2,h3,h4⟩=>⟨h1,h2,h3,h4⟩,fun h=>⟨h.ok,h.len,h.lo,h.hi⟩⟩
theorem LgOk.add{l:Log}(h:LgOk l){r:Rec}(hr:aA r=true):LgOk (cL l r):=by
 unfold cL
 split
 ·exact h
 ·rename_i hl
  refine⟨fun x hx=>?_,by simp;omega,h.lo,?_⟩
  ·rcases List.mem_append.1 hx with hx|hx
   ·exact h.ok x hx
   ·simp at hx;exact hx ▸ hr
  ·have:=h.hi;simp;omega
theorem LgOk.force{l:Log}(h:LgOk l):LgOk (eM l):=⟨h.ok,h.len,by simp[eM],by simp[eM]⟩
theorem LgOk.keep{l:Log}(h:LgOk l)(keep:Int):l.f<=iO l keep/\iO l keep<=l.rs.length:=by
 have:=h.hi
 unfold iO
 split<;>omega
theorem LgOk.fall{l:Log}(h:LgOk l)(keep:Int):LgOk (iP l keep):=by
 have hk:=h.keep keep
 have:=h.lo
 refine⟨fun x hx=>h.ok x (List.mem_of_mem_take hx),?_,by simp only[iP];omega,?_⟩
 ·simp only[iP,List.length_take];have:=h.len;omega
 ·simp only[iP,List.length_take];omega
structure HsOk (h:House):Prop where
 id:1<=h.id/\h.id<=3
 lg:LgOk h.lg
 st:∃ s,bM h.room h.lg.rs=some s
theorem houseOk_iff{h:House}:cz h=true↔HsOk h:=by
 simp only[cz,Bool.and_eq_true,in_iff,logOk_iff,Option.isSome_iff_exists]
 exact⟨fun⟨h1,h2,h3⟩=>⟨h1,h2,h3⟩,fun h=>⟨h.id,h.lg,h.st⟩⟩
theorem HsOk.stock{h:House}(ho:HsOk h)(forced:Bool):bM h.room (a9 h.lg forced)=some (ax h forced):=by
 obtain⟨s,e⟩:=ho.st
 cases forced with
 | false=>simp[ax,a9,e]
 | true =>
  obtain⟨s1,e1,_⟩:=jT e h.lg.f.toNat
  simp[ax,a9,e1]
theorem HsOk.stOk{h:House}(ho:HsOk h)(forced:Bool):StOk (ax h forced):=(jr (ho.stock forced)).1
theorem HsOk.room{h:House}(ho:HsOk h)(forced:Bool):(ax h forced).room=h.room:=(jr (ho.stock forced)).2
theorem HsOk.write{h:House}(ho:HsOk h){r:Rec}(hr:aA r=true)(hm:may (ax h false) r=true):HsOk {h with lg:=cL h.lg r}:=by
 refine⟨ho.id,ho.lg.add hr,?_⟩
 have e:=ho.stock false
 simp only[a9,Bool.false_eq_true,if_false]at e
 unfold cL
 split
 ·exact⟨_,e⟩
 ·exact⟨_,jU e hr hm⟩
theorem HsOk.force{h:House}(ho:HsOk h):HsOk (bQ h):=by
 unfold bQ
 split
 ·exact⟨ho.id,ho.lg.force,ho.st⟩
 ·exact ho
theorem HsOk.fall{h:House}(ho:HsOk h)(keep:Int):HsOk (hfall h keep):=by
 obtain⟨s,e⟩:=ho.st
 obtain⟨s1,e1,_⟩:=jT e (iO h.lg keep).toNat
 exact⟨ho.id,ho.lg.fall keep,s1,e1⟩
theorem HsOk.rise{h:House}(ho:HsOk h):HsOk (nc h):=⟨ho.id,ho.lg,ho.st⟩
structure WdOk (w:Word):Prop where
 h:1<=w.h/\w.h<=3
 t:1<=w.t/\w.t<=6
 k:1<=w.k/\w.k<=7
 m1:w.k=1->1<=w.m/\w.m<=3
 m0:w.k≠1->w.m=0
theorem wordOk_iff{w:Word}:bg w=true↔WdOk w:=by
 simp only[bg,Bool.and_eq_true,in_iff]
 constructor
 ·intro ⟨h1,h2,h3,h4⟩
  refine⟨h1,h2,h3,fun hk=>?_,fun hk=>?_⟩
  ·simp only[hk,if_true,in_iff]at h4;exact h4
  ·simpa [hk] using h4
 ·intro h
  refine⟨h.h,h.t,h.k,?_⟩
  split
  ·rename_i hk;exact in_iff.2 (h.m1 hk)
  ·rename_i hk;simp[h.m0 hk]
theorem b8{w:Word}(h:WdOk w):aA (bf w)=true:=by
 unfold bf aA
 have ht:=in_iff.2 h.t
 split
 ·rename_i hk;simp[ht,in_iff,h.m1 hk]
 ·split<;>simp[in_,h.t]
theorem nj(w:Word):(bf w).t=w.t:=by
 unfold bf
 split
 ·rfl
 ·split<;>rfl
theorem oR(h:House)(w:Word):(hhear h w).1.id=h.id/\(hhear h w).1.up=h.up/\(hhear h w).1.room=h.room:=by
 unfold hhear
 split
 ·simp
 ·split
  ·simp
  ·split<;>simp
theorem HsOk.hear{h:House}(ho:HsOk h)(w:Word):HsOk (hhear h w).1:=by
 unfold hhear
 split
 ·exact ho
 ·rename_i hc
  simp only[Bool.or_eq_true,not_or,Bool.not_eq_true,Bool.not_eq_false',Bool.not_eq_eq_eq_not,Bool.not_true,Bool.not_false]at hc
  split
  ·rename_i hm
   exact ho.write (b8 (wordOk_iff.1 (by simpa using hc.1.1.2))) hm
  ·split<;>exact ho
theorem AW{id:Int}{w x:Word}{st:Int}(hi:1<=id/\id<=3)(hw:1<=w.t/\w.t<=6)(h:answer id w st=some x):WdOk x/\4<=x.k/\x.h=id/\x.t=w.t/\x.m=0:=by
 unfold answer at h
 have key:∀ k:Int,4<=k->k<=7->some (⟨k,id,w.t,0⟩:Word)=some x->WdOk x/\4<=x.k/\x.h=id/\x.t=w.t/\x.m=0:=by
  intro k h1 h2 e
  simp only[Option.some.injEq]at e;subst e
  exact⟨⟨hi,hw,⟨by simp only;omega,h2⟩,fun e=>by simp only at e;omega,fun _=>rfl⟩,h1,rfl,rfl,rfl⟩
 split at h
 ·exact key _ (by omega) (by omega) h
 ·split at h
  ·exact key _ (by omega) (by omega) h
  ·split at h
   ·exact key _ (by omega) (by omega) h
   ·split at h
    ·exact key _ (by omega) (by omega) h
    ·cases h
theorem AX{h:House}(ho:HsOk h){w x:Word}(e:(hhear h w).2=some x):WdOk x/\4<=x.k/\x.h=h.id/\x.t=w.t/\x.m=0:=by
 unfold hhear at e
 split at e
 ·cases e
 ·rename_i hc
  simp only[Bool.or_eq_true,not_or,Bool.not_eq_true,Bool.not_eq_false',Bool.not_eq_eq_eq_not,Bool.not_true,Bool.not_false]at hc
  have hw:=wordOk_iff.1 (show bg w=true by simpa using hc.1.1.2)
  split at e
  ·cases e
  ·split at e
   ·simp only[Option.some.injEq]at e;subst e
    exact⟨⟨ho.id,hw.t,by simp,by simp,by simp⟩,by simp,rfl,rfl,rfl⟩
   ·exact AW ho.id hw.t e
structure TrOk (l:List Trip):Prop where
 ok:∀ t∈l,eN t=true
 len:l.length<=6
theorem tripsOk_iff{l:List Trip}:dX l=true↔TrOk l:=by
 simp only[dX,Bool.and_eq_true,List.all_eq_true,decide_eq_true_eq]
 exact⟨fun⟨a,b⟩=>⟨a,b⟩,fun h=>⟨h.ok,h.len⟩⟩
theorem tripOk_iff{t:Trip}:eN t=true↔bV t.m=true/\1<=t.s/\t.s<=5:=by simp[eN,in_iff]
theorem pF{l:List Trip}{t:Int}(h:(t-1).toNat<l.length):tAt l t=l[(t-1).toNat]:=by unfold tAt;rw[List.getElem?_eq_getElem h];rfl
theorem gP{l:List Trip}{t:Int}(h:(t-1).toNat<l.length):tAt l t∈l:=by rw[pF h];exact List.getElem_mem h
theorem dY{l:List Trip}(r:Rec):(ch l r).length=if r.k=4 then l.length+1 else l.length:=by
 unfold ch
 split
 ·simp
 ·split
  ·simp
  ·split
   ·simp
   ·split<;>simp
theorem nk{l:List Trip}{r:Rec}(hl:TrOk l)(hr:aA r=true)(hm:bW l r=true):TrOk (ch l r):=by
 have ht:=cd hr
 by_cases h4:r.k=4
 ·simp only[bW,h4,if_true,beq_iff_eq]at hm
  refine⟨fun x hx=>?_,by rw[dY,if_pos h4];omega⟩
  simp only[ch,h4,if_true,List.mem_append,List.mem_singleton]at hx
  rcases hx with hx|rfl
  ·exact hl.ok x hx
  ·exact tripOk_iff.2 ⟨iq hr h4,by simp,by simp⟩
 ·refine⟨fun x hx=>?_,by rw[dY,if_neg h4];exact hl.len⟩
  simp only[bW,h4,if_false]at hm
  split at hm
  ·cases hm
  rename_i hlt
  have hi:(r.t-1).toNat<l.length:=by omega
  have ho:=tripOk_iff.1 (hl.ok _ (gP hi))
  unfold ch at hx
  simp only[h4,if_false]at hx
  split at hx
  ·rcases List.mem_or_eq_of_mem_set hx with hx|rfl
   ·exact hl.ok x hx
   ·exact tripOk_iff.2 ⟨ho.1,by simp,by simp⟩
  ·split at hx
   ·rcases List.mem_or_eq_of_mem_set hx with hx|rfl
    ·exact hl.ok x hx
    ·exact tripOk_iff.2 ⟨ho.1,by simp,by simp⟩
   ·split at hx
    ·rename_i h5 h6 h7
     rcases List.mem_or_eq_of_mem_set hx with hx|rfl
     ·exact hl.ok x hx
     ·rw[if_neg (by omega),if_pos h7]at hm
      simp only[Bool.or_eq_true,beq_iff_eq]at hm
      exact tripOk_iff.2 ⟨ho.1,by simp only;omega,by simp only;omega⟩
    ·exact hl.ok x hx
theorem gy:∀(a b:List Rec) (l:List Trip),bJ (a++b) l=(bJ a l).bind (bJ b)
 | [],b,l=>rfl
 | r::a,b,l=>by
  simp only[List.cons_append,bJ]
  split
  ·exact gy a b _
  ·rfl
theorem oS:∀ {rs:List Rec} {l l':List Trip},TrOk l->bJ rs l=some l'->TrOk l'/\l.length<=l'.length
 | [],l,l',h,e=>by simp only[bJ,Option.some.injEq]at e;exact e ▸ ⟨h,Nat.le_refl _⟩
 | r::rs,l,l',h,e=>by
  simp only[bJ]at e
  split at e
  ·rename_i hc;simp only[Bool.and_eq_true]at hc
   have:=oS (nk h hc.1 hc.2) e
   refine⟨this.1,Nat.le_trans ?_ this.2⟩
   rw[dY];split<;>omega
  ·cases e
theorem xK{rs:List Rec}{l l':List Trip}(h:bJ rs l=some l')(n:Nat):∃ l1,bJ (rs.take n) l=some l1/\bJ (rs.drop n) l1=some l':=by
 rw[<-List.take_append_drop n rs,gy]at h
 cases h1:bJ (rs.take n) l with
 | none=>rw[h1]at h;cases h
 | some s1=>rw[h1]at h;exact⟨s1,rfl,h⟩
theorem TrOk.nil:TrOk []:=⟨by simp,by simp⟩
theorem js{rs:List Rec}{l:List Trip}(h:a8 rs=some l):TrOk l:=(oS TrOk.nil h).1
theorem ev{rs:List Rec}{l:List Trip}(h:a8 rs=some l)(n:Nat):∃ l1,a8 (rs.take n)=some l1/\bJ (rs.drop n) l1=some l/\l1.length<=l.length:=by
 obtain⟨l1,h1,h2⟩:=xK h n
 exact⟨l1,h1,h2,(oS (js h1) h2).2⟩
theorem jV{rs:List Rec}{r:Rec}{l:List Trip}(h:a8 rs=some l)(hr:aA r=true)(hm:bW l r=true):a8 (rs++[r])=some (ch l r):=by
 unfold a8 at h ⊢
 rw[gy,h];simp[bJ,hr,hm]
theorem jt(n:Nat):∀(ws before:List Word),dp n before ws=true↔(∀ w∈ws,WdOk w/\4<=w.k/\w.t<=n)/\ws.Nodup/\∀ w∈ws,w∉before
 | [],before=>by simp[dp]
 | w::ws,before=>by
  simp only[dp,Bool.and_eq_true,jt n ws,wordOk_iff,decide_eq_true_eq,Bool.not_eq_true',List.mem_cons,List.nodup_cons,List.mem_append,List.mem_singleton,not_or,forall_eq_or_imp,List.contains_eq_mem,decide_eq_false_iff_not,ge_iff_le]
  constructor
  ·rintro⟨⟨⟨⟨h1,h2⟩,h3⟩,h4⟩,h5,h6,h7⟩
   exact⟨⟨⟨h1,h2,h3⟩,h5⟩,⟨fun hw=>(h7 w hw).2.1 rfl,h6⟩,h4,fun x hx=>(h7 x hx).1⟩
  ·rintro⟨⟨⟨h1,h2,h3⟩,h5⟩,⟨h6,h7⟩,h8,h9⟩
   exact⟨⟨⟨⟨h1,h2⟩,h3⟩,h8⟩,h5,h7,fun x hx=>⟨h9 x hx,fun e=>h6 (e ▸ hx),by simp⟩⟩
structure DkOk (d:Desk):Prop where
 lg:LgOk d.lg
 tr:a8 d.lg.rs=some (af d false)
 td:∀ w∈d.td,WdOk w/\4<=w.k/\w.t<=(af d false).length
 nd:d.td.Nodup
 up:d.up=true\/d.td=[]
theorem ju{d:Desk}{l:List Trip}(e:a8 d.lg.rs=some l):af d false=l:=by simp[af,ah,a9,e]
theorem deskOk_iff{d:Desk}:aU d=true↔DkOk d:=by
 simp only[aU,Bool.and_eq_true,logOk_iff]
 constructor
 ·rintro⟨h1,h2⟩
  split at h2
  ·rename_i l e
   have hl:=ju e
   simp only[Bool.and_eq_true,jt,Bool.or_eq_true,List.isEmpty_iff]at h2
   exact⟨h1,by rw[hl];exact e,by rw[hl];exact h2.1.1,h2.1.2.1,h2.2⟩
  ·cases h2
 ·intro h
  refine⟨h.lg,?_⟩
  rw[h.tr]
  simp only[Bool.and_eq_true,jt,Bool.or_eq_true,List.isEmpty_iff]
  exact⟨⟨h.td,h.nd,by simp⟩,h.up⟩
theorem DkOk.trips{d:Desk}(h:DkOk d)(forced:Bool):a8 (a9 d.lg forced)=some (af d forced):=by
 cases forced with
 | false=>simpa [a9] using h.tr
 | true =>
  obtain⟨l1,e,_⟩:=ev h.tr d.lg.f.toNat
  simp[af,ah,a9,e]
theorem DkOk.trOk{d:Desk}(h:DkOk d)(forced:Bool):TrOk (af d forced):=js (h.trips forced)
theorem DkOk.sub{d:Desk}(h:DkOk d):(af d true).length<=(af d false).length:=by
 obtain⟨l1,e,_,h3⟩:=ev h.tr d.lg.f.toNat
 have:=h.trips true
 simp only[a9,if_true]at this
 rw[this]at e;simp only[Option.some.injEq]at e;rw[e];exact h3
theorem eP(d:Desk)(r:Rec):(aQ d r).td=d.td/\(aQ d r).up=d.up/\(aQ d r).lg.f=d.lg.f:=by
 unfold aQ cL
 split
 ·split<;>exact⟨rfl,rfl,rfl⟩
 ·exact⟨rfl,rfl,rfl⟩
theorem DkOk.write{d:Desk}(h:DkOk d){r:Rec}(hr:aA r=true):DkOk (aQ d r)/\(af d false).length<=(af (aQ d r) false).length:=by
 unfold aQ
 split
 case isFalse=>exact⟨h,Nat.le_refl _⟩
 rename_i hc
 simp only[Bool.and_eq_true]at hc
 by_cases hl:d.lg.rs.length>=40
 ·have e:cL d.lg r=d.lg:=by simp[cL,hl]
  rw[e];exact⟨h,Nat.le_refl _⟩
 ·have e:cL d.lg r=⟨d.lg.rs++[r],d.lg.f⟩:=by simp[cL,hl]
  have e2:=jV h.tr hr hc.2
  have e3:af {d with lg:=cL d.lg r} false=ch (af d false) r:=ju (by rw[e];exact e2)
  have hlen:(af d false).length<=(ch (af d false) r).length:=by rw[dY];split<;>omega
  refine⟨⟨h.lg.add hr,by rw[e3,e];exact e2,?_,h.nd,h.up⟩,by rw[e3];exact hlen⟩
  intro w hw
  obtain⟨a,b,c⟩:=h.td w hw
  rw[e3];exact⟨a,b,by omega⟩
theorem DkOk.tell{d:Desk}(h:DkOk d){w:Word}(hw:bd d w=true):DkOk (aZ d w):=by
 simp only[bd,Bool.and_eq_true,decide_eq_true_eq,wordOk_iff]at hw
 unfold aZ
 split
 ·exact h
 ·rename_i hc
  refine⟨h.lg,h.tr,fun x hx=>?_,?_,.inl hw.1⟩
  ·rcases List.mem_append.1 hx with hx|hx
   ·exact h.td x hx
   ·simp at hx;subst hx;exact⟨hw.2.1,hw.2.2.1,hw.2.2.2⟩
  ·rw[List.nodup_append]
   refine⟨h.nd,by simp,fun a ha b hb e=>?_⟩
   simp at hb;subst hb;subst e
   simp at hc;exact hc ha
theorem eQ{d:Desk}{t:Int}(ht:1<=t/\t<=6)(hk:bC d t>0):aA ⟨bC d t,t,[]⟩=true:=by
 have:bC d t=5\/bC d t=6\/bC d t=7:=by
  revert hk;unfold bC;dsimp only
  split
  ·simp
  ·split
   ·simp
   ·split
    ·simp
    ·split<;>simp
 rcases this with e|e|e<;>rw[e]<;>simp[aA,in_iff,ht]
theorem fq(d:Desk)(w:Word):(aZ d w).up=d.up/\(aZ d w).lg=d.lg:=by unfold aZ;split<;>exact⟨rfl,rfl⟩
theorem DkOk.hear{d:Desk}(h:DkOk d)(w:Word):DkOk (dhear d w)/\(dhear d w).up=d.up/\(af d false).length<=(af (dhear d w) false).length:=by
 unfold dhear
 split
 case isFalse=>exact⟨h,rfl,Nat.le_refl _⟩
 rename_i hc
 have h1:=h.tell hc
 have ht:(af (aZ d w) false)=af d false:=by simp[af,ah,fq]
 unfold aF
 split
 ·rename_i hk
  simp only[bd,Bool.and_eq_true,decide_eq_true_eq,wordOk_iff]at hc
  have:=h1.write (eQ hc.2.1.t hk)
  exact⟨this.1,by rw[(eP _ _).2.1,(fq d w).1],by rw[<-ht];exact this.2⟩
 ·exact⟨h1,(fq d w).1,by rw[ht];exact Nat.le_refl _⟩
theorem DkOk.force{d:Desk}(h:DkOk d):DkOk (bv d):=by
 unfold bv
 split
 ·exact⟨h.lg.force,h.tr,h.td,h.nd,h.up⟩
 ·exact h
theorem DkOk.fall{d:Desk}(h:DkOk d)(keep:Int):DkOk (dfall d keep):=by
 obtain⟨l1,e,_,_⟩:=ev h.tr (iO d.lg keep).toNat
 exact⟨h.lg.fall keep,by rw[ju (d:=dfall d keep) e];exact e,by simp[dfall],by simp[dfall],.inr rfl⟩
theorem DkOk.rise{d:Desk}(h:DkOk d):DkOk (mv d):=⟨h.lg,h.tr,h.td,h.nd,.inl rfl⟩
theorem DkOk.begin{d:Desk}(h:DkOk d)(m:List Int):DkOk (dx d m):=by
 unfold dx
 split
 ·rename_i hr;exact(h.write hr).1
 ·exact h
theorem DkOk.give{d:Desk}(h:DkOk d)(t:Int):DkOk (mu d t):=by
 unfold mu
 split
 ·rename_i hr;exact(h.write (by simp[aA,in_iff,in_iff.1 hr])).1
 ·exact h
theorem xL:DkOk deskNew:=⟨⟨by simp[deskNew],by simp[deskNew],by simp[deskNew],by simp[deskNew]⟩,rfl,by simp[deskNew],by simp[deskNew],.inl rfl⟩
structure WOk (w:Wd):Prop where
 dk:DkOk w.dk
 len:w.hs.length=3
 hs:∀(i:Nat) (h:House),w.hs[i]?=some h->HsOk h/\h.id=i+1
 nlen:w.ns.length<=14
 ns:∀ x∈w.ns,WdOk x
theorem worldOk_iff{w:Wd}:cj w=true↔WOk w:=by
 simp only[cj,Bool.and_eq_true,deskOk_iff,beq_iff_eq,decide_eq_true_eq,List.all_eq_true,houseOk_iff,wordOk_iff]
 constructor
 ·rintro⟨h1,h2,h3,h4,h5,h6⟩
  refine⟨h1,h2,fun i h e=>⟨h4 h (List.mem_of_getElem? e),?_⟩,h3,h6⟩
  have:=h5 (h,1+i) (by rw[List.mem_zipIdx_iff_le_and_getElem?_sub];exact⟨by omega,by simpa using e⟩)
  simp only at this;omega
 ·intro h
  refine⟨h.dk,h.len,h.nlen,fun x hx=>?_,fun p hp=>?_,h.ns⟩
  ·obtain⟨i,hi⟩:=List.mem_iff_getElem?.1 hx;exact(h.hs i x hi).1
  ·rw[List.mem_zipIdx_iff_le_and_getElem?_sub]at hp
   have:=(h.hs _ _ hp.2).2;omega
theorem WOk.houseAt{w:Wd}(h:WOk w){i:Int}(hi:1<=i/\i<=3):w.hs[(i-1).toNat]?=some (houseAt w i)/\HsOk (houseAt w i)/\(houseAt w i).id=i:=by
 have hl:(i-1).toNat<w.hs.length:=by rw[h.len];omega
 have e:w.hs[(i-1).toNat]?=some (Dx.houseAt w i):=by unfold Dx.houseAt;rw[List.getElem?_eq_getElem hl];rfl
 have:=h.hs _ _ e
 exact⟨e,this.1,by rw[this.2];omega⟩
theorem WOk.setHouse{w:Wd}(h:WOk w){i:Int}(hi:1<=i/\i<=3){x:House}(hx:HsOk x)(hid:x.id=i):WOk (setHouse w i x):=by
 refine⟨h.dk,by simp[Dx.setHouse,h.len],fun j y e=>?_,h.nlen,h.ns⟩
 simp only[Dx.setHouse,List.getElem?_set]at e
 split at e
 ·rename_i hj
  split at e
  ·simp only[Option.some.injEq]at e;subst e;exact⟨hx,by omega⟩
  ·cases e
 ·exact h.hs j y e
theorem WOk.desk{w:Wd}(h:WOk w){d:Desk}(hd:DkOk d):WOk {w with dk:=d}:=⟨hd,h.len,h.hs,h.nlen,h.ns⟩
theorem WOk.put{w:Wd}(h:WOk w){x:Word}(hx:WdOk x):WOk (fM w x):=by
 unfold fM
 split
 ·refine⟨h.dk,h.len,h.hs,by simp;omega,fun y hy=>?_⟩
  rcases List.mem_append.1 hy with hy|hy
  ·exact h.ns y hy
  ·simp at hy;exact hy ▸ hx
 ·exact h
theorem WOk.take{w:Wd}(h:WOk w)(i:Int):WOk (dV w i):=by
 refine⟨h.dk,h.len,h.hs,?_,fun y hy=>h.ns y (List.mem_of_mem_eraseIdx hy)⟩
 have:=List.length_eraseIdx_le w.ns i.toNat
 have:=h.nlen
 simp only[dV];omega
theorem WOk.hear{w:Wd}(h:WOk w){x:Word}(hx:WdOk x):WOk (aM w x).1/\∀ y,(aM w x).2=some y->WdOk y/\4<=y.k:=by
 unfold aM
 split
 ·exact⟨h.desk (h.dk.hear x).1,by simp⟩
 ·have:=h.houseAt hx.h
  refine⟨h.setHouse hx.h (this.2.1.hear x) (by rw[(oR _ _).1];exact this.2.2),fun y hy=>?_⟩
  have:=AX this.2.1 hy
  exact⟨this.1,this.2.1⟩
theorem WOk.net{w:Wd}(h:WOk w)(e:Ev):WOk (jS w e):=by
 unfold jS
 split
 ·exact h
 ·rename_i x hx
  have hx:WdOk x:=by
   split at hx
   ·exact h.ns x (List.mem_of_getElem? hx)
   ·cases hx
  split
  ·exact h.take _
  ·split
   ·exact h.put hx
   ·have:=(h.take e.a).hear hx
    cases hy:(aM (dV w e.a) x).2 with
    | none=>exact this.1
    | some y=>exact this.1.put (this.2 y hy).1
theorem AY{td:List Word}{s t h n:Int}(ht:1<=t/\t<=6)(hs:1<=s/\s<=3)(hh:1<=h/\h<=3)(hn:0<=n/\n<=3){x:Word}(hx:x∈fL td s t h n):WdOk x/\x.k=s/\x.t=t/\x.h=h/\x.k<=3/\n≠0:=by
 unfold fL at hx
 split at hx
 ·cases hx
 ·rename_i hc
  simp only[not_or]at hc
  simp at hx;subst hx
  refine⟨⟨hh,ht,by simp only;omega,fun hk=>?_,fun hk=>?_⟩,rfl,rfl,rfl,hs.2,hc.1⟩
  ·simp only at hk;simp only[hk,if_true];omega
  ·simp only at hk;simp[hk]
theorem jW{td:List Word}{s t:Int}:∀ {ns:List Int} {h:Int} {x:Word},x∈ba td s t h ns->∃(j:Nat) (n:Int),ns[j]?=some n/\x∈fL td s t (h+j) n
 | [],h,x,hx=>by simp[ba]at hx
 | n::ns,h,x,hx=>by
  simp only[ba,List.mem_append]at hx
  rcases hx with hx|hx
  ·exact⟨0,n,rfl,by simpa using hx⟩
  ·obtain⟨j,m,e,hm⟩:=jW hx
   refine⟨j+1,m,by simpa using e,?_⟩
   have:h+((j+1:Nat):Int)=h+1+j:=by omega
   rw[this];exact hm
theorem nm{td:List Word}:∀ {l:List Trip} {t:Int} {x:Word},x∈cy td t l->∃(i:Nat) (y:Trip),l[i]?=some y/\y.s<=3/\x∈ba td y.s (t+i) 1 y.m
 | [],t,x,hx=>by simp[cy]at hx
 | y::ys,t,x,hx=>by
  simp only[cy,List.mem_append]at hx
  rcases hx with hx|hx
  ·split at hx
   ·cases hx
   ·exact⟨0,y,rfl,by omega,by simpa using hx⟩
  ·obtain⟨i,z,e,h1,h2⟩:=nm hx
   refine⟨i+1,z,by simpa using e,h1,?_⟩
   have:t+((i+1:Nat):Int)=t+1+i:=by omega
   rw[this];exact h2
theorem fe{d:Desk}(h:DkOk d){x:Word}(hx:x∈aN d):WdOk x/\x.k<=3/\d.up=true/\x.t<=(af d true).length/\(tAt (af d true) x.t).s=x.k/\∃ n,(tAt (af d true) x.t).m[(x.h-1).toNat]?=some n/\n≠0/\x∈fL d.td x.k x.t x.h n:=by
 unfold aN at hx
 split at hx
 case isFalse=>cases hx
 rename_i hup
 obtain⟨i,y,e,h1,h2⟩:=nm hx
 obtain⟨j,n,e2,h3⟩:=jW h2
 have hi:=(List.getElem?_eq_some_iff.1 e).1
 have hj:=(List.getElem?_eq_some_iff.1 e2).1
 have tr:=h.trOk true
 have hy:=tripOk_iff.1 (tr.ok y (List.mem_of_getElem? e))
 have hm:=aT hy.1
 have hn:=gG hy.1 (List.mem_of_getElem? e2)
 have hlen:=tr.len
 have key:=AY (t:=1+(i:Int)) (h:=1+(j:Int)) (by omega) ⟨hy.2.1,h1⟩ (by omega) hn h3
 obtain⟨k1,k2,k3,k4,k5,k6⟩:=key
 have et:(x.t-1).toNat=i:=by omega
 have eh:(x.h-1).toNat=j:=by omega
 have ey:tAt (af d true) x.t=y:=by simp[tAt,et,e]
 refine⟨k1,k5,hup,by omega,by rw[ey,k2],n,by rw[ey,eh];exact e2,k6,?_⟩
 rw[k2,k3,k4];exact h3
theorem WOk.deskEv{w:Wd}(h:WOk w)(e:Ev):WOk (iQ w e):=by
 unfold iQ
 split
 ·exact h.desk (h.dk.begin _)
 ·split
  ·exact h.desk (h.dk.give _)
  ·split
   ·split
    ·rename_i x hx
     split at hx
     ·exact h.put (fe h.dk (List.mem_of_getElem? hx)).1
     ·cases hx
    ·exact h
   ·exact h
theorem iR(h:House):(bQ h).id=h.id/\(bQ h).room=h.room/\(bQ h).up=h.up:=by unfold bQ;split<;>exact⟨rfl,rfl,rfl⟩
theorem WOk.forceEv{w:Wd}(h:WOk w)(i:Int):WOk (dy w i):=by
 unfold dy
 split
 ·exact h.desk h.dk.force
 ·split
  ·rename_i hi
   have:=h.houseAt (in_iff.1 hi)
   exact h.setHouse (in_iff.1 hi) this.2.1.force (by rw[(iR _).1];exact this.2.2)
  ·exact h
theorem WOk.node{w:Wd}(h:WOk w)(e:Ev):WOk (cP w e):=by
 unfold cP
 split
 case isFalse=>exact h
 rename_i hi
 have hi:=in_iff.1 hi
 split
 ·exact h.forceEv _
 ·split
  ·split
   ·exact h.desk (h.dk.fall _)
   ·have:=h.houseAt (i:=e.a) (by omega)
    exact h.setHouse (by omega) (this.2.1.fall _) this.2.2
  ·split
   ·split
    ·exact h.desk h.dk.rise
    ·have:=h.houseAt (i:=e.a) (by omega)
     exact h.setHouse (by omega) this.2.1.rise this.2.2
   ·exact h
theorem WOk.do_{w:Wd}(h:WOk w)(e:Ev):WOk (wdo w e):=by
 unfold wdo
 split
 ·exact h.deskEv e
 ·split
  ·exact h.net e
  ·split
   ·exact h.node e
   ·exact h
theorem WOk.plays{w:Wd}(h:WOk w):∀ es:List Ev,WOk (c7 w es)
 | []=>h
 | e::es=>(h.do_ e).plays es
theorem WOk.hear2{w:Wd}(h:WOk w){x:Word}(hx:WdOk x):WOk (bw w x):=by
 unfold bw
 have:=h.hear hx
 split
 ·rename_i y hy;exact(this.1.hear (this.2 y hy).1).1
 ·exact this.1
theorem WOk.hears{w:Wd}(h:WOk w):∀ {xs:List Word},(∀ x∈xs,WdOk x)->WOk (fN w xs)
 | [],_=>h
 | x::xs,hx=>(h.hear2 (hx x (by simp))).hears (fun y hy=>hx y (by simp[hy]))
theorem WOk.map{w:Wd}(h:WOk w){d:Desk}(hd:DkOk d){f:House->House}(hf:∀ x,HsOk x->HsOk (f x)/\(f x).id=x.id):WOk ⟨d,w.hs.map f,w.ns⟩:=by
 refine⟨hd,by simp[h.len],fun i x e=>?_,h.nlen,h.ns⟩
 simp only[List.getElem?_map,Option.map_eq_some_iff]at e
 obtain⟨y,e,rfl⟩:=e
 have:=h.hs i y e
 exact⟨(hf y this.1).1,by rw[(hf y this.1).2];exact this.2⟩
theorem WOk.round{w:Wd}(h:WOk w):WOk (eO w):=by
 have h1:WOk (fa w):=h.map h.dk.rise fun x hx=>⟨hx.rise,rfl⟩
 have h2:WOk {fa w with ns:=[]}:=⟨h1.dk,h1.len,h1.hs,by simp,by simp⟩
 have h3:=h2.hears (xs:=w.ns++aN (mv w.dk)) (fun x hx=>by
  rcases List.mem_append.1 hx with hx|hx
  ·exact h.ns x hx
  ·exact(fe h.dk.rise hx).1)
 exact h3.map h3.dk.force fun x hx=>⟨hx.force,(iR x).1⟩
theorem WOk.calm{w:Wd}(h:WOk w)(n:Nat):WOk (BL w n):=by
 induction n generalizing w with
 | zero=>exact h
 | succ n ih=>exact ih h.round
theorem ir{rooms:List Int}{w:Wd}(h:bZ rooms=some w):WOk w:=by
 unfold bZ at h
 split at h
 case isFalse=>cases h
 rename_i hc
 simp only[List.all_eq_true,in_iff]at hc
 simp only[Option.some.injEq]at h;subst h
 refine⟨xL,by simp[dJ,hc.1],fun i x e=>?_,by simp,by simp⟩
 simp only[dJ,List.getElem?_map,Option.map_eq_some_iff,List.getElem?_zipIdx]at e
 obtain⟨p,⟨q,e,rfl⟩,rfl⟩:=e
 have hi:=(List.getElem?_eq_some_iff.1 e).1
 refine⟨⟨by simp only;omega,⟨by simp,by simp,by simp,by simp⟩,_,stockOf_some.2 ⟨hc.2 _ (List.mem_of_getElem? e),rfl⟩⟩,by simp only;omega⟩
end Dx
namespace Dx
def hle(a b:Hold):Prop:=a.s=0\/(b.m=a.m/\(b.s=a.s\/(a.s=1/\(b.s=2\/b.s=3))))
def tle(a b:Trip):Prop:=b.m=a.m/\(b.s=a.s\/(a.s=1/\(2<=b.s/\b.s<=5))\/(a.s=2/\b.s=4)\/(a.s=3/\b.s=5))
theorem hle.rfl'(a:Hold):hle a a:=.inr ⟨rfl,.inl rfl⟩
theorem tle.rfl'(a:Trip):tle a a:=⟨rfl,.inl rfl⟩
theorem hle.trans{a b c:Hold}(h1:hle a b)(h2:hle b c):hle a c:=by
 unfold hle at *;rcases h1 with h1|⟨e1,h1⟩
 ·exact .inl h1
 ·rcases h2 with h2|⟨e2,h2⟩
  ·left;omega
  ·right;exact⟨e2.trans e1,by omega⟩
theorem tle.trans{a b c:Trip}(h1:tle a b)(h2:tle b c):tle a c:=by
 obtain⟨e1,h1⟩:=h1;obtain⟨e2,h2⟩:=h2
 exact⟨e2.trans e1,by omega⟩
theorem E8{hs:List Hold}{t u:Int}{x:Hold}(ht:1<=t/\(t-1).toNat<hs.length)(hu:1<=u):hAt (hs.set (t-1).toNat x) u=if u=t then x else hAt hs u:=by
 unfold hAt
 rw[List.getElem?_set]
 by_cases e:u=t
 ·subst e;rw[if_pos rfl,if_pos ht.2,if_pos rfl];rfl
 ·rw[if_neg (by omega),if_neg e]
theorem tX{s:Stock}{r:Rec}(hl:s.hs.length=6)(hr:aA r=true){u:Int}(hu:1<=u):hAt (act s r).hs u=if u=r.t then io (hAt s.hs r.t) r else hAt s.hs u:=by
 have:=cd hr
 exact E8 (by rw[hl];omega) hu
theorem Ab{s:Stock}{r:Rec}(hl:s.hs.length=6)(hr:aA r=true)(hm:may s r=true){u:Int}(hu:1<=u):hle (hAt s.hs u) (hAt (act s r).hs u):=by
 rw[tX hl hr hu]
 split
 case isFalse=>exact hle.rfl' _
 rename_i e;subst e
 simp only[may,dW]at hm
 unfold io hle
 split at hm
 ·rename_i h1;simp only[Bool.and_eq_true,beq_iff_eq]at hm;exact .inl hm.1
 ·split at hm
  ·rename_i h1 h2;simp only[beq_iff_eq]at hm;simp[h1,h2,hm]
  ·split at hm
   ·rename_i h1 h2 h3;simp only[Bool.or_eq_true,beq_iff_eq]at hm;simp[h1,h2,h3];omega
   ·cases hm
theorem sw{l:List Trip}{t u:Int}{x:Trip}(ht:1<=t/\(t-1).toNat<l.length)(hu:1<=u):tAt (l.set (t-1).toNat x) u=if u=t then x else tAt l u:=by
 unfold tAt
 rw[List.getElem?_set]
 by_cases e:u=t
 ·subst e;rw[if_pos rfl,if_pos ht.2,if_pos rfl];rfl
 ·rw[if_neg (by omega),if_neg e]
theorem u7{l:List Trip}{x:Trip}{t:Int}(ht:1<=t):tAt (l++[x]) t=if t=l.length+1 then x else tAt l t:=by
 unfold tAt
 by_cases e:t=l.length+1
 ·subst e;simp
 ·rw[if_neg e]
  by_cases h:(t-1).toNat<l.length
  ·rw[List.getElem?_append_left h]
  ·rw[List.getElem?_eq_none (by simp;omega),List.getElem?_eq_none (by omega)]
theorem ff{l:List Trip}{r:Rec}(hr:aA r=true)(hm:bW l r=true){u:Int}(hu:1<=u) :
  tAt (ch l r) u=if u=r.t then(if r.k=4 then⟨r.m,1⟩ else if r.k=5 then⟨(tAt l r.t).m,2⟩ else if r.k=6 then⟨(tAt l r.t).m,3⟩ else⟨(tAt l r.t).m,(tAt l r.t).s+2⟩) else tAt l u:=by
 have ht:=cd hr
 have hk:=E5 hr
 simp only[bW]at hm
 unfold ch
 split at hm
 ·rename_i h4
  simp only[beq_iff_eq]at hm
  rw[if_pos h4,u7 hu,hm]
  by_cases e:u=l.length+1
  ·simp[e,h4]
  ·simp[e]
 ·rename_i h4
  split at hm
  ·cases hm
  rename_i hlt
  have hi:1<=r.t/\(r.t-1).toNat<l.length:=by omega
  rw[if_neg h4];simp only[h4,if_false]
  split
  ·rename_i h5;rw[sw hi hu];try simp[*]
  ·split
   ·rename_i h5 h6;rw[sw hi hu];try simp[*]
   ·split
    ·rename_i h5 h6 h7;rw[sw hi hu];try simp[*]
    ·rename_i h5 h6 h7;exfalso
     simp only[h5,h6,h7,or_self,if_false]at hm;cases hm
theorem gj{l:List Trip}{r:Rec}(hr:aA r=true)(hm:bW l r=true) :
  (r.k=4/\r.t=l.length+1)\/(1<=r.t/\r.t<=l.length/\((r.k=5\/r.k=6)/\(tAt l r.t).s=1\/r.k=7/\((tAt l r.t).s=2\/(tAt l r.t).s=3))):=by
 have ht:=cd hr
 simp only[bW]at hm
 split at hm
 ·rename_i h4;simp only[beq_iff_eq]at hm;exact .inl ⟨h4,hm⟩
 ·split at hm
  ·cases hm
  rename_i hlt
  split at hm
  ·rename_i h;simp only[beq_iff_eq]at hm;exact .inr ⟨ht.1,by omega,.inl ⟨h,hm⟩⟩
  ·split at hm
   ·rename_i h;simp only[Bool.or_eq_true,beq_iff_eq]at hm;exact .inr ⟨ht.1,by omega,.inr ⟨h,hm⟩⟩
   ·cases hm
theorem u9{l:List Trip}{r:Rec}(hr:aA r=true)(hm:bW l r=true){u:Int}(hu:1<=u)(hl:u<=l.length):tle (tAt l u) (tAt (ch l r) u):=by
 rw[ff hr hm hu]
 split
 case isFalse=>exact tle.rfl' _
 rename_i e;subst e
 rcases gj hr hm with ⟨_,h⟩|⟨_,_,⟨h,h1⟩|⟨h,h1⟩⟩
 ·omega
 ·rw[if_neg (by omega)]
  rcases h with h|h
  ·rw[if_pos h];exact⟨rfl,.inr (.inl ⟨h1,by simp,by simp⟩)⟩
  ·rw[if_neg (by omega),if_pos h];exact⟨rfl,.inr (.inl ⟨h1,by simp,by simp⟩)⟩
 ·rw[if_neg (by omega),if_neg (by omega),if_neg (by omega)]
  refine⟨rfl,?_⟩
  simp only;omega
structure tpre (l l':List Trip):Prop where
 len:l.length<=l'.length
 le:∀ u:Int,1<=u->u<=l.length->tle (tAt l u) (tAt l' u)
theorem tpre.rfl'(l:List Trip):tpre l l:=⟨Nat.le_refl _,fun _ _ _=>tle.rfl' _⟩
theorem tpre.trans{a b c:List Trip}(h1:tpre a b)(h2:tpre b c):tpre a c :=
 ⟨Nat.le_trans h1.len h2.len,fun u hu hl=>(h1.le u hu hl).trans (h2.le u hu (by have:=h1.len;omega))⟩
theorem qW:∀ {rs:List Rec} {l l':List Trip},bJ rs l=some l'->tpre l l'
 | [],l,l',e=>by simp only[bJ,Option.some.injEq]at e;rw[e];exact tpre.rfl' _
 | r::rs,l,l',e=>by
  simp only[bJ]at e
  split at e
  ·rename_i hc;simp only[Bool.and_eq_true]at hc
   exact tpre.trans ⟨by rw[dY];split<;>omega,fun u hu hl=>u9 hc.1 hc.2 hu hl⟩ (qW e)
  ·cases e
def rk(t:Trip):Nat:=if t.s=1 then 1 else if t.s=2\/t.s=3 then 2 else 3
theorem va{α:Type}{l:List α}{i:Nat}{a:α}(f:α->Nat)(hi:i<l.length):((l.set i a).map f).sum+f l[i]=(l.map f).sum+f a:=by
 induction l generalizing i with
 | nil=>simp at hi
 | cons x xs ih=>cases i with
  | zero=>simp;omega
  | succ i=>simp only[List.length_cons]at hi;simp only[List.set_cons_succ,List.map_cons,List.sum_cons,List.getElem_cons_succ];have:=ih (i:=i) (by omega);omega
theorem E9{l:List Trip}{r:Rec}(hr:aA r=true)(hm:bW l r=true):((ch l r).map rk).sum=(l.map rk).sum+1:=by
 rcases gj hr hm with ⟨h4,h⟩|⟨h1,h2,h⟩
 ·simp[ch,h4,rk]
 ·have hi:(r.t-1).toNat<l.length:=by omega
  have key:∀ x:Trip,rk x=rk (tAt l r.t)+1->((l.set (r.t-1).toNat x).map rk).sum=(l.map rk).sum+1:=by
   intro x hx
   have:=va rk hi (a:=x)
   rw[pF hi]at hx;omega
  have n4:r.k≠4:=by omega
  rcases h with ⟨h5|h6,h⟩|⟨h7,h⟩
  ·simp only[ch,n4,h5,if_true,if_false];exact key _ (by simp[rk,h])
  ·simp only[ch,n4,h6,if_true,if_false];exact key _ (by simp[rk,h])
  ·simp only[ch,n4,h7,if_true,if_false]
   have:¬ ((7:Int)=5)/\¬ ((7:Int)=6)/\¬ ((7:Int)=4):=by omega
   simp only[this,if_false]
   refine key _ ?_
   rcases h with h|h<;>simp[rk,h]
theorem vb:∀ {rs:List Rec} {l l':List Trip},bJ rs l=some l'->(l'.map rk).sum=(l.map rk).sum+rs.length
 | [],l,l',e=>by simp only[bJ,Option.some.injEq]at e;rw[e];simp
 | r::rs,l,l',e=>by
  simp only[bJ]at e
  split at e
  ·rename_i hc;simp only[Bool.and_eq_true]at hc
   rw[vb e,E9 hc.1 hc.2];simp;omega
  ·cases e
theorem rk_le(t:Trip):rk t<=3:=by
 unfold rk
 split
 ·omega
 ·split<;>omega
theorem AZ(l:List Trip):(l.map rk).sum<=3*l.length:=by
 induction l with
 | nil=>simp
 | cons x xs ih=>have:=rk_le x;simp;omega
theorem uF{rs:List Rec}{l:List Trip}(h:a8 rs=some l):rs.length<=3*l.length:=by
 have:=vb h
 have:=AZ l
 simp at *;omega
theorem DkOk.len{d:Desk}(h:DkOk d):d.lg.rs.length<=3*(af d false).length:=uF h.tr
theorem DkOk.len18{d:Desk}(h:DkOk d):d.lg.rs.length<=18:=by have:=h.len;have:=(h.trOk false).len;omega
def hrk(h:Hold):Nat:=if h.s=0 then 0 else if h.s=1 then 1 else 2
theorem Fa{s:Stock}{r:Rec}(hs:StOk s)(hr:aA r=true)(hm:may s r=true):(s.hs.map hrk).sum+1<=((act s r).hs.map hrk).sum:=by
 have ht:=cd hr
 have hi:(r.t-1).toNat<s.hs.length:=by rw[hs.len];omega
 have:=va hrk hi (a:=io (hAt s.hs r.t) r)
 rw[<-tV hi]at this
 have key:hrk (hAt s.hs r.t)+1<=hrk (io (hAt s.hs r.t) r):=by
  simp only[may,dW]at hm
  unfold io
  split at hm
  ·rename_i h1;simp only[Bool.and_eq_true,beq_iff_eq]at hm;simp[h1,hrk,hm]
  ·split at hm
   ·rename_i h1 h2;simp only[beq_iff_eq]at hm;simp[h1,h2,hrk,hm]
   ·split at hm
    ·rename_i h1 h2 h3;simp only[Bool.or_eq_true,beq_iff_eq]at hm
     rcases hm with hm|hm<;>simp[h1,h2,h3,hrk,hm]
    ·cases hm
 simp only[act];omega
theorem qX:∀ {rs:List Rec} {s s':Stock},StOk s->bP rs s=some s'->(s.hs.map hrk).sum+rs.length<=(s'.hs.map hrk).sum
 | [],s,s',_,e=>by simp only[bP,Option.some.injEq]at e;rw[e];simp
 | r::rs,s,s',h,e=>by
  simp only[bP]at e
  split at e
  ·rename_i hc;simp only[Bool.and_eq_true]at hc
   have:=qX (tW h hc.1 hc.2) e
   have:=Fa h hc.1 hc.2
   simp;omega
  ·cases e
theorem xM(l:List Hold):(l.map hrk).sum<=2*l.length:=by
 induction l with
 | nil=>simp
 | cons x xs ih =>
  have:hrk x<=2:=by
   unfold hrk
   split
   ·omega
   ·split<;>omega
  simp;omega
theorem HsOk.len{h:House}(ho:HsOk h):h.lg.rs.length<=12:=by
 obtain⟨s,e⟩:=ho.st
 obtain⟨h1,h2⟩:=stockOf_some.1 e
 have:=qX (fA h1) h2
 have h3:=xM s.hs
 rw[(jr e).1.len]at h3
 omega
theorem vc:∀(n:Nat) (l:List Nat),l.Nodup->(∀ x∈l,x<n)->l.length<=n
 | 0,l,_,h=>by
  cases l with
  | nil=>simp
  | cons x xs=>have:=h x (by simp);omega
 | n+1,l,hn,h=>by
  have h1:=vc n (l.erase n) (hn.erase n) (fun x hx=>by
   have h2:=(hn.mem_erase_iff).1 hx
   have:=h x h2.2
   have:=h2.1
   omega)
  have h2:=List.length_erase (a:=n) (l:=l)
  split at h2<;>omega
theorem qY{α β:Type}{f:α->β}:∀ {l:List α},l.Nodup->(∀ x∈l,∀ y∈l,f x=f y->x=y)->(l.map f).Nodup
 | [],_,_=>by simp
 | a::l,hn,h=>by
  rw[List.nodup_cons]at hn
  rw[List.map_cons,List.nodup_cons]
  refine⟨fun hm=>?_,qY hn.2 (fun x hx y hy=>h x (by simp[hx]) y (by simp[hy]))⟩
  obtain⟨y,hy,e⟩:=List.mem_map.1 hm
  have:=h y (by simp[hy]) a (by simp) e
  exact hn.1 (this ▸ hy)
theorem DkOk.tdlen{d:Desk}(h:DkOk d):d.td.length<=72:=by
 have:=vc 72 (d.td.map fun w=>((w.k-4)*18+(w.h-1)*6+(w.t-1)).toNat) (qY h.nd (fun x hx y hy e=>by
  obtain⟨a,b,_⟩:=h.td x hx
  obtain⟨c,d,_⟩:=h.td y hy
  have:=a.h;have:=a.t;have:=a.k;have:=c.h;have:=c.t;have:=c.k
  have m1:=a.m0 (by omega)
  have m2:=c.m0 (by omega)
  obtain⟨k,hh,t,m⟩:=x
  obtain⟨k',hh',t',m'⟩:=y
  simp only at *
  subst m1;subst m2
  have:(k-4)*18+(hh-1)*6+(t-1)=(k'-4)*18+(hh'-1)*6+(t'-1):=by omega
  have:k=k'/\hh=hh'/\t=t':=by omega
  simp[this])) (fun x hx=>by
  obtain⟨y,hy,rfl⟩:=List.mem_map.1 hx
  obtain⟨a,b,_⟩:=h.td y hy
  have:=a.h;have:=a.t;have:=a.k
  omega)
 simpa using this
theorem eD(td:List Word)(s t:Int):∀(ns:List Int) (h:Int),(ba td s t h ns).length<=ns.length
 | [],h=>by simp[ba]
 | n::ns,h=>by
  have:=eD td s t ns (h+1)
  simp only[ba,fL,List.length_append,List.length_cons]
  split
  ·simp;omega
  ·simp only[List.length_cons,List.length_nil];omega
theorem jv(td:List Word):∀(l:List Trip) (t:Int),(∀ x∈l,x.m.length<=3)->(cy td t l).length<=3*l.length
 | [],t,_=>by simp[cy]
 | x::xs,t,hx=>by
  have h1:=jv td xs (t+1) (fun y hy=>hx y (by simp[hy]))
  have h2:=hx x (by simp)
  have h3:=eD td x.s t x.m 1
  simp only[cy,List.length_append,List.length_cons]
  split
  ·simp;omega
  ·omega
theorem gH{d:Desk}(h:DkOk d):(aN d).length<=18:=by
 unfold aN
 split
 ·have tF:=h.trOk true
  have:=jv d.td (af d true) 1 (fun x hx=>by have:=aT (tripOk_iff.1 (tF.ok x hx)).1;omega)
  have:=tF.len
  omega
 ·simp
theorem Fb{l:Log}{r:Rec}(h:l.rs.length<40):cL l r=⟨l.rs++[r],l.f⟩:=by simp[cL];omega
end Dx
namespace Dx
structure V where
 F:List Trip
 A:List Trip
 td:List Word
 ns:List Word
 hF:Int->Int->Hold
 hA:Int->Int->Hold
def V.sF(v:V)(t:Int):Int:=(tAt v.F t).s
def V.sA(v:V)(t:Int):Int:=(tAt v.A t).s
def mAt(m:List Int)(h:Int):Int:=(m[(h-1).toNat]?).getD 0
def V.want(v:V)(t h:Int):Int:=mAt (tAt v.F t).m h
structure NetOk (v:V) (x:Word):Prop where
 s:v.sF x.t≠0
 w:0<v.want x.t x.h
 k1:x.k=1->x.m=v.want x.t x.h
 k2:x.k=2->v.sF x.t=2\/v.sF x.t=4
 k3:x.k=3->v.sF x.t=3\/v.sF x.t=5
 k4:x.k=4->(v.hF x.h x.t).s≠0
 k6:x.k=6->(v.hF x.h x.t).s=2
 k7:x.k=7->(v.hF x.h x.t).s=3
structure HoldFit (v:V) (h t:Int):Prop where
 s:v.sF t≠0
 w:0<v.want t h
 m:(v.hA h t).s≠3->(v.hA h t).m=v.want t h
 m3:(v.hA h t).s=3->(v.hA h t).m=v.want t h\/(v.hA h t).m=0
 c:(v.hA h t).s=2->v.sF t=2\/v.sF t=4
 u:(v.hA h t).s=3->v.sF t=3\/v.sF t=5
def isH(h:Int):Prop:=1<=h/\h<=3
def isT(t:Int):Prop:=1<=t/\t<=6
structure TripFit (v:V) (t:Int):Prop where
 yes:v.sA t=2\/v.sA t=4->v.sF t≠0/\∀ h,isH h->0<v.want t h->(v.hF h t).s=1\/(v.hF h t).s=2
 kept:v.sA t=4->∀ h,isH h->0<v.want t h->(v.hF h t).s=2
 left:v.sA t=5->v.sF t≠0/\∀ h,isH h->0<v.want t h->(v.hF h t).s=3
 d1:v.sA t=1->aP v.td t 5 1 (tAt v.A t).m=false/\al v.td t 4 1 (tAt v.A t).m=false
 d2:v.sA t=2->al v.td t 6 1 (tAt v.A t).m=false
 d3:v.sA t=3->al v.td t 7 1 (tAt v.A t).m=false
structure Base (v:V):Prop where
 pre:tpre v.F v.A
 trA:TrOk v.A
 hle:∀ h t,isH h->isT t->hle (v.hF h t) (v.hA h t)
 okA:∀ h t,isH h->isT t->bh (v.hA h t)=true
 okF:∀ h t,isH h->isT t->bh (v.hF h t)=true
 tdo:∀ x∈v.td,WdOk x/\4<=x.k
 nso:∀ x∈v.ns,WdOk x
 net:∀ x∈v.ns,NetOk v x
 told:∀ x∈v.td,NetOk v x
 hold:∀ h t,isH h->isT t->(v.hA h t).s≠0->HoldFit v h t
structure Inv (v:V):Prop extends Base v where
 trip:∀ t,isT t->TripFit v t
theorem Dc{m:List Int}{h:Int}(hl:(h-1).toNat<m.length):mAt m h=m[(h-1).toNat]:=by unfold mAt;rw[List.getElem?_eq_getElem hl];rfl
theorem fB{td:List Word}{t k:Int}:∀ {m:List Int} {h:Int},al td t k h m=true↔∀(j:Nat) (n:Int),m[j]?=some n->0<n->(⟨k,h+j,t,0⟩:Word)∈td
 | [],h=>by simp[al]
 | n::ns,h=>by
  simp only[al,Bool.and_eq_true,fB (m:=ns),Bool.or_eq_true,Bool.not_eq_true',decide_eq_false_iff_not,List.contains_eq_mem,decide_eq_true_eq]
  constructor
  ·rintro⟨h1,h2⟩ j x hj hx
   cases j with
   | zero=>simp at hj;subst hj;simpa using h1.resolve_left (by omega)
   | succ j =>
    have:=h2 j x (by simpa using hj) hx
    rwa [show h+1+(j:Int)=h+((j+1:Nat):Int) by omega]at this
  ·intro hh
   refine⟨?_,fun j x hj hx=>?_⟩
   ·by_cases hn:n>0
    ·right;have:=hh 0 n rfl hn;simpa using this
    ·left;exact hn
   ·have:=hh (j+1) x (by simpa using hj) hx
    rwa [show h+((j+1:Nat):Int)=h+1+(j:Int) by omega]at this
theorem toldAny_iff{td:List Word}{t k:Int}:∀ {m:List Int} {h:Int},aP td t k h m=true↔∃(j:Nat) (n:Int),m[j]?=some n/\0<n/\(⟨k,h+j,t,0⟩:Word)∈td
 | [],h=>by simp[aP]
 | n::ns,h=>by
  simp only[aP,Bool.or_eq_true,toldAny_iff (m:=ns),Bool.and_eq_true,decide_eq_true_eq,List.contains_eq_mem]
  constructor
  ·rintro(⟨h1,h2⟩|⟨j,x,h1,h2,h3⟩)
   ·exact⟨0,n,rfl,h1,by simpa using h2⟩
   ·refine⟨j+1,x,by simpa using h1,h2,?_⟩
    rwa [show h+((j+1:Nat):Int)=h+1+(j:Int) by omega]
  ·rintro⟨j,x,h1,h2,h3⟩
   cases j with
   | zero=>simp at h1;subst h1;left;exact⟨h2,by simpa using h3⟩
   | succ j =>
    right;refine⟨j,x,by simpa using h1,h2,?_⟩
    rwa [show h+1+(j:Int)=h+((j+1:Nat):Int) by omega]
theorem da{td:List Word}{t k:Int}{m:List Int}(hm:m.length=3):al td t k 1 m=true↔∀ h,isH h->0<mAt m h->(⟨k,h,t,0⟩:Word)∈td:=by
 rw[fB]
 constructor
 ·intro hh h ⟨h1,h2⟩ hw
  have hl:(h-1).toNat<m.length:=by omega
  have:=hh (h-1).toNat m[(h-1).toNat] (by simp[hl]) (by rw[<-Dc hl];exact hw)
  rwa [show 1+(((h-1).toNat:Nat):Int)=h by omega]at this
 ·intro hh j n hj hn
  have hl:=(List.getElem?_eq_some_iff.1 hj).1
  refine hh (1+j) ⟨by omega,by omega⟩ ?_
  have:(1+(j:Int)-1).toNat=j:=by omega
  simp[mAt,this,hj,hn]
theorem iS{td:List Word}{t k:Int}{m:List Int}(hm:m.length=3):aP td t k 1 m=true↔∃ h,isH h/\0<mAt m h/\(⟨k,h,t,0⟩:Word)∈td:=by
 rw[toldAny_iff]
 constructor
 ·rintro⟨j,n,hj,hn,h⟩
  have hl:=(List.getElem?_eq_some_iff.1 hj).1
  refine⟨1+j,⟨by omega,by omega⟩,?_,h⟩
  have:(1+(j:Int)-1).toNat=j:=by omega
  simp[mAt,this,hj,hn]
 ·rintro⟨h,⟨h1,h2⟩,hw,hh⟩
  have hl:(h-1).toNat<m.length:=by omega
  refine⟨(h-1).toNat,m[(h-1).toNat],by simp[hl],by rw[<-Dc hl];exact hw,?_⟩
  rwa [show 1+(((h-1).toNat:Nat):Int)=h by omega]
theorem dP{m:List Int}(h:bV m=true):∃ x,isH x/\0<mAt m x:=by
 have hl:=aT h
 match m,hl with
 | [a,b,c],_ =>
  simp only[bV,Bool.and_eq_true,List.all_cons,in_iff,decide_eq_true_eq]at h
  obtain⟨⟨ha,hb,hc,_⟩,_,hs⟩:=h
  simp at hs
  by_cases h1:0<a
  ·exact⟨1,⟨by omega,by omega⟩,by simpa [mAt] using h1⟩
  ·by_cases h2:0<b
   ·exact⟨2,⟨by omega,by omega⟩,by simpa [mAt] using h2⟩
   ·exact⟨3,⟨by omega,by omega⟩,by simp[mAt];omega⟩
section
variable {v:V}
theorem bN{l:List Trip}{t:Int}(h:(tAt l t).s≠0):(t-1).toNat<l.length:=by
 unfold tAt at h
 by_cases e:(t-1).toNat<l.length
 ·exact e
 ·rw[List.getElem?_eq_none (by omega)]at h;exact absurd rfl h
theorem Base.A_ok(I:Base v){t:Int}(h:v.sA t≠0):bV (tAt v.A t).m=true/\1<=v.sA t/\v.sA t<=5 :=
 tripOk_iff.1 (I.trA.ok _ (gP (bN h)))
theorem Base.FA(I:Base v){t:Int}(ht:1<=t)(h:v.sF t≠0):tle (tAt v.F t) (tAt v.A t):=I.pre.le t ht (by have:=bN h;omega)
theorem Base.FA_s(I:Base v){t:Int}(ht:1<=t)(h:v.sF t≠0):v.sA t=v.sF t\/(v.sF t=1/\2<=v.sA t/\v.sA t<=5)\/(v.sF t=2/\v.sA t=4)\/(v.sF t=3/\v.sA t=5):=(I.FA ht h).2
theorem Base.FA_m(I:Base v){t:Int}(ht:1<=t)(h:v.sF t≠0)(x:Int):mAt (tAt v.A t).m x=v.want t x:=by rw[V.want,(I.FA ht h).1]
theorem Base.mem_told(I:Base v){t h k:Int}(hm:(⟨k,h,t,0⟩:Word)∈v.td):NetOk v ⟨k,h,t,0⟩:=I.told _ hm
end
structure Fwd (v v':V):Prop where
 F:tpre v.F v'.F
 h:∀ h t,isH h->isT t->hle (v.hF h t) (v'.hF h t)
theorem Fwd.sF{v v':V}(g:Fwd v v'){t:Int}(ht:1<=t)(h:v.sF t≠0):v'.sF t≠0/\(v.sF t=2\/v.sF t=4->v'.sF t=2\/v'.sF t=4)/\(v.sF t=3\/v.sF t=5->v'.sF t=3\/v'.sF t=5)/\∀ x,v'.want t x=v.want t x:=by
 have:=g.F.le t ht (by have:=bN h;omega)
 obtain⟨h1,h2⟩:=this
 unfold V.sF at *
 refine⟨by omega,by omega,by omega,fun x=>by unfold V.want;rw[h1]⟩
theorem NetOk.fwd{v v':V}(g:Fwd v v'){x:Word}(hx:WdOk x)(h:NetOk v x):NetOk v' x:=by
 obtain⟨f1,f2,f3,f4⟩:=g.sF hx.t.1 h.s
 have hh:=g.h x.h x.t hx.h hx.t
 refine⟨f1,by rw[f4];exact h.w,fun e=>by rw[f4];exact h.k1 e,fun e=>f2 (h.k2 e),fun e=>f3 (h.k3 e),fun e=>?_,fun e=>?_,fun e=>?_⟩
 ·have:=h.k4 e;unfold hle at hh;omega
 ·have:=h.k6 e;unfold hle at hh;omega
 ·have:=h.k7 e;unfold hle at hh;omega
end Dx
namespace Dx
theorem NetOk.congr{v v':V}{x:Word}(hF:tAt v'.F x.t=tAt v.F x.t)(hh:v'.hF x.h x.t=v.hF x.h x.t)(h:NetOk v x):NetOk v' x:=by
 have e1:v'.sF x.t=v.sF x.t:=by unfold V.sF;rw[hF]
 have e2:v'.want x.t x.h=v.want x.t x.h:=by unfold V.want;rw[hF]
 exact⟨by rw[e1];exact h.s,by rw[e2];exact h.w,by rw[e2];exact h.k1,by rw[e1];exact h.k2,by rw[e1];exact h.k3,by rw[hh];exact h.k4,by rw[hh];exact h.k6,by rw[hh];exact h.k7⟩
theorem HoldFit.congr{v v':V}{h t:Int}(hF:tAt v'.F t=tAt v.F t)(hh:v'.hA h t=v.hA h t)(g:HoldFit v h t):HoldFit v' h t:=by
 have e1:v'.sF t=v.sF t:=by unfold V.sF;rw[hF]
 have e2:v'.want t h=v.want t h:=by unfold V.want;rw[hF]
 exact⟨by rw[e1];exact g.s,by rw[e2];exact g.w,by rw[e2,hh];exact g.m,by rw[e2,hh];exact g.m3,by rw[e1,hh];exact g.c,by rw[e1,hh];exact g.u⟩
theorem TripFit.congr{v v':V}{t:Int}(hA:tAt v'.A t=tAt v.A t)(hF:tAt v'.F t=tAt v.F t)(hh:∀ h,isH h->v'.hF h t=v.hF h t)
  (htd:∀ k h,(⟨k,h,t,0⟩:Word)∈v'.td↔(⟨k,h,t,0⟩:Word)∈v.td) (g:TripFit v t):TripFit v' t:=by
 have e1:v'.sF t=v.sF t:=by unfold V.sF;rw[hF]
 have e2:∀ h,v'.want t h=v.want t h:=fun h=>by unfold V.want;rw[hF]
 have e3:v'.sA t=v.sA t:=by unfold V.sA;rw[hA]
 have all:∀ k m,al v'.td t k 1 m=al v.td t k 1 m:=fun k m=>by
  rw[Bool.eq_iff_iff,fB,fB];simp only[htd]
 have any:∀ k m,aP v'.td t k 1 m=aP v.td t k 1 m:=fun k m=>by
  rw[Bool.eq_iff_iff,toldAny_iff,toldAny_iff];simp only[htd]
 refine⟨fun h=>?_,fun h x hx hw=>?_,fun h=>?_,fun h=>?_,fun h=>?_,fun h=>?_⟩
 ·have:=g.yes (by rwa [e3]at h)
  exact⟨by rw[e1];exact this.1,fun x hx hw=>by rw[hh x hx];exact this.2 x hx (by rwa [e2]at hw)⟩
 ·rw[hh x hx];exact g.kept (by rwa [e3]at h) x hx (by rwa [e2]at hw)
 ·have:=g.left (by rwa [e3]at h)
  exact⟨by rw[e1];exact this.1,fun x hx hw=>by rw[hh x hx];exact this.2 x hx (by rwa [e2]at hw)⟩
 ·rw[hA,all,any];exact g.d1 (by rwa [e3]at h)
 ·rw[hA,all];exact g.d2 (by rwa [e3]at h)
 ·rw[hA,all];exact g.d3 (by rwa [e3]at h)
section
variable {v:V}
theorem Base.all_told(I:Base v){t k:Int}(ht:isT t)(hs:v.sA t≠0)(h:al v.td t k 1 (tAt v.A t).m=true) :
  v.sF t≠0/\(k=4->∀ h,isH h->0<v.want t h->(v.hF h t).s≠0)/\(k=6->(v.sF t=2\/v.sF t=4)/\∀ h,isH h->0<v.want t h->(v.hF h t).s=2)/\(k=7->(v.sF t=3\/v.sF t=5)/\∀ h,isH h->0<v.want t h->(v.hF h t).s=3):=by
 have hm:=(I.A_ok hs).1
 have hl:=aT hm
 rw[da hl]at h
 obtain⟨x,hx,hw⟩:=dP hm
 have n0:=I.mem_told (h x hx hw)
 have hsF:v.sF t≠0:=n0.s
 have wm:=fun y=>I.FA_m ht.1 hsF y
 refine⟨hsF,fun hk y hy hwy=>?_,fun hk=>⟨?_,fun y hy hwy=>?_⟩,fun hk=>⟨?_,fun y hy hwy=>?_⟩⟩
 ·exact(I.mem_told (h y hy (by rw[wm];exact hwy))).k4 hk
 ·have h2:=n0.k6 hk
  have:=I.hle x t hx ht
  exact(I.hold x t hx ht (by unfold Dx.hle at this;simp only at h2;omega)).c (by unfold Dx.hle at this;simp only at h2;omega)
 ·exact(I.mem_told (h y hy (by rw[wm];exact hwy))).k6 hk
 ·have h2:=n0.k7 hk
  have:=I.hle x t hx ht
  exact(I.hold x t hx ht (by unfold Dx.hle at this;simp only at h2;omega)).u (by unfold Dx.hle at this;simp only at h2;omega)
 ·exact(I.mem_told (h y hy (by rw[wm];exact hwy))).k7 hk
theorem ve{l:List Trip}{r:Rec}(hr:aA r=true)(hm:bW l r=true):tpre l (ch l r) :=
 ⟨by rw[dY];split<;>omega,fun _ hu hl=>u9 hr hm hu hl⟩
theorem Base.write(I:Base v){r:Rec}(hr:aA r=true)(hm:bW v.A r=true):Base {v with A:=ch v.A r} :=
 ⟨I.pre.trans (ve hr hm),nk I.trA hr hm,I.hle,I.okA,I.okF,I.tdo,I.nso,fun x hx=>NetOk.congr (v:=v) rfl rfl (I.net x hx),fun x hx=>NetOk.congr (v:=v) rfl rfl (I.told x hx),fun h t hh htt hs=>HoldFit.congr (v:=v) rfl rfl (I.hold h t hh htt hs)⟩
theorem TripFit.other{v:V}{r:Rec}(hr:aA r=true)(hm:bW v.A r=true){t:Int}(ht:isT t)(e:t≠r.t)(h:TripFit v t):TripFit {v with A:=ch v.A r} t :=
 TripFit.congr (v:=v) (by simp only;rw[ff hr hm ht.1,if_neg e]) rfl (fun _ _=>rfl) (fun _ _=>Iff.rfl) h
theorem Base.no_told(I:Base v){t k:Int}(ht:isT t)(hk:k=6\/k=7)(hs:v.sA t=1):al v.td t k 1 (tAt v.A t).m=false:=by
 cases e:al v.td t k 1 (tAt v.A t).m with
 | false=>rfl
 | true =>
  exfalso
  obtain⟨h1,_,h6,h7⟩:=I.all_told ht (by omega) e
  have:=I.FA_s ht.1 h1
  rcases hk with hk|hk
  ·have:=(h6 hk).1;omega
  ·have:=(h7 hk).1;omega
theorem Base.begin_fit(I:Base v){r:Rec}(hr:aA r=true)(hm:bW v.A r=true)(h4:r.k=4):TripFit {v with A:=ch v.A r} r.t:=by
 have hrt:=cd hr
 have hlen:r.t=v.A.length+1:=by simpa [bW,h4] using hm
 have ea:tAt (ch v.A r) r.t=⟨r.m,1⟩:=by rw[ff hr hm hrt.1];simp[h4]
 have es:V.sA {v with A:=ch v.A r} r.t=1:=by unfold V.sA;rw[ea]
 have non:∀ k h,(⟨k,h,r.t,0⟩:Word)∉v.td:=fun k h hx=>by
  have hs:=(I.mem_told hx).s
  have:=bN hs
  have:=I.pre.len
  simp only at *;omega
 refine⟨fun h=>by rw[es]at h;omega,fun h=>by rw[es]at h;omega,fun h=>by rw[es]at h;omega,fun _=>?_,fun h=>by rw[es]at h;omega,fun h=>by rw[es]at h;omega⟩
 simp only[ea]
 have hm:=iq hr h4
 have hl:=aT hm
 constructor
 ·cases e:aP v.td r.t 5 1 r.m with
  | false=>rfl
  | true=>obtain⟨h,_,_,hx⟩:=(iS hl).1 e;exact absurd hx (non _ _)
 ·cases e:al v.td r.t 4 1 r.m with
  | false=>rfl
  | true =>
   obtain⟨h,hh,hw⟩:=dP hm
   exact absurd ((da hl).1 e h hh hw) (non _ _)
theorem Base.no_fit(I:Base v){t:Int}(ht:isT t)(hs:v.sA t=1):bW v.A ⟨6,t,[]⟩=true/\TripFit {v with A:=ch v.A ⟨6,t,[]⟩} t:=by
 have hr:aA ⟨6,t,[]⟩=true:=by simp[aA,in_iff,ht.1,ht.2]
 have hl:=bN (l:=v.A) (t:=t) (by unfold V.sA at hs;omega)
 have h1:=ht.1
 have hs':(tAt v.A t).s=1:=hs
 have hm:bW v.A ⟨6,t,[]⟩=true:=by simp only[bW];rw[if_neg (by omega),if_neg (by omega)];simp[hs']
 refine⟨hm,?_⟩
 have ea:tAt (ch v.A ⟨6,t,[]⟩) t=⟨(tAt v.A t).m,3⟩:=by rw[ff hr hm ht.1];simp
 have es:V.sA {v with A:=ch v.A ⟨6,t,[]⟩} t=3:=by unfold V.sA;rw[ea]
 refine⟨fun h=>by simp only[es]at h;omega,fun h=>by simp only[es]at h;omega,fun h=>by simp only[es]at h;omega,fun h=>by simp only[es]at h;omega,fun h=>by simp only[es]at h;omega,fun _=>?_⟩
 simp only[ea]
 exact I.no_told ht (.inr rfl) hs
theorem Base.not_undone(I:Base v){t h:Int}(ht:isT t)(hh:isH h)(hs:v.sA t=1\/v.sA t=2\/v.sA t=4):(v.hA h t).s≠3/\(v.hF h t).s≠3:=by
 have key:(v.hA h t).s≠3:=fun e=>by
  have g:=I.hold h t hh ht (by omega)
  have h1:=g.u e
  have h2:=I.FA_s ht.1 g.s
  omega
 refine⟨key,fun e=>?_⟩
 have:=I.hle h t hh ht
 unfold Dx.hle at this;omega
theorem oT{x:Hold}(h:bh x=true):0<=x.s/\x.s<=3:=by
 unfold bh at h
 split at h
 ·omega
 ·split at h
  ·omega
  ·split at h
   ·omega
   ·cases h
theorem Base.yes_fit(I:Base v){t:Int}(ht:isT t)(hs:v.sA t=1)(ha:al v.td t 4 1 (tAt v.A t).m=true):bW v.A ⟨5,t,[]⟩=true/\TripFit {v with A:=ch v.A ⟨5,t,[]⟩} t:=by
 have hr:aA ⟨5,t,[]⟩=true:=by simp[aA,in_iff,ht.1,ht.2]
 have hl:=bN (l:=v.A) (t:=t) (by unfold V.sA at hs;omega)
 have h1:=ht.1
 have hs':(tAt v.A t).s=1:=hs
 have hm:bW v.A ⟨5,t,[]⟩=true:=by simp only[bW];rw[if_neg (by omega),if_neg (by omega)];simp[hs']
 refine⟨hm,?_⟩
 have ea:tAt (ch v.A ⟨5,t,[]⟩) t=⟨(tAt v.A t).m,2⟩:=by rw[ff hr hm ht.1];simp
 have es:V.sA {v with A:=ch v.A ⟨5,t,[]⟩} t=2:=by unfold V.sA;rw[ea]
 obtain⟨k1,k2,_,_⟩:=I.all_told ht (by omega) ha
 refine⟨fun _=>⟨k1,fun h hh hw=>?_⟩,fun h=>by simp only[es]at h;omega,fun h=>by simp only[es]at h;omega,fun h=>by simp only[es]at h;omega,fun _=>?_,fun h=>by simp only[es]at h;omega⟩
 ·have g1:=k2 rfl h hh hw
  have g2:=(I.not_undone ht hh (.inl hs)).2
  have g3:=oT (I.okF h t hh ht)
  show (v.hF h t).s=1\/(v.hF h t).s=2
  omega
 ·simp only[ea]
  exact I.no_told ht (.inl rfl) hs
theorem Base.end_fit(I:Base v){t:Int}(ht:isT t)(h:v.sA t=2/\al v.td t 6 1 (tAt v.A t).m=true\/v.sA t=3/\al v.td t 7 1 (tAt v.A t).m=true):bW v.A ⟨7,t,[]⟩=true/\TripFit {v with A:=ch v.A ⟨7,t,[]⟩} t:=by
 have hr:aA ⟨7,t,[]⟩=true:=by simp[aA,in_iff,ht.1,ht.2]
 have hn:v.sA t≠0:=by omega
 have hl:=bN (l:=v.A) (t:=t) hn
 have h1:=ht.1
 have hs':(tAt v.A t).s=2\/(tAt v.A t).s=3:=by unfold V.sA at h;omega
 have hm:bW v.A ⟨7,t,[]⟩=true:=by simp only[bW];rw[if_neg (by omega),if_neg (by omega),if_neg (by omega),if_pos trivial];simpa using hs'
 refine⟨hm,?_⟩
 have ea:tAt (ch v.A ⟨7,t,[]⟩) t=⟨(tAt v.A t).m,(tAt v.A t).s+2⟩:=by rw[ff hr hm ht.1];simp
 have es:V.sA {v with A:=ch v.A ⟨7,t,[]⟩} t=v.sA t+2:=by unfold V.sA;rw[ea]
 rcases h with ⟨hs,ha⟩|⟨hs,ha⟩
 ·obtain⟨k1,_,k6,_⟩:=I.all_told ht hn ha
  exact⟨fun _=>⟨k1,fun h hh hw=>.inr ((k6 rfl).2 h hh hw)⟩,fun _ h hh hw=>(k6 rfl).2 h hh hw,fun h=>by simp only[es]at h;omega,fun h=>by simp only[es]at h;omega,fun h=>by simp only[es]at h;omega,fun h=>by simp only[es]at h;omega⟩
 ·obtain⟨k1,_,_,k7⟩:=I.all_told ht hn ha
  exact⟨fun h=>by simp only[es]at h;omega,fun h=>by simp only[es]at h;omega,fun _=>⟨k1,(k7 rfl).2⟩,fun h=>by simp only[es]at h;omega,fun h=>by simp only[es]at h;omega,fun h=>by simp only[es]at h;omega⟩
theorem Inv.begin(I:Inv v){r:Rec}(hr:aA r=true)(hm:bW v.A r=true)(h4:r.k=4):Inv {v with A:=ch v.A r} :=
 ⟨I.toBase.write hr hm,fun t ht=>if e:t=r.t then e ▸ I.begin_fit hr hm h4 else(I.trip t ht).other hr hm ht e⟩
theorem Dd{k t:Int}(hk:k=5\/k=6\/k=7)(ht:isT t):aA ⟨k,t,[]⟩=true:=by
 rcases hk with e|e|e<;>subst e<;>simp[aA,in_iff,ht.1,ht.2]
theorem Inv.no(I:Inv v){t:Int}(ht:isT t)(hs:v.sA t=1):Inv {v with A:=ch v.A ⟨6,t,[]⟩}:=by
 obtain⟨hm,hf⟩:=I.no_fit ht hs
 have hr:=Dd (k:=6) (by omega) ht
 exact⟨I.toBase.write hr hm,fun u hu=>if e:u=t then e ▸ hf else(I.trip u hu).other hr hm hu e⟩
def V.kind(v:V)(t:Int):Int :=
 if v.sA t=1/\aP v.td t 5 1 (tAt v.A t).m then 6
 else if v.sA t=1/\al v.td t 4 1 (tAt v.A t).m then 5
 else if v.sA t=2/\(t<=v.F.length/\v.sF t=v.sA t)/\al v.td t 6 1 (tAt v.A t).m then 7
 else if v.sA t=3/\(t<=v.F.length/\v.sF t=v.sA t)/\al v.td t 7 1 (tAt v.A t).m then 7
 else 0
def V.decide(v:V)(t:Int):V:=if v.kind t>0 then {v with A:=ch v.A ⟨v.kind t,t,[]⟩} else v
theorem Base.decide(I:Base v){t:Int}(ht:isT t)(hl:t<=v.A.length)(hy:v.sA t=2\/v.sA t=4->v.sF t≠0/\∀ h,isH h->0<v.want t h->(v.hF h t).s=1\/(v.hF h t).s=2)
  (hk:v.sA t=4->∀ h,isH h->0<v.want t h->(v.hF h t).s=2) (hf:v.sA t=5->v.sF t≠0/\∀ h,isH h->0<v.want t h->(v.hF h t).s=3)
  (ho:∀ u,isT u->u≠t->TripFit v u):Inv (v.decide t)/\(v.kind t>0->aA ⟨v.kind t,t,[]⟩=true/\bW v.A ⟨v.kind t,t,[]⟩=true):=by
 have done:∀ k,(k=5\/k=6\/k=7)->v.kind t=k->bW v.A ⟨k,t,[]⟩=true->TripFit {v with A:=ch v.A ⟨k,t,[]⟩} t->Inv (v.decide t)/\(v.kind t>0->aA ⟨v.kind t,t,[]⟩=true/\bW v.A ⟨v.kind t,t,[]⟩=true):=by
  intro k hk3 ek hm hfit
  have hr:=Dd hk3 ht
  refine⟨?_,fun _=>by rw[ek];exact⟨hr,hm⟩⟩
  unfold V.decide
  rw[if_pos (by omega),ek]
  exact⟨I.write hr hm,fun u hu=>if e:u=t then e ▸ hfit else(ho u hu e).other hr hm hu e⟩
 by_cases c1:v.sA t=1/\aP v.td t 5 1 (tAt v.A t).m=true
 ·have:=I.no_fit ht c1.1
  exact done 6 (by omega) (by unfold V.kind;rw[if_pos c1]) this.1 this.2
 by_cases c2:v.sA t=1/\al v.td t 4 1 (tAt v.A t).m=true
 ·have:=I.yes_fit ht c2.1 c2.2
  exact done 5 (by omega) (by unfold V.kind;rw[if_neg c1,if_pos c2]) this.1 this.2
 by_cases c3:v.sA t=2/\(t<=v.F.length/\v.sF t=v.sA t)/\al v.td t 6 1 (tAt v.A t).m=true
 ·have:=I.end_fit ht (.inl ⟨c3.1,c3.2.2⟩)
  exact done 7 (by omega) (by unfold V.kind;rw[if_neg c1,if_neg c2,if_pos c3]) this.1 this.2
 by_cases c4:v.sA t=3/\(t<=v.F.length/\v.sF t=v.sA t)/\al v.td t 7 1 (tAt v.A t).m=true
 ·have:=I.end_fit ht (.inr ⟨c4.1,c4.2.2⟩)
  exact done 7 (by omega) (by unfold V.kind;rw[if_neg c1,if_neg c2,if_neg c3,if_pos c4]) this.1 this.2
 have k0:v.kind t=0:=by unfold V.kind;rw[if_neg c1,if_neg c2,if_neg c3,if_neg c4]
 refine⟨?_,fun h=>by omega⟩
 unfold V.decide
 rw[if_neg (by omega)]
 refine⟨I,fun u hu=>if e:u=t then e ▸ ⟨hy,hk,hf,fun h=>?_,fun h=>?_,fun h=>?_⟩ else ho u hu e⟩
 ·constructor
  ·cases e:aP v.td t 5 1 (tAt v.A t).m with
   | false=>rfl
   | true=>exact absurd ⟨h,e⟩ c1
  ·cases e:al v.td t 4 1 (tAt v.A t).m with
   | false=>rfl
   | true=>exact absurd ⟨h,e⟩ c2
 ·cases e:al v.td t 6 1 (tAt v.A t).m with
  | false=>rfl
  | true =>
   exfalso
   obtain⟨h1,_,h6,_⟩:=I.all_told ht (by omega) e
   have h2:=(h6 rfl).1
   have h3:=I.FA_s ht.1 h1
   have h4:=bN h1
   have:=ht.1
   exact c3 ⟨h,⟨by omega,by omega⟩,e⟩
 ·cases e:al v.td t 7 1 (tAt v.A t).m with
  | false=>rfl
  | true =>
   exfalso
   obtain⟨h1,_,_,h7⟩:=I.all_told ht (by omega) e
   have h2:=(h7 rfl).1
   have h3:=I.FA_s ht.1 h1
   have h4:=bN h1
   have:=ht.1
   exact c4 ⟨h,⟨by omega,by omega⟩,e⟩
theorem Inv.hear(I:Inv v){x:Word}(hx:WdOk x)(h4:4<=x.k)(hn:NetOk v x){td:List Word}(htd:td=v.td\/td=v.td++[x]) :
  Inv (V.decide {v with td:=td} x.t)/\(V.kind {v with td:=td} x.t>0->aA ⟨V.kind {v with td:=td} x.t,x.t,[]⟩=true/\bW v.A ⟨V.kind {v with td:=td} x.t,x.t,[]⟩=true):=by
 have mem:∀ y∈td,y∈v.td\/y=x:=fun y hy=>by
  rcases htd with e|e
  ·rw[e]at hy;exact .inl hy
  ·rw[e]at hy;simpa using hy
 have sub:∀ y∈v.td,y∈td:=fun y hy=>by
  rcases htd with e|e<;>rw[e]<;>simp[hy]
 have I1:Base {v with td:=td}:=⟨I.pre,I.trA,I.hle,I.okA,I.okF,fun y hy=>(mem y hy).elim (I.tdo y) (fun e=>e ▸ ⟨hx,h4⟩),I.nso,fun y hy=>NetOk.congr (v:=v) rfl rfl (I.net y hy),
  fun y hy=>NetOk.congr (v:=v) rfl rfl ((mem y hy).elim (I.told y) (fun e=>e ▸ hn)),fun h t hh ht hs=>HoldFit.congr (v:=v) rfl rfl (I.hold h t hh ht hs)⟩
 have ht:isT x.t:=hx.t
 have hl:x.t<=v.A.length:=by have:=bN hn.s;have:=I.pre.len;have:=ht.1;omega
 have old:=I.trip x.t ht
 refine I1.decide ht hl (fun h=>old.yes h) (fun h=>old.kept h) (fun h=>old.left h) fun u hu e=>?_
 refine TripFit.congr (v:=v) rfl rfl (fun _ _=>rfl) (fun k h=>⟨fun hm=>?_,fun hm=>sub _ hm⟩) (I.trip u hu)
 rcases mem _ hm with h1|h1
 ·exact h1
 ·exact absurd (congrArg Word.t h1) e
end
end Dx
namespace Dx
section
variable {v v':V}
theorem HoldFit.fwd(g:Fwd v v'){h t:Int}(ht:isT t)(hA:v'.hA h t=v.hA h t)(f:HoldFit v h t):HoldFit v' h t:=by
 obtain⟨f1,f2,f3,f4⟩:=g.sF ht.1 f.s
 exact⟨f1,by rw[f4];exact f.w,by rw[f4,hA];exact f.m,by rw[f4,hA];exact f.m3,by rw[hA];exact fun e=>f2 (f.c e),by rw[hA];exact fun e=>f3 (f.u e)⟩
theorem TripFit.fwd(I:Inv v)(g:Fwd v v')(hA:v'.A=v.A)(htd:v'.td=v.td)(hle':∀ h t,isH h->isT t->hle (v'.hF h t) (v.hA h t))(ok':∀ h t,isH h->isT t->bh (v'.hF h t)=true){t:Int}(ht:isT t):TripFit v' t:=by
 have f:=I.trip t ht
 have e3:v'.sA t=v.sA t:=by unfold V.sA;rw[hA]
 refine⟨fun h=>?_,fun h x hx hw=>?_,fun h=>?_,fun h=>?_,fun h=>?_,fun h=>?_⟩
 ·rw[e3]at h
  obtain⟨k1,k2⟩:=f.yes h
  obtain⟨f1,_,_,f4⟩:=g.sF ht.1 k1
  refine⟨f1,fun x hx hw=>?_⟩
  have h1:=k2 x hx (by rwa [f4]at hw)
  have h2:=g.h x t hx ht
  have h3:=hle' x t hx ht
  have h4:=(I.toBase.not_undone ht hx (by omega)).1
  unfold hle at h2 h3
  omega
 ·rw[e3]at h
  obtain⟨k1,_⟩:=f.yes (.inr h)
  obtain⟨f1,_,_,f4⟩:=g.sF ht.1 k1
  have h1:=f.kept h x hx (by rwa [f4]at hw)
  have h2:=g.h x t hx ht
  unfold hle at h2
  omega
 ·rw[e3]at h
  obtain⟨k1,k2⟩:=f.left h
  obtain⟨f1,_,_,f4⟩:=g.sF ht.1 k1
  refine⟨f1,fun x hx hw=>?_⟩
  have h1:=k2 x hx (by rwa [f4]at hw)
  have h2:=g.h x t hx ht
  unfold hle at h2
  omega
 ·rw[hA,htd];exact f.d1 (by rwa [e3]at h)
 ·rw[hA,htd];exact f.d2 (by rwa [e3]at h)
 ·rw[hA,htd];exact f.d3 (by rwa [e3]at h)
theorem Inv.fwd(I:Inv v)(g:Fwd v v')(hA:v'.A=v.A)(htd:v'.td=v.td)(hns:v'.ns=v.ns)(hhA:∀ h t,isH h->isT t->v'.hA h t=v.hA h t)(pre:tpre v'.F v.A)
  (hle':∀ h t,isH h->isT t->hle (v'.hF h t) (v.hA h t)) (ok':∀ h t,isH h->isT t->bh (v'.hF h t)=true):Inv v' :=
 ⟨⟨by rw[hA];exact pre,by rw[hA];exact I.trA,fun h t hh ht=>by rw[hhA h t hh ht];exact hle' h t hh ht,fun h t hh ht=>by rw[hhA h t hh ht];exact I.okA h t hh ht,ok',by rw[htd];exact I.tdo,by rw[hns];exact I.nso,
  by rw[hns];exact fun x hx=>(I.net x hx).fwd g (I.nso x hx),by rw[htd];exact fun x hx=>(I.told x hx).fwd g (I.tdo x hx).1,fun h t hh ht hs=>by
   rw[hhA h t hh ht]at hs
   exact(I.hold h t hh ht hs).fwd g ht (hhA h t hh ht)⟩,fun t ht=>TripFit.fwd I g hA htd hle' ok' ht⟩
theorem Inv.dfall(I:Inv v){B:List Trip}(h1:tpre v.F B)(h2:tpre B v.A)(hB:TrOk B):Inv {v with F:=B,A:=B,td:=[]}:=by
 have g:Fwd v {v with F:=B,A:=B,td:=[]}:=⟨h1,fun _ _ _ _=>hle.rfl' _⟩
 refine⟨⟨tpre.rfl' _,hB,I.hle,I.okA,I.okF,by simp,I.nso,fun x hx=>(I.net x hx).fwd g (I.nso x hx),by simp,fun h t hh ht hs=>(I.hold h t hh ht hs).fwd g ht rfl⟩,fun t ht=>?_⟩
 have f:=I.trip t ht
 have hBA:(tAt B t).s≠0->tle (tAt B t) (tAt v.A t):=fun h=>h2.le t ht.1 (by have:=bN h;have:=ht.1;omega)
 have none:∀ k,(tAt B t).s≠0->al [] t k 1 (tAt B t).m=false:=fun k h=>by
  have hm:bV (tAt B t).m=true:=(tripOk_iff.1 (hB.ok _ (gP (bN h)))).1
  cases e:al [] t k 1 (tAt B t).m with
  | false=>rfl
  | true =>
   obtain⟨x,hx,hw⟩:=dP hm
   exact absurd ((da (aT hm)).1 e x hx hw) (by simp)
 have want:v.sF t≠0->∀ x,V.want {v with F:=B,A:=B,td:=[]} t x=v.want t x:=fun h=>(g.sF ht.1 h).2.2.2
 refine⟨fun h=>?_,fun h x hx hw=>?_,fun h=>?_,fun h=>?_,fun h=>?_,fun h=>?_⟩
 ·have hs:(tAt B t).s=2\/(tAt B t).s=4:=h
  have:=(hBA (by omega)).2
  obtain⟨k1,k2⟩:=f.yes (by unfold V.sA;omega)
  exact⟨by show (tAt B t).s≠0;omega,fun x hx hw=>k2 x hx (by rwa [want k1]at hw)⟩
 ·have hs:(tAt B t).s=4:=h
  have:=(hBA (by omega)).2
  have h4:v.sA t=4:=by unfold V.sA;omega
  exact f.kept h4 x hx (by rwa [want (f.yes (.inr h4)).1]at hw)
 ·have hs:(tAt B t).s=5:=h
  have:=(hBA (by omega)).2
  have h5:v.sA t=5:=by unfold V.sA;omega
  obtain⟨k1,k2⟩:=f.left h5
  exact⟨by show (tAt B t).s≠0;omega,fun x hx hw=>k2 x hx (by rwa [want k1]at hw)⟩
 ·have hs:(tAt B t).s=1:=h
  refine⟨?_,none 4 (by omega)⟩
  cases e:aP [] t 5 1 (tAt B t).m with
  | false=>rfl
  | true =>
   obtain⟨j,n,_,_,hx⟩:=toldAny_iff.1 e
   exact absurd hx (by simp)
 ·have hs:(tAt B t).s=2:=h
  exact none 6 (by omega)
 ·have hs:(tAt B t).s=3:=h
  exact none 7 (by omega)
theorem Inv.hwrite(I:Inv v)(hF:v'.F=v.F)(hA:v'.A=v.A)(htd:v'.td=v.td)(hns:v'.ns=v.ns)(hhF:∀ h t,isH h->isT t->v'.hF h t=v.hF h t)(hhle:∀ h t,isH h->isT t->hle (v.hF h t) (v'.hA h t))
  (ok':∀ h t,isH h->isT t->bh (v'.hA h t)=true) (hold:∀ h t,isH h->isT t->(v'.hA h t).s≠0->HoldFit v' h t):Inv v' :=
 ⟨⟨by rw[hF,hA];exact I.pre,by rw[hA];exact I.trA,fun h t hh ht=>by rw[hhF h t hh ht];exact hhle h t hh ht,ok',fun h t hh ht=>by rw[hhF h t hh ht];exact I.okF h t hh ht,by rw[htd];exact I.tdo,by rw[hns];exact I.nso,
  by rw[hns];exact fun x hx=>NetOk.congr (v:=v) (by rw[hF]) (hhF _ _ (I.nso x hx).h (I.nso x hx).t) (I.net x hx),by rw[htd];exact fun x hx=>NetOk.congr (v:=v) (by rw[hF]) (hhF _ _ (I.tdo x hx).1.h (I.tdo x hx).1.t) (I.told x hx),hold⟩,
  fun t ht=>TripFit.congr (v:=v) (by rw[hA]) (by rw[hF]) (fun h hh=>hhF h t hh ht) (fun _ _=>by rw[htd]) (I.trip t ht)⟩
theorem Inv.hfall(I:Inv v)(hF:v'.F=v.F)(hA:v'.A=v.A)(htd:v'.td=v.td)(hns:v'.ns=v.ns)(h1:∀ h t,isH h->isT t->hle (v.hF h t) (v'.hF h t))(h2:∀ h t,isH h->isT t->hle (v'.hA h t) (v.hA h t))
  (h3:∀ h t,isH h->isT t->hle (v'.hF h t) (v'.hA h t)) (okA:∀ h t,isH h->isT t->bh (v'.hA h t)=true) (okF:∀ h t,isH h->isT t->bh (v'.hF h t)=true):Inv v':=by
 have g:Fwd v v':=⟨by rw[hF];exact tpre.rfl' _,h1⟩
 have hsF:∀ t,v'.sF t=v.sF t:=fun t=>by unfold V.sF;rw[hF]
 have hw:∀ t h,v'.want t h=v.want t h:=fun t h=>by unfold V.want;rw[hF]
 refine⟨⟨by rw[hF,hA];exact I.pre,by rw[hA];exact I.trA,h3,okA,okF,by rw[htd];exact I.tdo,by rw[hns];exact I.nso,by rw[hns];exact fun x hx=>(I.net x hx).fwd g (I.nso x hx),by rw[htd];exact fun x hx=>(I.told x hx).fwd g (I.tdo x hx).1,fun h t hh ht hs=>?_⟩,
  fun t ht=>TripFit.fwd I g hA htd (fun h t hh ht=>(h3 h t hh ht).trans (h2 h t hh ht)) okF ht⟩
 have k:=h2 h t hh ht
 have ok:=okA h t hh ht
 have f:=I.hold h t hh ht (by unfold hle at k;omega)
 have hm1:(v'.hA h t).s=1->1<=(v'.hA h t).m:=fun e=>by
  have:=ok
  unfold bh at this
  rw[if_neg (by omega),if_pos (.inl e),in_iff]at this
  exact this.1
 have fm:=f.m
 have fm3:=f.m3
 have fc:=f.c
 have fu:=f.u
 unfold hle at k
 refine⟨by rw[hsF];exact f.s,by rw[hw];exact f.w,fun e=>?_,fun e=>?_,fun e=>?_,fun e=>?_⟩
 ·rw[hw]
  have hwp:=f.w
  rcases k with k|⟨k1,k2⟩
  ·exact absurd k hs
  ·by_cases e3:(v.hA h t).s=3
   ·have:=fm3 e3
    have:=hm1 (by omega)
    omega
   ·have:=fm e3;omega
 ·rw[hw]
  rcases k with k|⟨k1,k2⟩
  ·exact absurd k hs
  ·have:=fm3 (by omega);omega
 ·rw[hsF];exact fc (by omega)
 ·rw[hsF];exact fu (by omega)
end
end Dx
namespace Dx
theorem IZ{h:House}(ho:HsOk h)(b:Bool){t:Int}(ht:isT t):bh (hAt (ax h b).hs t)=true:=by
 have s:=ho.stOk b
 refine s.hold _ (Aa ?_)
 rw[s.len];have:=ht.1;have:=ht.2;omega
theorem zA{d:Desk}(h:DkOk d):tpre (af d true) (af d false):=by
 obtain⟨l1,e,e2,_⟩:=ev h.tr d.lg.f.toNat
 have:=h.trips true
 simp only[a9,if_true]at this
 rw[this]at e;simp only[Option.some.injEq]at e;subst e
 exact qW e2
theorem np{l:Log}(h:LgOk l)(h40:l.rs.length<40)(r:Rec):a9 (cL l r) true=a9 l true/\a9 (cL l r) false=a9 l false++[r]:=by
 rw[Fb h40]
 have h1:=h.hi
 have h2:=h.lo
 refine⟨?_,rfl⟩
 simp only[a9,if_true]
 rw[List.take_append_of_le_length (by omega)]
theorem dt{d:Desk}(h:DkOk d){r:Rec}(hr:aA r=true)(hc:d.up=true/\bW (af d false) r=true) :
  aQ d r={d with lg:=cL d.lg r}/\af (aQ d r) true=af d true/\af (aQ d r) false=ch (af d false) r:=by
 have e:aQ d r={d with lg:=cL d.lg r}:=by simp[aQ,hc.1,hc.2]
 have hl:=h.len18
 obtain⟨k1,k2⟩:=np h.lg (by omega) r
 refine⟨e,?_,?_⟩
 ·rw[e];unfold af ah;simp only;rw[k1]
 ·rw[e];unfold af ah;simp only;rw[k2]
  have:=jV h.tr hr hc.2
  simp only[a9,Bool.false_eq_true,if_false,this];rfl
theorem iT{d:Desk}{r:Rec}(hc:¬ (d.up=true/\bW (af d false) r=true)):aQ d r=d:=by
 simp only[aQ,Bool.and_eq_true];rw[if_neg hc]
theorem iC{h:House}(ho:HsOk h){r:Rec}(hr:aA r=true)(hm:may (ax h false) r=true) :
  ax {h with lg:=cL h.lg r} true=ax h true/\ax {h with lg:=cL h.lg r} false=act (ax h false) r:=by
 have hl:=ho.len
 obtain⟨k1,k2⟩:=np ho.lg (by omega) r
 refine⟨?_,?_⟩
 ·unfold ax;simp only;rw[k1]
 ·unfold ax;simp only;rw[k2]
  have e:=ho.stock false
  have:=jU e hr hm
  rw[this];rfl
theorem hs_force{h:House}:(h.up=true->ax (bQ h) true=ax h false)/\ax (bQ h) false=ax h false:=by
 unfold bQ
 refine⟨fun hu=>?_,by split<;>rfl⟩
 rw[if_pos hu]
 unfold ax eM a9
 simp
theorem dk_force{d:Desk}:(d.up=true->af (bv d) true=af d false)/\af (bv d) false=af d false:=by
 unfold bv
 refine⟨fun hu=>?_,by split<;>rfl⟩
 rw[if_pos hu]
 unfold af ah eM a9
 simp
def vw(w:Wd):V:=⟨af w.dk true,af w.dk false,w.dk.td,w.ns,fun h t=>hAt (ax (houseAt w h) true).hs t,fun h t=>hAt (ax (houseAt w h) false).hs t⟩
theorem lI{w:Wd}(ho:WOk w){i j:Int}(hi:isH i)(hj:isH j)(x:House):houseAt (setHouse w i x) j=if j=i then x else houseAt w j:=by
 have hl:=ho.len
 obtain⟨h1,h2⟩:=hi
 obtain⟨h3,h4⟩:=hj
 unfold Dx.houseAt setHouse
 simp only[List.getElem?_set]
 by_cases e:j=i
 ·subst e;simp;rw[if_pos (by omega)];rfl
 ·rw[if_neg (by omega),if_neg e]
section
variable {w:Wd}
theorem Ac{d:Desk}:vw {w with dk:=d}={vw w with F:=af d true,A:=af d false,td:=d.td}:=rfl
theorem Ba(ho:WOk w)(I:Inv (vw w)){x:Word}(hn:NetOk (vw w) x):Inv (vw {w with dk:=dhear w.dk x}):=by
 unfold dhear
 split
 case isFalse=>exact I
 rename_i hc
 have hd1:=ho.dk.tell hc
 simp only[bd,Bool.and_eq_true,decide_eq_true_eq,wordOk_iff]at hc
 obtain⟨hup,hx,h4,_⟩:=hc
 obtain⟨t1,t2⟩:=fq w.dk x
 have htd:(aZ w.dk x).td=(vw w).td\/(aZ w.dk x).td=(vw w).td++[x]:=by
  unfold aZ;split
  ·exact .inl rfl
  ·exact .inr rfl
 have key:=I.hear hx h4 hn htd
 have e1:vw {w with dk:=aZ w.dk x}={vw w with td:=(aZ w.dk x).td}:=by
  rw[Ac];unfold af;rw[t2];rfl
 have ek:bC (aZ w.dk x) x.t=V.kind {vw w with td:=(aZ w.dk x).td} x.t:=by
  unfold bC V.kind ib af V.sA V.sF
  rw[t2]
  simp only[vw,af,Bool.and_eq_true,decide_eq_true_eq,beq_iff_eq]
  rfl
 unfold aF
 rw[ek]
 unfold V.decide at key
 split
 ·rename_i hk
  rw[if_pos hk]at key
  obtain⟨k1,k2⟩:=key
  obtain⟨k3,k4⟩:=k2 hk
  have hcc:(aZ w.dk x).up=true/\bW (af (aZ w.dk x) false) ⟨V.kind {vw w with td:=(aZ w.dk x).td} x.t,x.t,[]⟩=true:=by
   refine⟨by rw[t1];exact hup,?_⟩
   unfold af;rw[t2];exact k4
  obtain⟨w1,w2,w3⟩:=dt hd1 k3 hcc
  rw[Ac,w2,w3,(eP _ _).1]
  have e2:af (aZ w.dk x) true=af w.dk true:=by unfold af;rw[t2]
  have e3:af (aZ w.dk x) false=af w.dk false:=by unfold af;rw[t2]
  rw[e2,e3]
  exact k1
 ·rename_i hk
  rw[if_neg hk]at key
  rw[e1];exact key.1
theorem kd(ho:WOk w){i:Int}(hi:isH i)(x:House){h t:Int}(hh:isH h) :
  (vw (setHouse w i x)).hF h t=(if h=i then hAt (ax x true).hs t else(vw w).hF h t)/\(vw (setHouse w i x)).hA h t=(if h=i then hAt (ax x false).hs t else(vw w).hA h t):=by
 simp only[vw,lI ho hi hh x]
 constructor<;>split<;>rfl
theorem Bb(ho:WOk w)(I:Inv (vw w)){x:Word}(hx:WdOk x)(hn:NetOk (vw w) x) :
  Inv (vw (setHouse w x.h (hhear (houseAt w x.h) x).1))/\∀ y,(hhear (houseAt w x.h) x).2=some y->NetOk (vw (setHouse w x.h (hhear (houseAt w x.h) x).1)) y:=by
 have hi:isH x.h:=hx.h
 obtain⟨_,hho,hid⟩:=ho.houseAt hi
 have same:setHouse w x.h (houseAt w x.h)=w:=by
  obtain⟨e,_,_⟩:=ho.houseAt hi
  have hl:=(List.getElem?_eq_some_iff.1 e).1
  have he:=(List.getElem?_eq_some_iff.1 e).2
  unfold setHouse
  rw[<-he,List.set_getElem_self]
 unfold hhear
 split
 ·simp only[same];exact⟨I,by simp⟩
 rename_i hc
 simp only[Bool.or_eq_true,Bool.not_eq_true',decide_eq_true_eq,bne_iff_ne,not_or,Bool.not_eq_false]at hc
 have hk3:x.k<=3:=by omega
 split
 ·rename_i hm
  obtain⟨e1,e2⟩:=iC hho (b8 hx) hm
  have hrt:=nj x
  have hl:=(hho.stOk false).len
  have hF:∀ h t,isH h->isT t->(vw (setHouse w x.h {houseAt w x.h with lg:=cL (houseAt w x.h).lg (bf x)})).hF h t=(vw w).hF h t:=fun h t hh ht=>by
   rw[(kd ho hi _ hh).1];split
   ·rename_i e;subst e;rw[e1];rfl
   ·rfl
  have hA:∀ h t,isH h->isT t->(vw (setHouse w x.h {houseAt w x.h with lg:=cL (houseAt w x.h).lg (bf x)})).hA h t=if h=x.h/\t=x.t then io ((vw w).hA h t) (bf x) else(vw w).hA h t:=fun h t hh ht=>by
   rw[(kd ho hi _ hh).2]
   by_cases e:h=x.h
   ·subst e
    rw[if_pos rfl,e2,tX hl (b8 hx) ht.1,hrt]
    by_cases et:t=x.t
    ·subst et;rw[if_pos rfl,if_pos ⟨rfl,rfl⟩];rfl
    ·rw[if_neg et,if_neg (fun h=>et h.2)];rfl
   ·rw[if_neg e,if_neg (fun h=>e h.1)]
  have hhle:∀ h t,isH h->isT t->hle ((vw w).hA h t) ((vw (setHouse w x.h {houseAt w x.h with lg:=cL (houseAt w x.h).lg (bf x)})).hA h t):=fun h t hh ht=>by
   rw[(kd ho hi _ hh).2]
   split
   ·rename_i e;subst e;rw[e2];exact Ab hl (b8 hx) hm ht.1
   ·exact hle.rfl' _
  refine⟨I.hwrite rfl rfl rfl rfl hF (fun h t hh ht=>(I.hle h t hh ht).trans (hhle h t hh ht)) (fun h t hh ht=>?_) (fun h t hh ht hs=>?_),by simp⟩
  ·have:=IZ (hho.write (b8 hx) hm) false ht
   rw[(kd ho hi _ hh).2];split
   ·exact this
   ·exact I.okA h t hh ht
  ·by_cases e:h=x.h/\t=x.t
   ·obtain⟨rfl,rfl⟩:=e
    have ea:=hA x.h x.t hh ht
    rw[if_pos ⟨rfl,rfl⟩]at ea
    refine⟨hn.s,hn.w,?_,?_,?_,?_⟩<;>rw[ea]
    all_goals
     have hst:(vw w).hA x.h x.t=hAt (ax (houseAt w x.h) false).hs x.t:=rfl
     have hmay:=hm
     simp only[may,dW,hrt]at hmay
     rw[<-hst]at hmay
     have hok:=I.okA x.h x.t hh ht
     have hmm:∀ {v':V},v'.F=(vw w).F->V.want v' x.t x.h=(vw w).want x.t x.h:=fun e=>by unfold V.want;rw[e]
     have hss:∀ {v':V},v'.F=(vw w).F->V.sF v' x.t=(vw w).sF x.t:=fun e=>by unfold V.sF;rw[e]
     try rw[hmm rfl]
     try rw[hss rfl]
     have f:=fun h=>I.hold x.h x.t hh ht h
     have k1:=hn.k1
     have k2:=hn.k2
     have k3:=hn.k3
     unfold bf at hmay ⊢
     unfold io
     have hk1:=hx.k.1
     have hzero:((vw w).hA x.h x.t).s=0->((vw w).hA x.h x.t).m=0:=fun e=>by
      unfold bh at hok;rw[if_pos e]at hok;simpa using hok
     by_cases h1:x.k=1
     ·simp[h1]at hmay ⊢
      try exact k1 h1
     ·by_cases h2:x.k=2
      ·simp[h2]at hmay ⊢
       try exact(f (by omega)).m (by omega)
       try exact k2 h2
      ·simp[h1,h2]at hmay ⊢
       first
        | exact k3 (by omega)
        | (by_cases h0:((vw w).hA x.h x.t).s=0
           ·exact .inr (hzero h0)
           ·exact .inl ((f h0).m (by omega)))
        | skip
   ·have ea:=hA h t hh ht
    rw[if_neg e]at ea
    rw[ea]at hs
    exact HoldFit.congr (v:=vw w) rfl ea (I.hold h t hh ht hs)
 ·split
  ·rename_i h1
   simp only[same]
   refine⟨I,fun y hy=>?_⟩
   simp only[Option.some.injEq]at hy;subst hy
   rw[hid]
   exact⟨hn.s,hn.w,by simp,by simp,by simp,by simp,by simp,by simp⟩
  ·simp only[same]
   refine⟨I,fun y hy=>?_⟩
   unfold answer at hy
   rw[hid]at hy
   have hst:dW (ax (houseAt w x.h) true) x.t=((vw w).hF x.h x.t).s:=rfl
   rw[hst]at hy
   split at hy
   ·rename_i hh;simp only[Option.some.injEq]at hy;subst hy
    exact⟨hn.s,hn.w,by simp,by simp,by simp,fun _=>by simp only;omega,by simp,by simp⟩
   ·split at hy
    ·simp only[Option.some.injEq]at hy;subst hy
     exact⟨hn.s,hn.w,by simp,by simp,by simp,by simp,by simp,by simp⟩
    ·split at hy
     ·rename_i hh;simp only[Option.some.injEq]at hy;subst hy
      exact⟨hn.s,hn.w,by simp,by simp,by simp,by simp,fun _=>hh.2,by simp⟩
     ·split at hy
      ·rename_i hh;simp only[Option.some.injEq]at hy;subst hy
       exact⟨hn.s,hn.w,by simp,by simp,by simp,by simp,by simp,fun _=>hh.2⟩
      ·cases hy
end
end Dx
namespace Dx
variable {w:Wd}
theorem NetOk.ns{x:Word}{ns:List Word}(h:NetOk (vw w) x):NetOk (vw {w with ns:=ns}) x:=NetOk.congr (v:=vw w) rfl rfl h
theorem NetOk.ns'{x:Word}{ns:List Word}(h:NetOk (vw {w with ns:=ns}) x):NetOk (vw w) x:=NetOk.congr (v:=vw {w with ns:=ns}) rfl rfl h
theorem Fc(ho:WOk w){x:Word}(hx:x∈aN w.dk):WdOk x/\NetOk (vw w) x:=by
 obtain⟨h1,h2,_,_,h5,n,h6,h7,h8⟩:=fe ho.dk hx
 have hk:=h1.k.1
 have hs:(vw w).sF x.t=x.k:=h5
 have hl:=bN (l:=af w.dk true) (t:=x.t) (by omega)
 have hm:=(tripOk_iff.1 ((ho.dk.trOk true).ok _ (gP hl))).1
 have hw:(vw w).want x.t x.h=n:=by
  unfold V.want mAt
  show ((tAt (af w.dk true) x.t).m[(x.h-1).toNat]?).getD 0=n
  rw[h6];rfl
 have hn:=gG hm (List.mem_of_getElem? h6)
 refine⟨h1,by omega,by omega,fun e=>?_,fun e=>.inl (by omega),fun e=>.inl (by omega),fun e=>by omega,fun e=>by omega,fun e=>by omega⟩
 rw[hw]
 unfold fL at h8
 split at h8
 ·cases h8
 ·have h9:=congrArg Word.m (List.mem_singleton.1 h8)
  simp only[e,if_true]at h9
  exact h9
theorem qZ(ho:WOk w)(I:Inv (vw w)){x:Word}(hx:WdOk x)(hn:NetOk (vw w) x):Inv (vw (aM w x).1)/\∀ y,(aM w x).2=some y->WdOk y/\NetOk (vw (aM w x).1) y:=by
 have hok:=ho.hear hx
 unfold aM at hok ⊢
 split
 ·exact⟨Ba ho I hn,by simp⟩
 ·rename_i hk
  rw[if_neg hk]at hok
  have:=Bb ho I hx hn
  exact⟨this.1,fun y hy=>⟨(hok.2 y hy).1,this.2 y hy⟩⟩
theorem oU(w:Wd)(ns:List Word)(x:Word):aM {w with ns:=ns} x=({(aM w x).1 with ns:=ns},(aM w x).2):=by unfold aM;split<;>rfl
theorem iu(w:Wd)(x:Word):(aM w x).1.ns=w.ns:=by unfold aM;split<;>rfl
theorem sg(w:Wd)(x:Word):(bw w x).ns=w.ns:=by
 unfold bw
 split
 ·rw[iu,iu]
 ·exact iu w x
theorem nq(ho:WOk w)(I:Inv (vw w)){x:Word}(hx:WdOk x)(hn:NetOk (vw w) x):Inv (vw (bw w x)):=by
 have k:=qZ ho I hx hn
 have h:=ho.hear hx
 unfold bw
 split
 ·rename_i y hy
  exact(qZ h.1 k.1 (h.2 y hy).1 (k.2 y hy).2).1
 ·exact k.1
theorem Fd{d:Desk}(h:DkOk d)(x:Word):af (dhear d x) true=af d true:=by
 unfold dhear
 split
 case isFalse=>rfl
 rename_i hc
 have hd1:=h.tell hc
 simp only[bd,Bool.and_eq_true,decide_eq_true_eq,wordOk_iff]at hc
 have e:af (aZ d x) true=af d true:=by unfold af;rw[(fq d x).2]
 unfold aF
 split
 ·rename_i hk
  have hr:=eQ hc.2.1.t hk
  by_cases c:(aZ d x).up=true/\bW (af (aZ d x) false) ⟨bC (aZ d x) x.t,x.t,[]⟩=true
  ·rw[(dt hd1 hr c).2.1,e]
  ·rw[iT c,e]
 ·exact e
theorem Fe{h:House}(ho:HsOk h){x:Word}(hx:WdOk x):ax (hhear h x).1 true=ax h true:=by
 unfold hhear
 split
 ·rfl
 ·split
  ·rename_i hm;exact(iC ho (b8 hx) hm).1
  ·split<;>rfl
theorem sx(ho:WOk w){x:Word}(hx:WdOk x):(vw (aM w x).1).F=(vw w).F/\∀ h t,isH h->(vw (aM w x).1).hF h t=(vw w).hF h t:=by
 unfold aM
 split
 ·exact⟨Fd ho.dk x,fun _ _ _=>rfl⟩
 ·refine⟨rfl,fun h t hh=>?_⟩
  rw[(kd ho hx.h _ hh).1]
  split
  ·rename_i e;subst e
   rw[Fe (ho.houseAt hx.h).2.1 hx];rfl
  ·rfl
theorem Ck(ho:WOk w){x:Word}(hx:WdOk x):(vw (bw w x)).F=(vw w).F/\∀ h t,isH h->(vw (bw w x)).hF h t=(vw w).hF h t:=by
 have h1:=sx ho hx
 have h:=ho.hear hx
 unfold bw
 split
 ·rename_i y hy
  have h2:=sx h.1 (h.2 y hy).1
  exact⟨h2.1.trans h1.1,fun a t ha=>(h2.2 a t ha).trans (h1.2 a t ha)⟩
 ·exact h1
theorem nt:∀ {xs:List Word} {w:Wd},WOk w->Inv (vw w)->(∀ x∈xs,WdOk x/\NetOk (vw w) x)->Inv (vw (fN w xs))
 | [],_,_,I,_=>I
 | x::xs,w,ho,I,hx=>by
  have h0:=hx x (by simp)
  have hF:=Ck ho h0.1
  refine nt (xs:=xs) (ho.hear2 h0.1) (nq ho I h0.1 h0.2) fun y hy=>?_
  have h1:=hx y (by simp[hy])
  exact⟨h1.1,NetOk.congr (v:=vw w) (by rw[hF.1]) (hF.2 _ _ h1.1.h) h1.2⟩
theorem iv(w:Wd)(d:Desk)(ns:List Word)(f:House->House){i:Int}(ho:WOk w)(hi:isH i):houseAt ⟨d,w.hs.map f,ns⟩ i=f (houseAt w i):=by
 have hl:(i-1).toNat<w.hs.length:=by rw[ho.len];have:=hi.1;have:=hi.2;omega
 unfold houseAt
 simp only[List.getElem?_map,List.getElem?_eq_getElem hl,Option.map_some,Option.getD_some]
theorem Bc(ho:WOk w)(I:Inv (vw w)):Inv (vw (fa w)):=by
 have e:∀ h,isH h->houseAt (fa w) h=nc (houseAt w h):=fun h hh=>iv w _ _ _ ho hh
 have eF:∀ h t,isH h->(vw (fa w)).hF h t=(vw w).hF h t:=fun h t hh=>by show hAt (ax (houseAt (fa w) h) true).hs t=_;rw[e h hh];rfl
 have eA:∀ h t,isH h->(vw (fa w)).hA h t=(vw w).hA h t:=fun h t hh=>by show hAt (ax (houseAt (fa w) h) false).hs t=_;rw[e h hh];rfl
 exact I.hwrite rfl rfl rfl rfl (fun h t hh _=>eF h t hh) (fun h t hh ht=>by rw[eA h t hh];exact I.hle h t hh ht) (fun h t hh ht=>by rw[eA h t hh];exact I.okA h t hh ht)
  (fun h t hh ht hs=>by rw[eA h t hh]at hs;exact HoldFit.congr (v:=vw w) rfl (eA h t hh) (I.hold h t hh ht hs))
theorem uG(ho:WOk w)(I:Inv (vw w)):Inv (vw (bB w)):=by
 have e:∀ h,isH h->houseAt (bB w) h=bQ (houseAt w h):=fun h hh=>iv w _ _ _ ho hh
 have eA:∀ h t,isH h->(vw (bB w)).hA h t=(vw w).hA h t:=fun h t hh=>by
  show hAt (ax (houseAt (bB w) h) false).hs t=_
  rw[e h hh,hs_force.2];rfl
 have eF:∀ h t,isH h->(vw (bB w)).hF h t=(vw w).hF h t\/(vw (bB w)).hF h t=(vw w).hA h t:=fun h t hh=>by
  show hAt (ax (houseAt (bB w) h) true).hs t=_\/hAt (ax (houseAt (bB w) h) true).hs t=_
  rw[e h hh]
  by_cases hu:(houseAt w h).up=true
  ·rw[hs_force.1 hu];exact .inr rfl
  ·have:bQ (houseAt w h)=houseAt w h:=by unfold bQ;rw[if_neg hu]
   rw[this];exact .inl rfl
 have dF:af (bv w.dk) true=af w.dk true\/af (bv w.dk) true=af w.dk false:=by
  by_cases hu:w.dk.up=true
  ·exact .inr (dk_force.1 hu)
  ·have:bv w.dk=w.dk:=by unfold bv;rw[if_neg hu]
   rw[this];exact .inl rfl
 have etd:(bv w.dk).td=w.dk.td:=by unfold bv;split<;>rfl
 refine I.fwd (v':=vw (bB w)) ⟨?_,fun h t hh ht=>?_⟩ dk_force.2 etd rfl (fun h t hh _=>eA h t hh) ?_ (fun h t hh ht=>?_) (fun h t hh ht=>?_)
 ·show tpre (af w.dk true) (af (bv w.dk) true)
  rcases dF with e|e<;>rw[e]
  ·exact tpre.rfl' _
  ·exact zA ho.dk
 ·rcases eF h t hh with e|e<;>rw[e]
  ·exact hle.rfl' _
  ·exact I.hle h t hh ht
 ·show tpre (af (bv w.dk) true) (af w.dk false)
  rcases dF with e|e<;>rw[e]
  ·exact zA ho.dk
  ·exact tpre.rfl' _
 ·rcases eF h t hh with e|e<;>rw[e]
  ·exact I.hle h t hh ht
  ·exact hle.rfl' _
 ·rcases eF h t hh with e|e<;>rw[e]
  ·exact I.okF h t hh ht
  ·exact I.okA h t hh ht
theorem Cl(ho:WOk w):WOk (fa w):=ho.map ho.dk.rise fun _ hx=>⟨hx.rise,rfl⟩
theorem lJ(ho:WOk w)(I:Inv (vw w)):∀ x∈w.ns++aN (mv w.dk),WdOk x/\NetOk (vw {fa w with ns:=[]}) x:=by
 intro x hx
 rcases List.mem_append.1 hx with hx|hx
 ·exact⟨I.nso x hx,NetOk.ns (w:=fa w) ((Bc ho I).net x hx)⟩
 ·have:=Fc (Cl ho) (x:=x) hx
  exact⟨this.1,NetOk.ns (w:=fa w) this.2⟩
end Dx
namespace Dx
theorem jX:∀ {rs:List Rec} {l l':List Trip},bJ rs l=some l'->(∀ r∈rs,r.k=4\/r.k=6)->(∀ t∈l,t.s=1\/t.s=3)->∀ t∈l',t.s=1\/t.s=3
 | [],l,l',h,_,hl=>by simp only[bJ,Option.some.injEq]at h;subst h;exact hl
 | r::rs,l,l',h,hr,hl=>by
  simp only[bJ]at h
  split at h
  case isFalse=>cases h
  rename_i hc
  refine jX h (fun x hx=>hr x (by simp[hx])) fun t ht=>?_
  unfold ch at ht
  rcases hr r (by simp)with e|e
  ·rw[if_pos e]at ht
   rcases List.mem_append.1 ht with ht|ht
   ·exact hl t ht
   ·simp at ht;subst ht;exact .inl rfl
  ·rw[if_neg (by omega),if_neg (by omega),if_pos e]at ht
   rcases List.mem_or_eq_of_mem_set ht with ht|ht
   ·exact hl t ht
   ·subst ht;exact .inr rfl
structure Quiet (w:Wd):Prop where
 ns:w.ns=[]
 hs:∀ h∈w.hs,h.lg.rs=[]
 rs:∀ r∈w.dk.lg.rs,r.k=4\/r.k=6
 td:w.dk.td=[]
theorem Quiet.set{w:Wd}(q:Quiet w){i:Int}{h:House}(hh:h.lg.rs=[]):Quiet (setHouse w i h) :=
 ⟨q.ns,fun x hx=>by
  rcases List.mem_or_eq_of_mem_set hx with hx|hx
  ·exact q.hs x hx
  ·exact hx ▸ hh,q.rs,q.td⟩
theorem Quiet.at{w:Wd}(q:Quiet w)(i:Int):(houseAt w i).lg.rs=[]:=by
 unfold houseAt
 cases e:w.hs[(i-1).toNat]? with
 | none=>rfl
 | some h=>exact q.hs h (List.mem_of_getElem? e)
theorem Quiet.write{w:Wd}(q:Quiet w){r:Rec}(hr:r.k=4\/r.k=6):Quiet {w with dk:=aQ w.dk r}:=by
 refine⟨q.ns,q.hs,fun x hx=>?_,by rw[show ({w with dk:=aQ w.dk r}:Wd).dk=aQ w.dk r from rfl,(eP _ _).1];exact q.td⟩
 have hx:x∈(aQ w.dk r).lg.rs:=hx
 unfold aQ at hx
 split at hx
 ·unfold cL at hx
  split at hx
  ·exact q.rs x hx
  ·rcases List.mem_append.1 hx with hx|hx
   ·exact q.rs x hx
   ·simp at hx;exact hx ▸ hr
 ·exact q.rs x hx
theorem Quiet.do_{w:Wd}(q:Quiet w){e:Ev}(he:e.k≠3):Quiet (wdo w e):=by
 unfold wdo
 split
 ·unfold iQ
  split
  ·unfold dx;split
   ·exact q.write (.inl rfl)
   ·exact q
  ·split
   ·unfold mu;split
    ·exact q.write (.inr rfl)
    ·exact q
   ·exact q
 ·split
  ·unfold jS
   rw[q.ns]
   simp only[List.getElem?_nil,ite_self]
   exact q
  ·split
   ·unfold cP
    split
    case isFalse=>exact q
    split
    ·unfold dy
     split
     ·refine⟨q.ns,q.hs,?_,?_⟩
      ·have:(bv w.dk).lg.rs=w.dk.lg.rs:=by unfold bv;split<;>rfl
       intro r hr;exact q.rs r (this ▸ hr)
      ·have:(bv w.dk).td=w.dk.td:=by unfold bv;split<;>rfl
       exact this.trans q.td
     ·split
      ·refine q.set ?_
       have:(bQ (houseAt w e.a)).lg.rs=(houseAt w e.a).lg.rs:=by unfold bQ;split<;>rfl
       rw[this];exact q.at _
      ·exact q
    ·split
     ·split
      ·exact⟨q.ns,q.hs,fun r hr=>q.rs r (List.mem_of_mem_take hr),rfl⟩
      ·refine q.set ?_
       show (iP (houseAt w e.a).lg e.b).rs=[]
       unfold iP
       rw[q.at];simp
     ·split
      ·split
       ·exact⟨q.ns,q.hs,q.rs,q.td⟩
       ·exact q.set (q.at _)
      ·exact q
   ·exact q
theorem Quiet.plays{w:Wd}(q:Quiet w):∀ {es:List Ev},(∀ e∈es,e.k≠3)->Quiet (c7 w es)
 | [],_=>q
 | e::es,h=>(q.do_ (h e (by simp))).plays (fun x hx=>h x (by simp[hx]))
theorem Quiet.new{rooms:List Int}{w:Wd}(h:bZ rooms=some w):Quiet w:=by
 unfold bZ at h
 split at h
 case isFalse=>cases h
 simp only[Option.some.injEq]at h;subst h
 refine⟨rfl,fun x hx=>?_,by simp[deskNew],rfl⟩
 simp only[dJ,List.mem_map]at hx
 obtain⟨p,_,rfl⟩:=hx
 rfl
theorem Quiet.trips{w:Wd}(q:Quiet w)(ho:WOk w):∀ t∈af w.dk false,t.s=1\/t.s=3 :=
 jX ho.dk.tr q.rs (by simp)
structure Loose (w:Wd):Prop where
 ns:w.ns=[]
 hs:∀ h∈w.hs,h.lg.rs=[]
 f:w.dk.lg.f=0
theorem Loose.words{w:Wd}(q:Loose w):aN w.dk=[]:=by
 unfold aN af ah a9
 simp[q.f,a8,bJ,cy]
theorem Loose.set{w:Wd}(q:Loose w){i:Int}{h:House}(hh:h.lg.rs=[]):Loose (setHouse w i h) :=
 ⟨q.ns,fun x hx=>by
  rcases List.mem_or_eq_of_mem_set hx with hx|hx
  ·exact q.hs x hx
  ·exact hx ▸ hh,q.f⟩
theorem Loose.at{w:Wd}(q:Loose w)(i:Int):(houseAt w i).lg.rs=[]:=by
 unfold houseAt
 cases e:w.hs[(i-1).toNat]? with
 | none=>rfl
 | some h=>exact q.hs h (List.mem_of_getElem? e)
theorem Loose.write{w:Wd}(q:Loose w)(r:Rec):Loose {w with dk:=aQ w.dk r} :=
 ⟨q.ns,q.hs,(eP _ _).2.2.trans q.f⟩
theorem Loose.do_{w:Wd}(q:Loose w){e:Ev}(h7:e.k≠7)(h8:e.k≠8):Loose (wdo w e):=by
 unfold wdo
 split
 ·unfold iQ
  split
  ·unfold dx;split
   ·exact q.write _
   ·exact q
  ·split
   ·unfold mu;split
    ·exact q.write _
    ·exact q
   ·split
    ·rw[q.words]
     simp only[List.getElem?_nil,ite_self]
     exact q
    ·exact q
 ·split
  ·unfold jS
   rw[q.ns]
   simp only[List.getElem?_nil,ite_self]
   exact q
  ·split
   ·unfold cP
    split
    case isFalse=>exact q
    split
    ·split
     ·exact⟨q.ns,q.hs,q.f⟩
     ·exact q.set (q.at _)
    ·exact q
   ·exact q
theorem Loose.plays{w:Wd}(q:Loose w):∀ {es:List Ev},(∀ e∈es,e.k≠7/\e.k≠8)->Loose (c7 w es)
 | [],_=>q
 | e::es,h=>(q.do_ (h e (by simp)).1 (h e (by simp)).2).plays (fun x hx=>h x (by simp[hx]))
theorem Loose.new{rooms:List Int}{w:Wd}(h:bZ rooms=some w):Loose w:=by
 have q:=Quiet.new h
 unfold bZ at h
 split at h
 case isFalse=>cases h
 simp only[Option.some.injEq]at h;subst h
 exact⟨rfl,q.hs,rfl⟩
theorem Loose.trips{w:Wd}(q:Loose w):af w.dk true=[]:=by
 unfold af ah a9
 simp[q.f,a8,bJ]
end Dx
namespace Dx
variable {w:Wd}
theorem Fwd.rfl'(v:V):Fwd v v:=⟨tpre.rfl' _,fun _ _ _ _=>hle.rfl' _⟩
theorem Fwd.trans{a b c:V}(h1:Fwd a b)(h2:Fwd b c):Fwd a c:=⟨h1.F.trans h2.F,fun h t hh ht=>(h1.h h t hh ht).trans (h2.h h t hh ht)⟩
theorem Fwd.same{a b:V}(hF:b.F=a.F)(hh:∀ h t,isH h->b.hF h t=a.hF h t):Fwd a b:=⟨by rw[hF];exact tpre.rfl' _,fun h t hi _=>by rw[hh h t hi];exact hle.rfl' _⟩
def ke(w:Wd):List Int:=w.hs.map (·.room)
theorem Bd{i:Int}{x:House}(hx:x.room=(houseAt w i).room):ke (setHouse w i x)=ke w:=by
 unfold ke setHouse
 rw[List.map_set,hx]
 unfold houseAt
 by_cases h:(i-1).toNat<w.hs.length
 ·rw[List.getElem?_eq_getElem h]
  simp only[Option.getD_some]
  rw[<-List.getElem_map (f:=fun x:House=>x.room) (h:=by simpa using h),List.set_getElem_self]
 ·rw[List.set_eq_of_length_le (by simp;omega)]
theorem xN(x:Word):ke (aM w x).1=ke w:=by
 unfold aM
 split
 ·rfl
 ·exact Bd (oR _ _).2.2
end Dx
namespace Dx
variable {w:Wd}
structure AllUp (w:Wd):Prop where
 dk:w.dk.up=true
 hs:∀ h∈w.hs,h.up=true
theorem AllUp.at(u:AllUp w)(ho:WOk w){i:Int}(hi:isH i):(houseAt w i).up=true:=u.hs _ (List.mem_of_getElem? (ho.houseAt hi).1)
structure Hrd (a b:Wd):Prop where
 td:∀ z∈a.dk.td,z∈b.dk.td
 h:∀ h t,isH h->isT t->hle ((vw a).hA h t) ((vw b).hA h t)
 A:tpre (vw a).A (vw b).A
 len:(vw b).A.length=(vw a).A.length
 F:(vw b).F=(vw a).F
 hF:∀ h t,isH h->(vw b).hF h t=(vw a).hF h t
 up:AllUp a->AllUp b
 rooms:ke b=ke a
theorem Hrd.rfl'(a:Wd):Hrd a a:=⟨fun _ h=>h,fun _ _ _ _=>hle.rfl' _,tpre.rfl' _,rfl,rfl,fun _ _ _=>rfl,id,rfl⟩
theorem Hrd.trans{a b c:Wd}(h1:Hrd a b)(h2:Hrd b c):Hrd a c :=
 ⟨fun z h=>h2.td z (h1.td z h),fun h t hh ht=>(h1.h h t hh ht).trans (h2.h h t hh ht),h1.A.trans h2.A,h2.len.trans h1.len,h2.F.trans h1.F,fun h t hh=>(h2.hF h t hh).trans (h1.hF h t hh),fun u=>h2.up (h1.up u),h2.rooms.trans h1.rooms⟩
theorem Be{d:Desk}{x z:Word}(h:z∈d.td):z∈(aZ d x).td:=by
 unfold aZ;split
 ·exact h
 ·simp[h]
theorem xO(d:Desk)(x:Word):x∈(aZ d x).td:=by
 unfold aZ;split
 ·rename_i h;simpa using h
 ·simp
theorem nu(d:Desk)(t:Int):(aF d t).td=d.td:=by
 unfold aF;split
 ·exact(eP _ _).1
 ·rfl
theorem Cn{d:Desk}{x z:Word}(h:z∈d.td):z∈(dhear d x).td:=by
 unfold dhear;split
 ·rw[nu];exact Be h
 ·exact h
theorem ny{d:Desk}{x:Word}(h:bd d x=true):x∈(dhear d x).td:=by
 unfold dhear;rw[if_pos h,nu];exact xO d x
theorem lh(d:Desk)(t:Int):bC d t≠4:=by
 unfold bC
 dsimp only
 split
 ·decide
 ·split
  ·decide
  ·split
   ·decide
   ·split<;>decide
theorem Ad{d:Desk}(h:DkOk d)(x:Word):tpre (af d false) (af (dhear d x) false)/\(af (dhear d x) false).length=(af d false).length:=by
 unfold dhear
 split
 case isFalse=>exact⟨tpre.rfl' _,rfl⟩
 rename_i hc
 have hd1:=h.tell hc
 simp only[bd,Bool.and_eq_true,decide_eq_true_eq,wordOk_iff]at hc
 have e:af (aZ d x) false=af d false:=by unfold af;rw[(fq d x).2]
 unfold aF
 split
 ·rename_i hk
  have hr:=eQ hc.2.1.t hk
  by_cases c:(aZ d x).up=true/\bW (af (aZ d x) false) ⟨bC (aZ d x) x.t,x.t,[]⟩=true
  ·have c2:=c.2
   rw[(dt hd1 hr c).2.2,e]
   rw[e]at c2
   refine⟨ve hr c2,?_⟩
   rw[dY,if_neg (lh _ _)]
  ·rw[iT c,e];exact⟨tpre.rfl' _,rfl⟩
 ·rw[e];exact⟨tpre.rfl' _,rfl⟩
theorem Bf{h:House}(ho:HsOk h){x:Word}(hx:WdOk x){t:Int}(ht:1<=t):hle (hAt (ax h false).hs t) (hAt (ax (hhear h x).1 false).hs t):=by
 unfold hhear
 split
 ·exact hle.rfl' _
 ·split
  ·rename_i hm
   rw[(iC ho (b8 hx) hm).2]
   exact Ab (ho.stOk false).len (b8 hx) hm ht
  ·split<;>exact hle.rfl' _
theorem fZ{y:Word}(h:y.k>=4):(aM w y).1={w with dk:=dhear w.dk y}:=by unfold aM;rw[if_pos h]
theorem f0{x:Word}(h:¬ x.k>=4):aM w x=(setHouse w x.h (hhear (houseAt w x.h) x).1,(hhear (houseAt w x.h) x).2):=by unfold aM;rw[if_neg h]
theorem vf(ho:WOk w){x:Word}(hx:WdOk x):Hrd w (aM w x).1:=by
 have hF:=sx ho hx
 have hr:=xN (w:=w) x
 by_cases hk:x.k>=4
 ·rw[fZ hk]at hF hr ⊢
  have a:=Ad ho.dk x
  exact⟨fun z hz=>Cn hz,fun _ _ _ _=>hle.rfl' _,a.1,a.2,hF.1,hF.2,fun u=>⟨(ho.dk.hear x).2.1.trans u.dk,u.hs⟩,hr⟩
 ·rw[f0 hk]at hF hr ⊢
  have hi:isH x.h:=hx.h
  have hho:=(ho.houseAt hi).2.1
  refine⟨fun z hz=>hz,fun h t hh ht=>?_,tpre.rfl' _,rfl,hF.1,hF.2,fun u=>⟨u.dk,fun y hy=>?_⟩,hr⟩
  ·rw[(kd ho hi _ hh).2];split
   ·rename_i e;subst e;exact Bf hho hx ht.1
   ·exact hle.rfl' _
  ·rcases List.mem_or_eq_of_mem_set hy with hy|hy
   ·exact u.hs y hy
   ·rw[hy,(oR _ _).2.1];exact u.at ho hi
theorem rc(ho:WOk w){x:Word}(hx:WdOk x):Hrd w (bw w x):=by
 have h:=ho.hear hx
 have h1:=vf ho hx
 unfold bw
 split
 ·rename_i y hy;exact h1.trans (vf h.1 (h.2 y hy).1)
 ·exact h1
theorem li:∀ {xs:List Word} {w:Wd},WOk w->(∀ x∈xs,WdOk x)->Hrd w (fN w xs)
 | [],w,_,_=>Hrd.rfl' w
 | x::xs,w,ho,hx=>(rc ho (hx x (by simp))).trans (li (xs:=xs) (ho.hear2 (hx x (by simp))) (fun y hy=>hx y (by simp[hy])))
theorem nA:∀ {xs:List Word} {w:Wd} {x:Word},WOk w->Inv (vw w)->AllUp w->(∀ x∈xs,WdOk x/\NetOk (vw w) x)->x∈xs ->
  ∃ m,WOk m/\Inv (vw m)/\AllUp m/\WdOk x/\NetOk (vw m) x/\Hrd w m/\Hrd (bw m x) (fN w xs)
 | [],_,_,_,_,_,_,hm=>by cases hm
 | y::ys,w,x,ho,I,u,hx,hm=>by
  have hy:=hx y (by simp)
  have h1:=rc ho hy.1
  have ho1:=ho.hear2 hy.1
  rcases List.mem_cons.1 hm with e|hm'
  ·subst e
   exact⟨w,ho,I,u,hy.1,hy.2,Hrd.rfl' w,li (xs:=ys) ho1 (fun z hz=>(hx z (by simp[hz])).1)⟩
  ·have hn:∀ z∈ys,WdOk z/\NetOk (vw (bw w y)) z:=fun z hz=>by
    have h2:=hx z (by simp[hz])
    exact⟨h2.1,NetOk.congr (v:=vw w) (by rw[h1.F]) (h1.hF _ _ h2.1.h) h2.2⟩
   obtain⟨m,a1,a2,a3,a4,a5,a6,a7⟩:=nA (xs:=ys) ho1 (nq ho I hy.1 hy.2) (h1.up u) hn hm'
   exact⟨m,a1,a2,a3,a4,a5,h1.trans a6,a7⟩
theorem gI(ho:WOk w)(I:Inv (vw w))(u:AllUp w){x y:Word}(hx:WdOk x)(hk:x.k<=3)(hn:NetOk (vw w) x)(hy:(aM w x).2=some y)(ht:y.t=x.t):y∈(bw w x).dk.td:=by
 have h2:=(ho.hear hx).2 y hy
 have ed:(aM w x).1.dk=w.dk:=by rw[f0 (by omega)];rfl
 unfold bw
 rw[hy]
 dsimp only
 rw[fZ h2.2]
 show y∈(dhear (aM w x).1.dk y).td
 rw[ed]
 refine ny ?_
 have hl:=bN hn.s
 have hp:=I.pre.len
 have hx1:=hx.t.1
 have hlen:y.t<=((af w.dk false).length:Int):=by
  show y.t<=((vw w).A.length:Int)
  omega
 simp[bd,u.dk,wordOk_iff.2 h2.1,h2.2,hlen]
theorem Bg(ho:WOk w){x:Word}(hx:WdOk x)(h t:Int):(vw (bw w x)).hA h t=(vw (aM w x).1).hA h t:=by
 have h:=ho.hear hx
 unfold bw
 split
 ·rename_i y hy;rw[fZ (h.2 y hy).2];rfl
 ·rfl
theorem jw(ho:WOk w)(u:AllUp w){x:Word}(hx:WdOk x)(hk:x.k<=3) :
  (may (ax (houseAt w x.h) false) (bf x)=true/\(vw (bw w x)).hA x.h x.t=io ((vw w).hA x.h x.t) (bf x)) ∨
  (may (ax (houseAt w x.h) false) (bf x)=false/\(vw (bw w x)).hA x.h x.t=(vw w).hA x.h x.t ∧
   (aM w x).2=if x.k=1/\((vw w).hA x.h x.t).s=0 then some ⟨5,x.h,x.t,0⟩ else answer x.h x ((vw w).hF x.h x.t).s):=by
 have hi:isH x.h:=hx.h
 obtain⟨_,hho,hid⟩:=ho.houseAt hi
 have same:setHouse w x.h (houseAt w x.h)=w:=by
  obtain⟨e,_,_⟩:=ho.houseAt hi
  have hl:=(List.getElem?_eq_some_iff.1 e).1
  have he:=(List.getElem?_eq_some_iff.1 e).2
  unfold setHouse
  rw[<-he,List.set_getElem_self]
 have e:=f0 (w:=w) (x:=x) (by omega)
 have hu:=u.at ho hi
 have c0:(!(houseAt w x.h).up || !bg x || x.h != (houseAt w x.h).id || decide (x.k>3))=false:=by
  rw[hid,hu,wordOk_iff.2 hx];simp;omega
 rw[Bg ho hx]
 by_cases hm:may (ax (houseAt w x.h) false) (bf x)=true
 ·left
  refine⟨hm,?_⟩
  have eh:(hhear (houseAt w x.h) x).1={houseAt w x.h with lg:=cL (houseAt w x.h).lg (bf x)}:=by unfold hhear;rw[c0];simp only[Bool.false_eq_true,if_false];rw[if_pos hm]
  rw[e]
  dsimp only
  rw[(kd ho hi _ hi).2,if_pos rfl,eh,(iC hho (b8 hx) hm).2,tX (hho.stOk false).len (b8 hx) hx.t.1,nj,if_pos rfl]
  rfl
 ·right
  refine⟨by simpa using hm,?_⟩
  rw[e]
  dsimp only
  have eh:hhear (houseAt w x.h) x=if x.k=1/\dW (ax (houseAt w x.h) false) x.t=0 then(houseAt w x.h,some ⟨5,(houseAt w x.h).id,x.t,0⟩) else(houseAt w x.h,answer (houseAt w x.h).id x (dW (ax (houseAt w x.h) true) x.t)):=by
   unfold hhear;rw[c0];simp only[Bool.false_eq_true,if_false];rw[if_neg hm]
  have eh1:(hhear (houseAt w x.h) x).1=houseAt w x.h:=by rw[eh];split<;>rfl
  rw[eh1,same]
  refine⟨rfl,?_⟩
  rw[eh,hid]
  have hst:dW (ax (houseAt w x.h) false) x.t=((vw w).hA x.h x.t).s:=rfl
  have hst2:dW (ax (houseAt w x.h) true) x.t=((vw w).hF x.h x.t).s:=rfl
  rw[hst,hst2]
  split<;>rfl
theorem pG(x:Word):may (ax (houseAt w x.h) false) (bf x)=if x.k=1 then(((vw w).hA x.h x.t).s==0) && decide (x.m<=free (ax (houseAt w x.h) false)) else if x.k=2 then((vw w).hA x.h x.t).s==1 else(((vw w).hA x.h x.t).s==1) || (((vw w).hA x.h x.t).s==0):=by
 have hst:dW (ax (houseAt w x.h) false) x.t=((vw w).hA x.h x.t).s:=rfl
 unfold bf may
 by_cases h1:x.k=1
 ·simp[h1,hst]
 ·by_cases h2:x.k=2
  ·simp[h2,hst]
  ·simp[h1,h2,hst]
theorem re(ho:WOk w)(I:Inv (vw w))(u:AllUp w){x:Word}(hx:WdOk x)(hn:NetOk (vw w) x)(hk:x.k=1) :
  (((vw (bw w x)).hA x.h x.t).s≠0\/(⟨5,x.h,x.t,0⟩:Word)∈(bw w x).dk.td)/\(((vw w).hF x.h x.t).s=1->(⟨4,x.h,x.t,0⟩:Word)∈(bw w x).dk.td):=by
 have hh:=I.hle x.h x.t hx.h hx.t
 rcases jw ho u hx (by omega)with ⟨hm,e⟩|⟨hm,e,ea⟩
 ·rw[pG,if_pos hk]at hm
  simp only[Bool.and_eq_true,beq_iff_eq]at hm
  refine⟨.inl ?_,fun h1=>?_⟩
  ·rw[e];simp[io,bf,hk]
  ·unfold hle at hh;omega
 ·refine⟨?_,fun h1=>?_⟩
  ·by_cases h0:((vw w).hA x.h x.t).s=0
   ·rw[if_pos ⟨hk,h0⟩]at ea
    exact .inr (gI ho I u hx (by omega) hn ea rfl)
   ·rw[e];exact .inl h0
  ·rw[if_neg (by unfold hle at hh;omega)]at ea
   refine gI ho I u hx (by omega) hn (y:=⟨4,x.h,x.t,0⟩) ?_ rfl
   rw[ea];unfold answer;rw[if_pos ⟨hk,.inl h1⟩]
theorem nB(ho:WOk w)(I:Inv (vw w))(u:AllUp w){x:Word}(hx:WdOk x)(hn:NetOk (vw w) x)(hk:x.k=2) :
  (((vw w).hA x.h x.t).s=1\/((vw w).hA x.h x.t).s=2->((vw (bw w x)).hA x.h x.t).s=2)/\(((vw w).hF x.h x.t).s=2->(⟨6,x.h,x.t,0⟩:Word)∈(bw w x).dk.td):=by
 have hh:=I.hle x.h x.t hx.h hx.t
 rcases jw ho u hx (by omega)with ⟨hm,e⟩|⟨hm,e,ea⟩
 ·rw[pG,if_neg (by omega),if_pos hk]at hm
  simp only[beq_iff_eq]at hm
  refine⟨fun _=>?_,fun h1=>?_⟩
  ·rw[e];simp[io,bf,hk]
  ·unfold hle at hh;omega
 ·rw[pG,if_neg (by omega),if_pos hk]at hm
  simp only[beq_eq_false_iff_ne]at hm
  refine⟨fun h1=>by rw[e];omega,fun h1=>?_⟩
  rw[if_neg (by omega)]at ea
  refine gI ho I u hx (by omega) hn (y:=⟨6,x.h,x.t,0⟩) ?_ rfl
  rw[ea];unfold answer;rw[if_neg (by omega),if_neg (by omega),if_pos ⟨hk,h1⟩]
theorem rg(ho:WOk w)(I:Inv (vw w))(u:AllUp w){x:Word}(hx:WdOk x)(hn:NetOk (vw w) x)(hk:x.k=3) :
  (((vw w).hA x.h x.t).s≠2->((vw (bw w x)).hA x.h x.t).s=3)/\(((vw w).hF x.h x.t).s=3->(⟨7,x.h,x.t,0⟩:Word)∈(bw w x).dk.td):=by
 have hh:=I.hle x.h x.t hx.h hx.t
 have hr:=oT (I.okA x.h x.t hx.h hx.t)
 rcases jw ho u hx (by omega)with ⟨hm,e⟩|⟨hm,e,ea⟩
 ·rw[pG,if_neg (by omega),if_neg (by omega)]at hm
  simp only[Bool.or_eq_true,beq_iff_eq]at hm
  refine⟨fun _=>?_,fun h1=>?_⟩
  ·rw[e];simp[io,bf,hk]
  ·unfold hle at hh;omega
 ·rw[pG,if_neg (by omega),if_neg (by omega)]at hm
  simp only[Bool.or_eq_false_iff,beq_eq_false_iff_ne]at hm
  refine⟨fun h1=>by rw[e];omega,fun h1=>?_⟩
  rw[if_neg (by omega)]at ea
  refine gI ho I u hx (by omega) hn (y:=⟨7,x.h,x.t,0⟩) ?_ rfl
  rw[ea];unfold answer;rw[if_neg (by omega),if_neg (by omega),if_neg (by omega),if_pos ⟨hk,h1⟩]
structure Cm (w:Wd):Prop where
 ok:WOk w
 I:Inv (vw w)
 up:AllUp w
 ns:w.ns=[]
 df:w.dk.lg.f=w.dk.lg.rs.length
 hf:∀ h∈w.hs,h.lg.f=h.lg.rs.length
theorem rh{l:Log}(h:l.f=l.rs.length):a9 l true=a9 l false:=by
 unfold a9;simp[h]
theorem Cm.F(c:Cm w):(vw w).F=(vw w).A:=by
 show af w.dk true=af w.dk false
 unfold af ah;rw[rh c.df]
theorem Cm.hF(c:Cm w){h:Int}(hh:isH h)(t:Int):(vw w).hF h t=(vw w).hA h t:=by
 have e:=rh (c.hf _ (List.mem_of_getElem? (c.ok.houseAt hh).1))
 show hAt (ax (houseAt w h) true).hs t=hAt (ax (houseAt w h) false).hs t
 unfold ax;rw[e]
theorem fg{d:Desk}(h:d.up=true):mv d=d:=by cases d;simp only at h;subst h;rfl
theorem xP{h:House}(u:h.up=true):nc h=h:=by cases h;simp only at u;subst u;rfl
theorem lj(u:AllUp w):fa w=w:=by
 have h2:w.hs.map nc=w.hs:=by
  conv=>rhs;rw[<-List.map_id w.hs]
  exact List.map_congr_left fun h hh=>xP (u.hs h hh)
 unfold fa;rw[fg u.dk,h2]
theorem lK{l:Log}(h:l.f=l.rs.length):eM l=l:=by cases l;simp only at h;subst h;rfl
theorem uH{d:Desk}(h:d.lg.f=d.lg.rs.length):bv d=d:=by
 unfold bv;split
 ·rw[lK h]
 ·rfl
theorem uI{h:House}(e:h.lg.f=h.lg.rs.length):bQ h=h:=by
 unfold bQ;split
 ·rw[lK e]
 ·rfl
theorem jY:∀(xs:List Word) (w:Wd),(fN w xs).ns=w.ns
 | [],_=>rfl
 | x::xs,w=>(jY xs (bw w x)).trans (sg w x)
theorem Bh(ho:WOk w)(I:Inv (vw w))(u:AllUp w)(hns:w.ns=[]):Cm (bB w)/\(vw (bB w)).A=(vw w).A/\(∀ h t,isH h->(vw (bB w)).hA h t=(vw w).hA h t):=by
 have ho':WOk (bB w):=ho.map ho.dk.force fun x hx=>⟨hx.force,(iR x).1⟩
 have e:∀ h,isH h->houseAt (bB w) h=bQ (houseAt w h):=fun h hh=>iv w _ _ _ ho hh
 refine⟨⟨ho',uG ho I,⟨?_,fun h hh=>?_⟩,hns,?_,fun h hh=>?_⟩,dk_force.2,fun h t hh=>?_⟩
 ·show (bv w.dk).up=true
  unfold bv;split<;>exact u.dk
 ·simp only[bB,List.mem_map]at hh
  obtain⟨y,hy,rfl⟩:=hh
  rw[(iR y).2.2];exact u.hs y hy
 ·show (bv w.dk).lg.f=(bv w.dk).lg.rs.length
  unfold bv;rw[if_pos u.dk];rfl
 ·simp only[bB,List.mem_map]at hh
  obtain⟨y,hy,rfl⟩:=hh
  unfold bQ;rw[if_pos (u.hs y hy)];rfl
 ·show hAt (ax (houseAt (bB w) h) false).hs t=_
  rw[e h hh,hs_force.2];rfl
structure Rnd (w m w':Wd):Prop where
 c:Cm w
 em:m=fN w (aN w.dk)
 okm:WOk m
 Im:Inv (vw m)
 hm:Hrd w m
 c':Cm w'
 A:(vw w').A=(vw m).A
 hA:∀ h t,isH h->(vw w').hA h t=(vw m).hA h t
theorem Cm.rnd(c:Cm w):Rnd w (fN w (aN w.dk)) (eO w):=by
 have e0:({fa w with ns:=[]}:Wd)=w:=by
  rw[lj c.up]
  obtain⟨d,hs,ns⟩:=w
  have:=c.ns
  simp only at this;subst this;rfl
 have e1:eO w=bB (fN w (aN w.dk)):=by
  unfold eO
  rw[e0,c.ns,fg c.up.dk];rfl
 have hx:=lJ c.ok c.I
 rw[e0,c.ns,fg c.up.dk,List.nil_append]at hx
 have hh:=li c.ok fun x h=>(hx x h).1
 have hok:=c.ok.hears fun x h=>(hx x h).1
 have Im:=nt c.ok c.I hx
 obtain⟨c',eA,eh⟩:=Bh hok Im (hh.up c.up) ((jY _ _).trans c.ns)
 rw[<-e1]at c' eA eh
 exact⟨c,rfl,hok,Im,hh,c',eA,eh⟩
theorem lL{td:List Word}{s t:Int}:∀ {ns:List Int} {h:Int} {j:Nat} {n:Int} {x:Word},ns[j]?=some n->x∈fL td s t (h+j) n->x∈ba td s t h ns
 | [],_,_,_,_,e,_=>by simp at e
 | a::ns,h,0,n,x,e,hx=>by
  simp at e;subst e;simp only[ba,List.mem_append];left;simpa using hx
 | a::ns,h,j+1,n,x,e,hx=>by
  simp only[ba,List.mem_append];right
  refine lL (j:=j) (by simpa using e) ?_
  rwa [show h+1+(j:Int)=h+((j+1:Nat):Int) by omega]
theorem ri{td:List Word}:∀ {l:List Trip} {t:Int} {j:Nat} {y:Trip} {x:Word},l[j]?=some y->y.s<=3->x∈ba td y.s (t+j) 1 y.m->x∈cy td t l
 | [],_,_,_,_,e,_,_=>by simp at e
 | a::l,t,0,y,x,e,hs,hx=>by
  simp at e;subst e;simp only[cy,List.mem_append];left;rw[if_neg (by omega)];simpa using hx
 | a::l,t,j+1,y,x,e,hs,hx=>by
  simp only[cy,List.mem_append];right
  refine ri (j:=j) (by simpa using e) hs ?_
  rwa [show t+1+(j:Int)=t+((j+1:Nat):Int) by omega]
theorem Cm.said(c:Cm w){t h:Int}(ht:isT t)(hh:isH h)(hs:1<=(vw w).sF t/\(vw w).sF t<=3)(hw:0<(vw w).want t h) :
  (⟨mt ((vw w).sF t),h,t,0⟩:Word)∈(vw w).td\/∃ x∈aN w.dk,x.k=(vw w).sF t/\x.h=h/\x.t=t:=by
 by_cases hm:(⟨mt ((vw w).sF t),h,t,0⟩:Word)∈(vw w).td
 ·exact .inl hm
 right
 have hl:=bN (l:=(vw w).F) (t:=t) (by have:=hs.1;unfold V.sF at this;omega)
 have ht1:=ht.1
 have hh1:=hh.1
 refine⟨⟨(vw w).sF t,h,t,if(vw w).sF t=1 then(vw w).want t h else 0⟩,?_,rfl,rfl,rfl⟩
 unfold aN
 rw[if_pos c.up.dk]
 refine ri (j:=(t-1).toNat) (y:=tAt (vw w).F t) ?_ hs.2 ?_
 ·show (vw w).F[(t-1).toNat]?=_
  rw[pF hl,List.getElem?_eq_getElem hl]
 ·rw[show (1:Int)+((t-1).toNat:Nat)=t by omega]
  refine lL (j:=(h-1).toNat) (n:=(vw w).want t h) ?_ ?_
  ·have:=hw
   unfold V.want mAt at this ⊢
   cases e:(tAt (vw w).F t).m[(h-1).toNat]? with
   | none=>rw[e]at this;simp at this
   | some n=>rfl
  ·rw[show (1:Int)+((h-1).toNat:Nat)=h by omega]
   unfold fL
   have:¬ ((vw w).want t h=0\/w.dk.td.contains ⟨mt (tAt (vw w).F t).s,h,t,0⟩=true):=by
    rw[not_or]
    exact⟨by omega,fun h=>hm (by simp only[List.contains_eq_mem,decide_eq_true_eq]at h;exact h)⟩
   rw[if_neg this]
   exact List.mem_singleton.2 rfl
section
variable {m w':Wd}
theorem Rnd.sF(R:Rnd w m w')(t:Int):(vw m).sA t=(vw w').sF t:=by unfold V.sA V.sF;rw[R.c'.F,R.A]
theorem Rnd.mF(R:Rnd w m w')(t:Int):(vw m).sF t=(vw w).sF t:=by unfold V.sF;rw[R.hm.F]
theorem Rnd.want(R:Rnd w m w')(t h:Int):(vw m).want t h=(vw w).want t h:=by unfold V.want;rw[R.hm.F]
theorem Rnd.hF(R:Rnd w m w'){h:Int}(hh:isH h)(t:Int):(vw w').hF h t=(vw m).hA h t:=by rw[R.c'.hF hh,R.hA h t hh]
theorem Rnd.hle(R:Rnd w m w'){h t:Int}(hh:isH h)(ht:isT t):hle ((vw w).hF h t) ((vw w').hF h t):=by rw[R.hF hh,R.c.hF hh];exact R.hm.h h t hh ht
theorem Rnd.pre(R:Rnd w m w'):tpre (vw w).F (vw w').F:=by rw[R.c.F,R.c'.F,R.A];exact R.hm.A
theorem Rnd.len(R:Rnd w m w'):(vw w').F.length=(vw w).F.length:=by rw[R.c.F,R.c'.F,R.A];exact R.hm.len
theorem Rnd.step(R:Rnd w m w'){t:Int}(ht:isT t)(hs:(vw w).sF t≠0) :
  ((vw w').sF t=(vw w).sF t\/((vw w).sF t=1/\2<=(vw w').sF t/\(vw w').sF t<=5)\/((vw w).sF t=2/\(vw w').sF t=4)\/((vw w).sF t=3/\(vw w').sF t=5))/\∀ h,(vw w').want t h=(vw w).want t h:=by
 have h:=R.pre.le t ht.1 (by have:=bN hs;have:=ht.1;omega)
 exact⟨h.2,fun x=>by unfold V.want;rw[h.1]⟩
theorem Rnd.word(R:Rnd w m w'){x:Word}(hx:x∈aN w.dk):∃ a,WOk a/\Inv (vw a)/\AllUp a/\WdOk x/\NetOk (vw a) x/\Hrd w a/\Hrd (bw a x) m:=by
 have hw:=lJ R.c.ok R.c.I
 rw[lj R.c.up,R.c.ns,fg R.c.up.dk,List.nil_append]at hw
 rw[R.em]
 exact nA R.c.ok R.c.I R.c.up (fun x hx=>⟨(hw x hx).1,NetOk.ns' (hw x hx).2⟩) hx
theorem Rnd.m3(R:Rnd w m w'){t:Int}(hs:(vw m).sA t≠0):(tAt (vw m).A t).m.length=3:=aT (R.Im.A_ok hs).1
theorem Rnd.mAt(R:Rnd w m w'){t:Int}(ht:isT t)(hs:(vw w).sF t≠0)(h:Int):mAt (tAt (vw m).A t).m h=(vw w).want t h:=by
 rw[R.Im.FA_m ht.1 (by rw[R.mF];exact hs),R.want]
theorem Rnd.asked(R:Rnd w m w'){t:Int}(ht:isT t)(h1:(vw w).sF t=1)(h1':(vw w').sF t=1):∀ h,isH h->0<(vw w').want t h->((vw w').hF h t).s=1:=by
 intro h hh hw
 rw[(R.step ht (by omega)).2]at hw
 have hsm:(vw m).sA t=1:=(R.sF t).trans h1'
 obtain⟨d1,d2⟩:=(R.Im.trip t ht).d1 hsm
 have h0:((vw m).hA h t).s≠0:=by
  rcases R.c.said ht hh (by omega) hw with hm|⟨x,hx,e1,rfl,rfl⟩
  ·rw[h1]at hm
   have k:=(R.c.I.told _ hm).k4 rfl
   have:=R.hm.h h t hh ht
   rw[<-R.c.hF hh]at this
   unfold Dx.hle at this
   simp only at k;omega
  ·obtain⟨a,oa,Ia,ua,wx,nx,g1,g2⟩:=R.word hx
   rcases (re oa Ia ua wx nx (by omega)).1 with k|k
   ·have:=g2.h x.h x.t hh ht
    unfold Dx.hle at this;omega
   ·exfalso
    have:aP (vw m).td x.t 5 1 (tAt (vw m).A x.t).m=true:=(iS (R.m3 (by omega))).2 ⟨x.h,hh,by rw[R.mAt ht (by omega)];exact hw,g2.td _ k⟩
    rw[this]at d1;cases d1
 have f:=R.Im.hold h t hh ht h0
 have hr:=oT (R.Im.okA h t hh ht)
 have e:=R.mF t
 rw[R.hF hh]
 by_cases h2:((vw m).hA h t).s=2
 ·have:=f.c h2;omega
 ·by_cases h3:((vw m).hA h t).s=3
  ·have:=f.u h3;omega
  ·omega
theorem Rnd.asked2(R:Rnd w m w'){t:Int}(ht:isT t)(h1:(vw w).sF t=1)(ha:∀ h,isH h->0<(vw w).want t h->((vw w).hF h t).s=1):(vw w').sF t≠1:=by
 intro h1'
 have hsm:(vw m).sA t=1:=(R.sF t).trans h1'
 obtain⟨d1,d2⟩:=(R.Im.trip t ht).d1 hsm
 have:al (vw m).td t 4 1 (tAt (vw m).A t).m=true:=(da (R.m3 (by omega))).2 fun h hh hw=>by
  rw[R.mAt ht (by omega)]at hw
  rcases R.c.said ht hh (by omega) hw with hm|⟨x,hx,e1,rfl,rfl⟩
  ·rw[h1]at hm;exact R.hm.td _ hm
  ·obtain⟨a,oa,Ia,ua,wx,nx,g1,g2⟩:=R.word hx
   exact g2.td _ ((re oa Ia ua wx nx (by omega)).2 (by rw[g1.hF _ _ hh];exact ha _ hh hw))
 rw[this]at d2;cases d2
theorem Rnd.yes(R:Rnd w m w'){t:Int}(ht:isT t)(h1:(vw w).sF t=2)(h1':(vw w').sF t=2):∀ h,isH h->0<(vw w').want t h->((vw w').hF h t).s=2:=by
 intro h hh hw
 rw[(R.step ht (by omega)).2]at hw
 rw[R.hF hh]
 have hy:=((R.c.I.trip t ht).yes (by left;unfold V.sA;rw[<-R.c.F];exact h1)).2 h hh hw
 have hwm:=R.hm.h h t hh ht
 rw[<-R.c.hF hh]at hwm
 rcases R.c.said ht hh (by omega) hw with hm|⟨x,hx,e1,rfl,rfl⟩
 ·rw[h1]at hm
  have k:=(R.c.I.told _ hm).k6 rfl
  unfold Dx.hle at hwm
  simp only at k;omega
 ·obtain⟨a,oa,Ia,ua,wx,nx,g1,g2⟩:=R.word hx
  have hwa:=g1.h x.h x.t hh ht
  rw[<-R.c.hF hh]at hwa
  have n3:((vw a).hA x.h x.t).s≠3:=fun e=>by
   have:=(Ia.hold x.h x.t hh ht (by omega)).u e
   unfold V.sF at this h1
   rw[g1.F]at this;omega
  have k:=(nB oa Ia ua wx nx (by omega)).1 (by unfold Dx.hle at hwa;omega)
  have:=g2.h x.h x.t hh ht
  unfold Dx.hle at this;omega
theorem Rnd.yes2(R:Rnd w m w'){t:Int}(ht:isT t)(h1:(vw w).sF t=2)(ha:∀ h,isH h->0<(vw w).want t h->((vw w).hF h t).s=2):(vw w').sF t≠2:=by
 intro h1'
 have hsm:(vw m).sA t=2:=(R.sF t).trans h1'
 have d2:=(R.Im.trip t ht).d2 hsm
 have:al (vw m).td t 6 1 (tAt (vw m).A t).m=true:=(da (R.m3 (by omega))).2 fun h hh hw=>by
  rw[R.mAt ht (by omega)]at hw
  rcases R.c.said ht hh (by omega) hw with hm|⟨x,hx,e1,rfl,rfl⟩
  ·rw[h1]at hm;exact R.hm.td _ hm
  ·obtain⟨a,oa,Ia,ua,wx,nx,g1,g2⟩:=R.word hx
   exact g2.td _ ((nB oa Ia ua wx nx (by omega)).2 (by rw[g1.hF _ _ hh];exact ha _ hh hw))
 rw[this]at d2;cases d2
theorem Rnd.no(R:Rnd w m w'){t:Int}(ht:isT t)(h1:(vw w).sF t=3):∀ h,isH h->0<(vw w').want t h->((vw w').hF h t).s=3:=by
 intro h hh hw
 rw[(R.step ht (by omega)).2]at hw
 rw[R.hF hh]
 have hwm:=R.hm.h h t hh ht
 rw[<-R.c.hF hh]at hwm
 rcases R.c.said ht hh (by omega) hw with hm|⟨x,hx,e1,rfl,rfl⟩
 ·rw[h1]at hm
  have k:=(R.c.I.told _ hm).k7 rfl
  unfold Dx.hle at hwm
  simp only at k;omega
 ·obtain⟨a,oa,Ia,ua,wx,nx,g1,g2⟩:=R.word hx
  have n2:((vw a).hA x.h x.t).s≠2:=fun e=>by
   have:=(Ia.hold x.h x.t hh ht (by omega)).c e
   unfold V.sF at this h1
   rw[g1.F]at this;omega
  have k:=(rg oa Ia ua wx nx (by omega)).1 n2
  have:=g2.h x.h x.t hh ht
  unfold Dx.hle at this;omega
theorem Rnd.no2(R:Rnd w m w'){t:Int}(ht:isT t)(h1:(vw w).sF t=3)(ha:∀ h,isH h->0<(vw w).want t h->((vw w).hF h t).s=3):(vw w').sF t≠3:=by
 intro h1'
 have hsm:(vw m).sA t=3:=(R.sF t).trans h1'
 have d2:=(R.Im.trip t ht).d3 hsm
 have:al (vw m).td t 7 1 (tAt (vw m).A t).m=true:=(da (R.m3 (by omega))).2 fun h hh hw=>by
  rw[R.mAt ht (by omega)]at hw
  rcases R.c.said ht hh (by omega) hw with hm|⟨x,hx,e1,rfl,rfl⟩
  ·rw[h1]at hm;exact R.hm.td _ hm
  ·obtain⟨a,oa,Ia,ua,wx,nx,g1,g2⟩:=R.word hx
   exact g2.td _ ((rg oa Ia ua wx nx (by omega)).2 (by rw[g1.hF _ _ hh];exact ha _ hh hw))
 rw[this]at d2;cases d2
end
theorem Cm.two(c:Cm w){t:Int}(ht:isT t)(hs:1<=(vw w).sF t/\(vw w).sF t<=3):(vw (eO (eO w))).sF t≠(vw w).sF t:=by
 have R1:=c.rnd
 have R2:=R1.c'.rnd
 have s1:=(R1.step ht (by omega)).1
 have s2:=(R2.step ht (by omega)).1
 intro e
 have e1:(vw (eO w)).sF t=(vw w).sF t:=by omega
 rcases (show (vw w).sF t=1\/(vw w).sF t=2\/(vw w).sF t=3 by omega)with h|h|h
 ·exact R2.asked2 ht (e1.trans h) (R1.asked ht h (e1.trans h)) (e.trans h)
 ·exact R2.yes2 ht (e1.trans h) (R1.yes ht h (e1.trans h)) (e.trans h)
 ·exact R2.no2 ht (e1.trans h) (R1.no ht h) (e.trans h)
structure Fin (w:Wd):Prop extends Cm w where
 fin:∀ t:Int,1<=t->t<=(vw w).F.length->(vw w).sF t=4\/(vw w).sF t=5
theorem Fin.words(f:Fin w):aN w.dk=[]:=by
 refine List.eq_nil_iff_forall_not_mem.2 fun x hx=>?_
 obtain⟨h1,h2,_,h4,h5,_⟩:=fe f.ok.dk hx
 have:=f.fin x.t h1.t.1 h4
 have e:(vw w).sF x.t=x.k:=h5
 omega
theorem Fin.round(f:Fin w):eO w=w:=by
 have h:eO w=bB (fN w (aN w.dk)):=by
  have e0:({fa w with ns:=[]}:Wd)=w:=by
   rw[lj f.up]
   obtain⟨d,hs,ns⟩:=w
   have:=f.ns
   simp only at this;subst this;rfl
  unfold eO
  rw[e0,f.ns,fg f.up.dk];rfl
 rw[h,f.words]
 show bB w=w
 have h2:w.hs.map bQ=w.hs:=by
  conv=>rhs;rw[<-List.map_id w.hs]
  exact List.map_congr_left fun h hh=>uI (f.hf h hh)
 unfold bB
 rw[uH f.df,h2]
theorem Fin.calm(f:Fin w):∀ n:Nat,BL w n=w
 | 0=>rfl
 | n+1=>by
  show BL (eO w) n=w
  rw[f.round];exact f.calm n
theorem Fin.hold(f:Fin w){h t:Int}(hh:isH h)(ht:isT t):(((vw w).hA h t).s=0/\((vw w).hA h t).m=0/\((vw w).sF t=0\/(vw w).want t h=0))\/(((vw w).hA h t).s=2/\(vw w).sF t=4/\((vw w).hA h t).m=(vw w).want t h)\/(((vw w).hA h t).s=3/\(vw w).sF t=5):=by
 have hF:=f.hF hh t
 have sAF:(vw w).sA t=(vw w).sF t:=by unfold V.sA V.sF;rw[f.F]
 by_cases h0:((vw w).hA h t).s=0
 ·left
  refine⟨h0,?_,?_⟩
  ·have:=f.I.okA h t hh ht
   unfold bh at this;rw[if_pos h0]at this;simpa using this
  by_cases hs:(vw w).sF t=0
  ·exact .inl hs
  ·right
   have hl:=bN hs
   have h1:=ht.1
   have:=f.fin t ht.1 (by omega)
   have tf:=f.I.trip t ht
   have hmem:=(tripOk_iff.1 ((f.ok.dk.trOk true).ok _ (gP hl))).1
   have hge:0<=(vw w).want t h:=by
    unfold V.want Dx.mAt
    cases e:(tAt (vw w).F t).m[(h-1).toNat]? with
    | none=>simp
    | some n=>exact(gG hmem (List.mem_of_getElem? e)).1
   by_cases hw:0<(vw w).want t h
   ·rcases this with e|e
    ·have:=tf.kept (sAF.trans e) h hh hw;rw[hF]at this;omega
    ·have:=(tf.left (sAF.trans e)).2 h hh hw;rw[hF]at this;omega
   ·omega
 ·right
  have g:=f.I.hold h t hh ht h0
  have hl:=bN g.s
  have h1:=ht.1
  have:=f.fin t ht.1 (by omega)
  have tf:=f.I.trip t ht
  rcases this with e|e
  ·left
   have k:=tf.kept (sAF.trans e) h hh g.w
   rw[hF]at k
   exact⟨k,e,g.m (by omega)⟩
  ·right
   have k:=(tf.left (sAF.trans e)).2 h hh g.w
   rw[hF]at k
   exact⟨k,e⟩
end Dx
namespace Dx
variable {w:Wd}
def fR(l:List Trip)(h:Int):Int:=(l.map fun x=>if x.s=4 then mAt x.m h else 0).sum
theorem sum6(l:List Trip)(hl:l.length<=6)(h:Int):fR l h=(([1,2,3,4,5,6]:List Int).map fun t=>if(tAt l t).s=4 then mAt (tAt l t).m h else 0).sum:=by
 match l,hl with
 | [],_=>rfl
 | [a],_=>simp[fR,tAt]
 | [a,b],_=>simp[fR,tAt]
 | [a,b,c],_=>simp[fR,tAt]
 | [a,b,c,d],_=>simp[fR,tAt]
 | [a,b,c,d,e],_=>simp[fR,tAt]
 | [a,b,c,d,e,f],_=>simp[fR,tAt]
theorem had6{hs:List Hold}(hl:hs.length=6):(hs.map had).sum=(([1,2,3,4,5,6]:List Int).map fun t=>had (hAt hs t)).sum:=by
 match hs,hl with
 | [a,b,c,d,e,f],_=>simp[hAt]
theorem map6{f g:Int->Int}(h:∀ t:Int,isT t->f t=g t):(([1,2,3,4,5,6]:List Int).map f).sum=(([1,2,3,4,5,6]:List Int).map g).sum:=by
 have e:([1,2,3,4,5,6]:List Int).map f=([1,2,3,4,5,6]:List Int).map g:=List.map_congr_left fun t ht=>h t (by simp at ht;unfold isT;omega)
 rw[e]
theorem Fin.free(f:Fin w){h:Int}(hh:isH h):Dx.free (ax (houseAt w h) true)+fR (vw w).F h=(houseAt w h).room:=by
 have hho:=(f.ok.houseAt hh).2.1
 have hs:=hho.stOk true
 have hr:=hho.room true
 unfold Dx.free
 rw[hr,had6 hs.len,sum6 (vw w).F (f.ok.dk.trOk true).len,map6 (f:=fun t=>had (hAt (ax (houseAt w h) true).hs t)) (g:=fun t=>if(tAt (vw w).F t).s=4 then mAt (tAt (vw w).F t).m h else 0)]
 ·omega
 ·intro t ht
  have e:hAt (ax (houseAt w h) true).hs t=(vw w).hA h t:=f.hF hh t
  rw[e]
  unfold had
  rcases f.hold hh ht with ⟨h1,h2,h3⟩|⟨h1,h2,h3⟩|⟨h1,h2⟩
  ·rw[if_neg (by omega)]
   split
   ·rename_i h4
    rcases h3 with h3|h3
    ·unfold V.sF at h3;omega
    ·exact h3.symm
   ·rfl
  ·have h2':(tAt (vw w).F t).s=4:=h2
   rw[if_pos (.inr h1),if_pos h2',h3];rfl
  ·rw[if_neg (by omega),if_neg (by unfold V.sF at h2;omega)]
end Dx
namespace Dx
variable {w:Wd}
theorem xQ{i j:Nat}{l:List House}{x:House}(h:j≠i):(l.set i x)[j]?=l[j]?:=by rw[List.getElem?_set_ne (fun e=>h e.symm)]
structure Kp (a b:Log):Prop where
 f:a.f<=b.f
 t:b.rs.take a.f.toNat=a.rs.take a.f.toNat
theorem Kp.rfl'(a:Log):Kp a a:=⟨Int.le_refl _,rfl⟩
theorem Kp.add{l:Log}(h:LgOk l)(r:Rec):Kp l (cL l r):=by
 unfold cL
 split
 ·exact Kp.rfl' l
 ·have h1:=h.hi
  have h2:=h.lo
  exact⟨Int.le_refl _,by show (l.rs++[r]).take _=_;rw[List.take_append_of_le_length (by omega)]⟩
theorem Kp.force{l:Log}(h:LgOk l):Kp l (eM l):=⟨h.hi,rfl⟩
theorem Kp.fall{l:Log}(h:LgOk l)(keep:Int):Kp l (iP l keep):=by
 have hk:=h.keep keep
 have h0:=h.lo
 exact⟨hk.1,by show (l.rs.take (iO l keep).toNat).take _=_;rw[List.take_take,Nat.min_eq_left (by omega)]⟩
theorem Kp.write{d:Desk}(h:LgOk d.lg)(r:Rec):Kp d.lg (aQ d r).lg:=by
 unfold aQ;split
 ·exact Kp.add h r
 ·exact Kp.rfl' _
theorem Kp.dhear{d:Desk}(h:LgOk d.lg)(x:Word):Kp d.lg (dhear d x).lg:=by
 unfold Dx.dhear;split
 ·unfold aF
  have e:=(fq d x).2
  split
  ·rw[<-e];exact Kp.write (by rw[e];exact h) _
  ·rw[e];exact Kp.rfl' _
 ·exact Kp.rfl' _
theorem Kp.hhear{h:House}(ho:LgOk h.lg)(x:Word):Kp h.lg (hhear h x).1.lg:=by
 unfold Dx.hhear;split
 ·exact Kp.rfl' _
 ·split
  ·exact Kp.add ho _
  ·split<;>exact Kp.rfl' _
structure KpW (a b:Wd):Prop where
 dk:Kp a.dk.lg b.dk.lg
 hs:∀(i:Nat) (x:House),a.hs[i]?=some x->∃ y,b.hs[i]?=some y/\Kp x.lg y.lg
theorem KpW.same{a b:Wd}(h1:b.dk.lg=a.dk.lg)(h2:b.hs=a.hs):KpW a b:=⟨by rw[h1];exact Kp.rfl' _,fun i x h=>⟨x,by rw[h2];exact h,Kp.rfl' _⟩⟩
theorem KpW.desk{d:Desk}(h:Kp w.dk.lg d.lg):KpW w {w with dk:=d}:=⟨h,fun _ x h=>⟨x,h,Kp.rfl' _⟩⟩
theorem KpW.set{i:Int}{y:House}(h:Kp (houseAt w i).lg y.lg):KpW w (setHouse w i y):=by
 refine⟨Kp.rfl' _,fun j x hx=>?_⟩
 by_cases e:j=(i-1).toNat
 ·subst e
  have hl:=(List.getElem?_eq_some_iff.1 hx).1
  refine⟨y,by unfold setHouse;simp only;rw[List.getElem?_set_self hl],?_⟩
  have:houseAt w i=x:=by unfold houseAt;rw[hx];rfl
  rwa [this]at h
 ·exact⟨x,by unfold setHouse;simp only;rw[xQ e];exact hx,Kp.rfl' _⟩
theorem KpW.put(x:Word):KpW w (fM w x):=by unfold fM;split<;>exact KpW.same rfl rfl
theorem KpW.hear(ho:WOk w){x:Word}(hx:WdOk x):KpW w (aM w x).1:=by
 unfold aM;split
 ·exact KpW.desk (Kp.dhear ho.dk.lg x)
 ·exact KpW.set (Kp.hhear (ho.houseAt hx.h).2.1.lg x)
theorem KpW.trans{a b c:Wd}(h1:KpW a b)(hc:c.dk.lg=b.dk.lg/\c.hs=b.hs):KpW a c:=⟨by rw[hc.1];exact h1.dk,fun i x hx=>by
 obtain⟨y,h3,h4⟩:=h1.hs i x hx
 exact⟨y,by rw[hc.2];exact h3,h4⟩⟩
theorem Co(w:Wd)(x:Word):(fM w x).dk.lg=w.dk.lg/\(fM w x).hs=w.hs:=by unfold fM;split<;>exact⟨rfl,rfl⟩
theorem Ja(ho:WOk w)(e:Ev):KpW w (wdo w e):=by
 unfold wdo
 split
 ·unfold iQ
  split
  ·unfold dx;split
   ·exact KpW.desk (Kp.write ho.dk.lg _)
   ·exact KpW.same rfl rfl
  ·split
   ·unfold mu;split
    ·exact KpW.desk (Kp.write ho.dk.lg _)
    ·exact KpW.same rfl rfl
   ·split
    ·split
     ·exact KpW.put _
     ·exact KpW.same rfl rfl
    ·exact KpW.same rfl rfl
 ·split
  ·unfold jS
   split
   ·exact KpW.same rfl rfl
   ·rename_i x hx
    have hx:WdOk x:=by
     split at hx
     ·exact ho.ns x (List.mem_of_getElem? hx)
     ·cases hx
    split
    ·exact KpW.same rfl rfl
    ·split
     ·exact KpW.put _
     ·have k0:=KpW.hear (ho.take e.a) hx
      have k:KpW w (aM (dV w e.a) x).1:=⟨k0.dk,k0.hs⟩
      cases (aM (dV w e.a) x).2 with
      | none=>exact k
      | some y=>exact k.trans (Co _ y)
  ·split
   ·unfold cP
    split
    case isFalse=>exact KpW.same rfl rfl
    rename_i ha
    have ha:=in_iff.1 ha
    split
    ·unfold dy
     split
     ·refine KpW.desk ?_
      unfold bv;split
      ·exact Kp.force ho.dk.lg
      ·exact Kp.rfl' _
     ·split
      ·rename_i hi
       refine KpW.set ?_
       unfold bQ;split
       ·exact Kp.force (ho.houseAt (in_iff.1 hi)).2.1.lg
       ·exact Kp.rfl' _
      ·exact KpW.same rfl rfl
    ·split
     ·split
      ·exact KpW.desk (Kp.fall ho.dk.lg _)
      ·exact KpW.set (Kp.fall (ho.houseAt ⟨by omega,by omega⟩).2.1.lg _)
     ·split
      ·split
       ·exact KpW.same rfl rfl
       ·exact KpW.set (Kp.rfl' _)
      ·exact KpW.same rfl rfl
   ·exact KpW.same rfl rfl
theorem Cp{e:Ev}(hk:e.k=3)(h:e.a<0\/e.a>=(aN w.dk).length\/w.ns.length=14):wdo w e=w:=by
 unfold wdo
 rw[if_pos (by omega)]
 unfold iQ
 rw[if_neg (by omega),if_neg (by omega),if_pos hk]
 split
 ·rename_i x hx
  split at hx
  ·have:=(List.getElem?_eq_some_iff.1 hx).1
   unfold fM
   rw[if_neg (by omega)]
  ·cases hx
 ·rfl
theorem Ff{e:Ev}(hk:e.k=3)(h0:0<=e.a)(hl:e.a<(aN w.dk).length)(hn:w.ns.length<=14)(h14:w.ns.length≠14):∃ x,(aN w.dk)[e.a.toNat]?=some x/\wdo w e={w with ns:=w.ns++[x]}:=by
 have hx:(aN w.dk)[e.a.toNat]?=some ((aN w.dk)[e.a.toNat]'(by omega)):=List.getElem?_eq_getElem (by omega)
 refine⟨_,hx,?_⟩
 unfold wdo
 rw[if_pos (by omega)]
 unfold iQ
 rw[if_neg (by omega),if_neg (by omega),if_pos hk,if_pos h0,hx]
 show fM w _=_
 unfold fM
 rw[if_pos (by omega)]
theorem vg{m:List Int}(h:w.dk.up=false\/(af w.dk false).length=6\/w.dk.lg.rs.length=40):wdo w ⟨1,0,0,m⟩=w:=by
 show ({w with dk:=dx w.dk m}:Wd)=w
 have:dx w.dk m=w.dk:=by
  unfold dx
  split
  ·rename_i hr
   rcases h with h|h|h
   ·unfold aQ;rw[h];rfl
   ·have ht:=(cd hr).2
    unfold aV at ht
    simp only at ht
    omega
   ·unfold aQ
    split
    ·unfold cL
     rw[if_pos (by omega)]
    ·rfl
  ·rfl
 rw[this]
theorem Bi(ho:WOk w){m:List Int}(hm:bV m=true)(hu:w.dk.up=true)(h6:(af w.dk false).length≠6):∃ d:Desk,wdo w ⟨1,0,0,m⟩={w with dk:=d}/\DkOk d/\af d false=af w.dk false++[⟨m,1⟩]:=by
 have hl:=(ho.dk.trOk false).len
 have hr:aA (aV w.dk m)=true:=by
  unfold aA aV
  have:in_ (((af w.dk false).length:Int)+1) 1 6=true:=in_iff.2 (by omega)
  simp[hm,this]
 have ht:bW (af w.dk false) (aV w.dk m)=true:=by unfold bW aV;simp
 refine⟨dx w.dk m,rfl,ho.dk.begin m,?_⟩
 unfold dx
 rw[if_pos hr,(dt ho.dk hr ⟨hu,ht⟩).2.2]
 unfold ch aV
 simp
end Dx
namespace Dx
variable {w:Wd}
theorem pH{d:Desk}(h:DkOk d){t:Int}(ht:isT t):aF (aF d t) t=aF d t:=by
 by_cases hk:bC d t>0
 ·have e1:aF d t=aQ d ⟨bC d t,t,[]⟩:=by unfold aF;rw[if_pos hk]
  by_cases c:d.up=true/\bW (af d false) ⟨bC d t,t,[]⟩=true
  ·have hr:=eQ ht hk
   obtain⟨w1,w2,w3⟩:=dt h hr c
   have hat:=ff hr c.2 ht.1
   simp only[if_pos]at hat
   have was:=gj hr c.2
   have hn4:=lh d t
   have pre:=zA h
   simp only at was hat
   rw[<-e1]at w2 w3
   have hs:(tAt (af (aF d t) false) t).s=4\/(tAt (af (aF d t) false) t).s=5\/(((tAt (af (aF d t) false) t).s=2\/(tAt (af (aF d t) false) t).s=3)/\ib (aF d t) t=false):=by
    rw[w3,hat]
    have hsure:(tAt (af d false) t).s=1->∀ z:Int,z≠1->(decide (t<=(af d true).length) && (tAt (af d true) t).s==z)=false:=by
     intro h1 z hz
     by_cases hl:t<=((af d true).length:Int)
     ·have:=(pre.le t ht.1 hl).2
      have h2:((tAt (af d true) t).s==z)=false:=by
       rw[beq_eq_false_iff_ne];omega
      rw[h2,Bool.and_false]
     ·rw[decide_eq_false hl,Bool.false_and]
    rcases was with ⟨hw,_⟩|⟨_,hl,hw⟩
    ·exact absurd hw hn4
    ·rcases hw with ⟨hw,h1⟩|⟨hw,h1⟩
     ·right;right
      unfold ib
      rw[w2,w3,hat]
      rcases hw with hw|hw
      ·rw[if_neg (by omega),if_pos hw]
       exact⟨.inl rfl,hsure h1 2 (by omega)⟩
      ·rw[if_neg (by omega),if_neg (by omega),if_pos hw]
       exact⟨.inr rfl,hsure h1 3 (by omega)⟩
     ·rw[if_neg (by omega),if_neg (by omega),if_neg (by omega)]
      simp only
      omega
   have hk0:¬ (bC (aF d t) t>0):=by
    unfold bC
    dsimp only
    rw[if_neg (by omega),if_neg (by omega),if_neg,if_neg]
    ·decide
    ·rintro⟨h1,h2,_⟩
     rcases hs with hs|hs|⟨_,hs⟩
     ·omega
     ·omega
     ·rw[hs]at h2;cases h2
    ·rintro⟨h1,h2,_⟩
     rcases hs with hs|hs|⟨_,hs⟩
     ·omega
     ·omega
     ·rw[hs]at h2;cases h2
   generalize aF d t=d1 at hk0
   unfold aF;rw[if_neg hk0]
  ·have:aF d t=d:=by rw[e1,iT c]
   rw[this,this]
 ·have:aF d t=d:=by unfold aF;rw[if_neg hk]
  rw[this,this]
theorem lM{d:Desk}(h:DkOk d)(x:Word):dhear (dhear d x) x=dhear d x:=by
 by_cases hc:bd d x=true
 ·have e1:dhear d x=aF (aZ d x) x.t:=by unfold dhear;rw[if_pos hc]
  have hd1:=h.tell hc
  have hA:=(Ad h x).2
  have hup:=(h.hear x).2.1
  have hm:=ny hc
  have hc':=hc
  simp only[bd,Bool.and_eq_true,decide_eq_true_eq,wordOk_iff]at hc'
  have hc1:bd (dhear d x) x=true:=by
   simp only[bd,Bool.and_eq_true,decide_eq_true_eq,wordOk_iff]
   rw[hup,hA];exact hc'
  have et:aZ (dhear d x) x=dhear d x:=by
   unfold aZ
   rw[if_pos (by simpa using hm)]
  have e2:dhear (dhear d x) x=aF (aZ (dhear d x) x) x.t:=by
   generalize dhear d x=d1 at hc1
   unfold dhear;rw[if_pos hc1]
  rw[e2,et,e1,pH hd1 hc'.2.1.t]
 ·have:dhear d x=d:=by unfold dhear;rw[if_neg hc]
  rw[this,this]
theorem Bj{s:Stock}(hs:StOk s){x:Word}(hx:WdOk x)(hk:x.k<=3)(hm:may s (bf x)=true):may (act s (bf x)) (bf x)=false:=by
 have hr:=b8 hx
 have hat:=tX hs.len hr hx.t.1
 rw[nj,if_pos rfl]at hat
 have hk1:=hx.k.1
 unfold may dW at hm ⊢
 rw[nj]at hm ⊢
 rw[hat]
 unfold bf io at *
 rcases (show x.k=1\/x.k=2\/x.k=3 by omega)with h|h|h
 ·simp[h]
 ·simp[h]
 ·simp[h]
theorem uJ{h:House}(ho:HsOk h){x:Word}(hx:WdOk x):(hhear (hhear h x).1 x).1=(hhear h x).1:=by
 by_cases c0:(!h.up || !bg x || x.h != h.id || decide (x.k>3))=true
 ·have:(hhear h x).1=h:=by unfold hhear;rw[if_pos c0]
  rw[this,this]
 by_cases hm:may (ax h false) (bf x)=true
 ·have e1:(hhear h x).1={h with lg:=cL h.lg (bf x)}:=by unfold hhear;rw[if_neg c0,if_pos hm]
  have hk:x.k<=3:=by
   simp only[Bool.or_eq_true,decide_eq_true_eq,not_or]at c0
   omega
  have hm2:=Bj (ho.stOk false) hx hk hm
  rw[<-(iC ho (b8 hx) hm).2]at hm2
  rw[e1]
  generalize ({h with lg:=cL h.lg (bf x)}:House)=h1 at hm2
  unfold hhear
  split
  ·rfl
  ·rw[if_neg (by rw[hm2];simp)]
   split<;>rfl
 ·have:(hhear h x).1=h:=by
   unfold hhear;rw[if_neg c0,if_neg hm]
   split<;>rfl
  rw[this,this]
theorem uK(ho:WOk w){x:Word}(hx:WdOk x):(aM (aM w x).1 x).1.dk=(aM w x).1.dk/\(aM (aM w x).1 x).1.hs=(aM w x).1.hs:=by
 by_cases hk:x.k>=4
 ·rw[fZ hk,fZ hk]
  exact⟨lM ho.dk x,rfl⟩
 ·rw[f0 hk,f0 hk]
  have hi:isH x.h:=hx.h
  obtain⟨g1,g2,g3⟩:=ho.houseAt hi
  refine⟨rfl,?_⟩
  dsimp only
  rw[lI ho hi hi,if_pos rfl,uJ g2 hx]
  unfold setHouse
  simp only[List.set_set]
theorem EH{i:Nat}{x:Word}(h:w.ns[i]?=some x):wdo w ⟨4,(i:Int),0,[]⟩=qS (aM (dV w i) x).1 (aM (dV w i) x).2:=by
 show jS w ⟨4,(i:Int),0,[]⟩=_
 unfold jS
 have:(if(0:Int)<=(i:Int) then w.ns[(i:Int).toNat]? else none)=some x:=by rw[if_pos (by omega),Int.toNat_natCast,h]
 simp only[this]
 rfl
theorem again{i:Nat}{x:Word}(h:w.ns[i]?=some x)(hn:w.ns.length<14):wdo w ⟨6,(i:Int),0,[]⟩={w with ns:=w.ns++[x]}:=by
 show jS w ⟨6,(i:Int),0,[]⟩=_
 unfold jS
 have:(if(0:Int)<=(i:Int) then w.ns[(i:Int).toNat]? else none)=some x:=by rw[if_pos (by omega),Int.toNat_natCast,h]
 simp only[this]
 show fM w x=_
 unfold fM;rw[if_pos hn]
theorem lk(w:Wd)(o:Option Word):(qS w o).dk=w.dk/\(qS w o).hs=w.hs:=by
 cases o with
 | none=>exact⟨rfl,rfl⟩
 | some y =>
  show (fM w y).dk=w.dk/\(fM w y).hs=w.hs
  unfold fM;split<;>exact⟨rfl,rfl⟩
theorem xR(ho:WOk w){k:Nat}(hk:k<w.ns.length)(hn:w.ns.length<14) :
  (wdo (wdo (wdo w ⟨6,(k:Int),0,[]⟩) ⟨4,(k:Int),0,[]⟩) ⟨4,((w.ns.length-1:Nat):Int),0,[]⟩).dk=(wdo w ⟨4,(k:Int),0,[]⟩).dk ∧
  (wdo (wdo (wdo w ⟨6,(k:Int),0,[]⟩) ⟨4,(k:Int),0,[]⟩) ⟨4,((w.ns.length-1:Nat):Int),0,[]⟩).hs=(wdo w ⟨4,(k:Int),0,[]⟩).hs:=by
 obtain⟨x,hx⟩:∃ x,w.ns[k]?=some x:=⟨_,List.getElem?_eq_getElem hk⟩
 have hxo:=ho.ns x (List.mem_of_getElem? hx)
 have once:=EH hx
 have hw0:aM (dV w k) x=({(aM w x).1 with ns:=w.ns.eraseIdx k},(aM w x).2):=oU w (w.ns.eraseIdx k) x
 rw[hw0]at once
 have o2:=lk ({(aM w x).1 with ns:=w.ns.eraseIdx k}:Wd) (aM w x).2
 rw[<-once]at o2
 rw[again hx hn]
 have hx1:({w with ns:=w.ns++[x]}:Wd).ns[k]?=some x:=by
  show (w.ns++[x])[k]?=some x
  rw[List.getElem?_append_left hk];exact hx
 rw[EH hx1]
 have hw1:aM (dV {w with ns:=w.ns++[x]} k) x=({(aM w x).1 with ns:=w.ns.eraseIdx k++[x]},(aM w x).2):=by
  have e:dV {w with ns:=w.ns++[x]} k={w with ns:=w.ns.eraseIdx k++[x]}:=by
   unfold dV
   simp only[Int.toNat_natCast]
   rw[List.eraseIdx_append_of_lt_length hk]
  rw[e];exact oU w _ x
 rw[hw1]
 have hle:(w.ns.eraseIdx k).length=w.ns.length-1:=List.length_eraseIdx_of_lt hk
 generalize hv:qS ({(aM w x).1 with ns:=w.ns.eraseIdx k++[x]}:Wd) (aM w x).2=v
 have v2:=lk ({(aM w x).1 with ns:=w.ns.eraseIdx k++[x]}:Wd) (aM w x).2
 rw[hv]at v2
 have hxv:v.ns[w.ns.length-1]?=some x:=by
  rw[<-hv]
  cases (aM w x).2 with
  | none =>
   show (w.ns.eraseIdx k++[x])[w.ns.length-1]?=some x
   rw[List.getElem?_append_right (by omega),hle,Nat.sub_self];rfl
  | some y =>
   show (fM _ y).ns[w.ns.length-1]?=some x
   unfold fM
   split
   ·show ((w.ns.eraseIdx k++[x])++[y])[w.ns.length-1]?=some x
    rw[List.getElem?_append_left (by simp only[List.length_append,hle,List.length_cons,List.length_nil];omega),List.getElem?_append_right (by omega),hle,Nat.sub_self];rfl
   ·show (w.ns.eraseIdx k++[x])[w.ns.length-1]?=some x
    rw[List.getElem?_append_right (by omega),hle,Nat.sub_self];rfl
 rw[EH hxv]
 have hvv:dV v ((w.ns.length-1:Nat):Int)={(aM w x).1 with ns:=v.ns.eraseIdx (w.ns.length-1)}:=by
  obtain⟨vd,vh,vn⟩:=v
  obtain⟨h1,h2⟩:=v2
  simp only at h1 h2
  subst h1;subst h2
  rfl
 rw[hvv,oU]
 have fin:=lk ({(aM (aM w x).1 x).1 with ns:=v.ns.eraseIdx (w.ns.length-1)}:Wd) (aM (aM w x).1 x).2
 have tw:=uK ho hxo
 exact⟨fin.1.trans (tw.1.trans o2.1.symm),fin.2.trans (tw.2.trans o2.2.symm)⟩
end Dx
namespace Dx
open Go
theorem Bl(d:Desk)(r:Rec):∃ l,(aQ d r).lg.rs=d.lg.rs++l/\l.length<=1:=by
 unfold aQ cL
 split
 ·split
  ·exact⟨[],by simp,by simp⟩
  ·exact⟨[r],rfl,by simp⟩
 ·exact⟨[],by simp,by simp⟩
theorem nC(d:Desk)(t:Int):(∃ l,(aF d t).lg.rs=d.lg.rs++l/\l.length<=1)/\(aF d t).lg.f=d.lg.f/\(aF d t).td=d.td/\(aF d t).up=d.up:=by
 unfold aF
 split
 ·have:=eP d ⟨bC d t,t,[]⟩
  exact⟨Bl d _,this.2.2,this.1,this.2.1⟩
 ·exact⟨⟨[],by simp,by simp⟩,rfl,rfl,rfl⟩
theorem iD(d:Desk)(x:Word):(aZ d x).lg=d.lg/\(aZ d x).up=d.up/\(∃ l,(aZ d x).td=d.td++l/\l.length<=1)/\(aZ d x).td.contains x=true/\∀ z,z≠x->(aZ d x).td.contains z=d.td.contains z:=by
 unfold aZ
 split
 ·rename_i h
  exact⟨rfl,rfl,⟨[],by simp,by simp⟩,h,fun _ _=>rfl⟩
 ·exact⟨rfl,rfl,⟨[x],rfl,by simp⟩,by simp,fun z hz=>by simp[hz]⟩
theorem Cq(d:Desk)(x:Word):(∃ l,(dhear d x).lg.rs=d.lg.rs++l/\l.length<=1)/\(dhear d x).lg.f=d.lg.f/\(∃ l,(dhear d x).td=d.td++l/\l.length<=1)/\(dhear d x).up=d.up:=by
 unfold dhear
 split
 ·obtain⟨⟨l,h1,h2⟩,h3,h4,h5⟩:=nC (aZ d x) x.t
  obtain⟨g1,g2,g3,_⟩:=iD d x
  rw[g1]at h1 h3
  rw[g2]at h5
  rw[h4]
  exact⟨⟨l,h1,h2⟩,h3,g3,h5⟩
 ·exact⟨⟨[],by simp,by simp⟩,rfl,⟨[],by simp,by simp⟩,rfl⟩
theorem xS{d:Desk}{x:Word}(h:bd d x=true):(dhear d x).td.contains x=true:=by
 unfold dhear;rw[if_pos h,(nC _ _).2.2.1];exact(iD d x).2.2.2.1
theorem rj{d:Desk}{x:Word}(h:bd d x=false):dhear d x=d:=by unfold dhear;rw[h];rfl
end Dx
namespace Dx
structure Fresh (y:Desk) (n:Int) (m:List Int):Prop where
 ok:DkOk y
 up:y.up=true
 n1:isT n
 nl:n<=(af y false).length
 x:tAt (af y false) n=⟨m,1⟩
 m3:m.length=3
 no:∀ w∈y.td,w.t≠n
structure Mid (y:Desk) (n:Int) (m:List Int) (S:Int->Prop) (z:Desk):Prop where
 ok:DkOk z
 up:z.up=true
 lg:z.lg=y.lg
 w4:∀ h,isH h->0<mAt m h->((⟨4,h,n,0⟩:Word)∈z.td↔S h)
 w5:∀ h,(⟨5,h,n,0⟩:Word)∉z.td
section
variable {y z:Desk} {n h:Int} {m:List Int} {S:Int->Prop}
theorem Fresh.mid(f:Fresh y n m):Mid y n m (fun _=>False) y :=
 ⟨f.ok,f.up,rfl,fun h _ _=>⟨fun hh=>f.no _ hh rfl,fun e=>e.elim⟩,fun _ hh=>f.no _ hh rfl⟩
theorem nD(hn:isT n)(hu:z.up=true)(hl:n<=(af z false).length){k:Int}(hk:4<=k/\k<=7)(hh:isH h):bd z ⟨k,h,n,0⟩=true:=by
 simp only[bd,bg,Bool.and_eq_true,decide_eq_true_eq,in_iff]
 refine⟨hu,⟨hh,hn,by omega,?_⟩,by omega,hl⟩
 rw[if_neg (by omega)];rfl
theorem rl(ok:DkOk z)(hu:z.up=true)(hn:isT n)(hl:n<=(af z false).length)(h1:(tAt (af z false) n).s=1){k:Int}(hk:bC z n=k)(h56:k=5\/k=6) :
  DkOk (aF z n)/\(tAt (af (aF z n) false) n).s=if k=5 then 2 else 3:=by
 have hk0:bC z n>0:=by omega
 have e1:aF z n=aQ z ⟨bC z n,n,[]⟩:=by unfold aF;rw[if_pos hk0]
 have hr:=eQ hn hk0
 have hm:bW (af z false) ⟨bC z n,n,[]⟩=true:=by
  unfold bW
  simp only
  rw[if_neg (by omega),if_neg (by unfold isT at hn;omega),if_pos (by omega),h1];rfl
 obtain⟨w1,w2,w3⟩:=dt ok hr ⟨hu,hm⟩
 rw[e1]
 refine⟨(ok.write hr).1,?_⟩
 rw[w3,ff hr hm hn.1]
 simp only[if_true]
 rw[if_neg (by omega)]
 rcases h56 with e|e
 ·rw[if_pos (by omega),if_pos e]
 ·rw[if_neg (by omega),if_pos (by omega),if_neg (by omega)]
theorem Mid.step(f:Fresh y n m)(M:Mid y n m S z)(hh:isH h)(hw:0<mAt m h) :
  ((∀ h',isH h'->0<mAt m h'->(S h'\/h'=h))->DkOk (dhear z ⟨4,h,n,0⟩)/\(tAt (af (dhear z ⟨4,h,n,0⟩) false) n).s=2) ∧
  (¬ (∀ h',isH h'->0<mAt m h'->(S h'\/h'=h))->Mid y n m (fun h'=>S h'\/h'=h) (dhear z ⟨4,h,n,0⟩)):=by
 have htr:af z false=af y false:=by unfold af;rw[M.lg]
 have hl:n<=(af z false).length:=by rw[htr];exact f.nl
 have hd:=nD f.n1 M.up hl (k:=4) (by omega) hh
 have ok1:=M.ok.tell hd
 obtain⟨g1,g2,_,g4,g5⟩:=iD z ⟨4,h,n,0⟩
 have e1:dhear z ⟨4,h,n,0⟩=aF (aZ z ⟨4,h,n,0⟩) n:=by unfold dhear;rw[if_pos hd]
 have g4:(⟨4,h,n,0⟩:Word)∈(aZ z ⟨4,h,n,0⟩).td:=by simpa using g4
 have g5:∀ w:Word,w≠⟨4,h,n,0⟩->(w∈(aZ z ⟨4,h,n,0⟩).td↔w∈z.td):=fun w hw=>by
  have:=g5 w hw
  rw[<-List.contains_iff_mem,<-List.contains_iff_mem,this]
 rw[e1]
 generalize aZ z ⟨4,h,n,0⟩=q at *
 have hqt:af q false=af y false:=by unfold af;rw[g1,M.lg]
 have hqx:tAt (af q false) n=⟨m,1⟩:=by rw[hqt];exact f.x
 have q4:∀ h',isH h'->0<mAt m h'->((⟨4,h',n,0⟩:Word)∈q.td↔(S h'\/h'=h)):=by
  intro h' a1 a2
  by_cases e:h'=h
  ·subst e;exact⟨fun _=>.inr rfl,fun _=>g4⟩
  ·rw[g5 _ (fun c=>e (by injection c)),M.w4 h' a1 a2]
   exact⟨.inl,fun c=>c.resolve_right e⟩
 have q5:∀ h',(⟨5,h',n,0⟩:Word)∉q.td:=fun h' c=>M.w5 h' ((g5 _ (fun c=>by injection c with c;omega)).1 c)
 have any5:aP q.td n 5 1 m=false:=by
  rw[Bool.eq_false_iff]
  intro c
  obtain⟨h',_,_,c3⟩:=(iS f.m3).1 c
  exact q5 h' c3
 constructor
 ·intro hall
  have all4:al q.td n 4 1 m=true:=(da f.m3).2 fun h' a1 a2=>(q4 h' a1 a2).2 (hall h' a1 a2)
  have hk:bC q n=5:=by
   unfold bC
   rw[hqx]
   simp only
   rw[any5,all4]
   simp
  have:=rl ok1 (g2.trans M.up) f.n1 (by rw[hqt];exact f.nl) (by rw[hqx]) hk (.inl rfl)
  simpa using this
 ·intro hno
  have all4:al q.td n 4 1 m=false:=by
   rw[Bool.eq_false_iff]
   intro c
   exact hno fun h' a1 a2=>(q4 h' a1 a2).1 ((da f.m3).1 c h' a1 a2)
  have hk:bC q n=0:=by
   unfold bC
   rw[hqx]
   simp only
   rw[any5,all4]
   simp
  have e2:aF q n=q:=by unfold aF;rw[hk];rfl
  rw[e2]
  exact⟨ok1,g2.trans M.up,g1.trans M.lg,q4,q5⟩
theorem Fresh.no_(f:Fresh y n m)(hh:isH h)(hw:0<mAt m h):DkOk (dhear y ⟨5,h,n,0⟩)/\(tAt (af (dhear y ⟨5,h,n,0⟩) false) n).s=3:=by
 have hd:=nD f.n1 f.up f.nl (k:=5) (by omega) hh
 have ok1:=f.ok.tell hd
 obtain⟨g1,g2,_,g4,_⟩:=iD y ⟨5,h,n,0⟩
 have e1:dhear y ⟨5,h,n,0⟩=aF (aZ y ⟨5,h,n,0⟩) n:=by unfold dhear;rw[if_pos hd]
 have g4:(⟨5,h,n,0⟩:Word)∈(aZ y ⟨5,h,n,0⟩).td:=by simpa using g4
 rw[e1]
 generalize aZ y ⟨5,h,n,0⟩=q at *
 have hqt:af q false=af y false:=by unfold af;rw[g1]
 have hqx:tAt (af q false) n=⟨m,1⟩:=by rw[hqt];exact f.x
 have any5:aP q.td n 5 1 m=true:=(iS f.m3).2 ⟨h,hh,hw,g4⟩
 have hk:bC q n=6:=by
  unfold bC
  rw[hqx]
  simp only
  rw[any5]
  simp
 have:=rl ok1 (g2.trans f.up) f.n1 (by rw[hqt];exact f.nl) (by rw[hqx]) hk (.inr rfl)
 simpa using this
end
end Dx
namespace Dx
def Chg(d y:Desk)(t:Int):Prop :=
 (tAt (af y false) t).m=(tAt (af d false) t).m ∧
 ((tAt (af y false) t).s=(tAt (af d false) t).s ∨
  ((tAt (af y false) t).s=2/\(tAt (af d false) t).s=1/\al y.td t 4 1 (tAt (af d false) t).m=true) ∨
  ((tAt (af y false) t).s=3/\(tAt (af d false) t).s=1/\aP y.td t 5 1 (tAt (af d false) t).m=true) ∨
  ((tAt (af y false) t).s=4/\(tAt (af d false) t).s=2/\t<=(af d true).length/\(tAt (af d true) t).s=2/\al y.td t 6 1 (tAt (af d false) t).m=true) ∨
  ((tAt (af y false) t).s=5/\(tAt (af d false) t).s=3/\t<=(af d true).length/\(tAt (af d true) t).s=3/\al y.td t 7 1 (tAt (af d false) t).m=true))
theorem Chg.same{d y:Desk}{t:Int}(h:af y false=af d false):Chg d y t:=by
 unfold Chg;rw[h];exact⟨rfl,.inl rfl⟩
theorem xT{q:Desk}(ok:DkOk q){u:Int}(hu:isT u){t:Int}(ht:1<=t):Chg q (aF q u) t/\(af (aF q u) false).length=(af q false).length:=by
 by_cases hk:bC q u>0
 ·have e1:aF q u=aQ q ⟨bC q u,u,[]⟩:=by unfold aF;rw[if_pos hk]
  by_cases c:q.up=true/\bW (af q false) ⟨bC q u,u,[]⟩=true
  ·have hr:=eQ hu hk
   obtain⟨w1,w2,w3⟩:=dt ok hr c
   have hat:=ff hr c.2 ht
   have hn4:=lh q u
   have hlen:=dY (l:=af q false) ⟨bC q u,u,[]⟩
   have was:=gj hr c.2
   simp only at hat hlen was
   rw[if_neg hn4]at hlen
   rw[<-e1]at w1 w2 w3
   have wtd:(aF q u).td=q.td:=by rw[w1]
   refine⟨?_,by rw[w3];exact hlen⟩
   by_cases e:t=u
   ·subst e
    rw[if_pos rfl,if_neg hn4]at hat
    unfold Chg
    rw[w3,hat,wtd]
    have hd:bC q t=bC q t:=rfl
    conv at hd=>rhs;unfold bC
    dsimp only at hd
    split at hd
    ·rename_i h
     rw[if_neg (by omega),if_pos hd]
     exact⟨rfl,.inr (.inr (.inl ⟨rfl,h.1,h.2⟩))⟩
    ·split at hd
     ·rename_i h
      rw[if_pos hd]
      exact⟨rfl,.inr (.inl ⟨rfl,h.1,h.2⟩)⟩
     ·split at hd
      ·rename_i h
       rw[if_neg (by omega),if_neg (by omega)]
       obtain⟨h1,h2,h3⟩:=h
       simp only[ib,Bool.and_eq_true,decide_eq_true_eq,beq_iff_eq]at h2
       exact⟨rfl,.inr (.inr (.inr (.inl ⟨by simp only;omega,h1,h2.1,by omega,h3⟩)))⟩
      ·split at hd
       ·rename_i h
        rw[if_neg (by omega),if_neg (by omega)]
        obtain⟨h1,h2,h3⟩:=h
        simp only[ib,Bool.and_eq_true,decide_eq_true_eq,beq_iff_eq]at h2
        exact⟨rfl,.inr (.inr (.inr (.inr ⟨by simp only;omega,h1,h2.1,by omega,h3⟩)))⟩
       ·omega
   ·rw[if_neg e]at hat
    unfold Chg
    rw[w3,hat]
    exact⟨rfl,.inl rfl⟩
  ·have e2:aF q u=q:=by rw[e1,iT c]
   rw[e2];exact⟨Chg.same rfl,rfl⟩
 ·have e2:aF q u=q:=by unfold aF;rw[if_neg hk]
  rw[e2];exact⟨Chg.same rfl,rfl⟩
theorem kB{d:Desk}(ok:DkOk d)(x:Word){t:Int}(ht:1<=t):Chg d (dhear d x) t/\(af (dhear d x) false).length=(af d false).length:=by
 by_cases hd:bd d x=true
 ·have ok1:=ok.tell hd
  obtain⟨g1,g2,_⟩:=iD d x
  have e1:dhear d x=aF (aZ d x) x.t:=by unfold dhear;rw[if_pos hd]
  simp only[bd,Bool.and_eq_true,decide_eq_true_eq,wordOk_iff]at hd
  obtain⟨h1,h2⟩:=xT ok1 hd.2.1.t ht
  have a:∀ b,af (aZ d x) b=af d b:=fun b=>by unfold af;rw[g1]
  rw[e1]
  unfold Chg at h1 ⊢
  rw[a,a]at h1
  rw[a]at h2
  exact⟨h1,h2⟩
 ·have e1:dhear d x=d:=rj (by simpa using hd)
  rw[e1];exact⟨Chg.same rfl,rfl⟩
end Dx
