import Derived.KernelRfl
set_option linter.all false
namespace Dx
structure Rec where
 k:Int
 t:Int
 m:List Int
 deriving DecidableEq
structure Log where
 rs:List Rec
 f:Int
 deriving DecidableEq
structure Hold where
 m:Int
 s:Int
 deriving DecidableEq
structure Stock where
 room:Int
 hs:List Hold
 deriving DecidableEq
structure Word where
 k:Int
 h:Int
 t:Int
 m:Int
 deriving DecidableEq
structure House where
 id:Int
 up:Bool
 room:Int
 lg:Log
 deriving DecidableEq
structure Trip where
 m:List Int
 s:Int
 deriving DecidableEq
structure Desk where
 up:Bool
 lg:Log
 td:List Word
 deriving DecidableEq
structure Wd where
 dk:Desk
 hs:List House
 ns:List Word
 deriving DecidableEq
structure Ev where
 k:Int
 a:Int
 b:Int
 m:List Int
 deriving DecidableEq
def in_(n lo hi:Int):Bool:=decide (lo<=n) && decide (n<=hi)
theorem in_iff{n lo hi:Int}:in_ n lo hi=true↔lo<=n/\n<=hi:=by simp[in_]
theorem in_false{n lo hi:Int}:in_ n lo hi=false↔¬ (lo<=n/\n<=hi):=by simp[in_]
def di(m:List Int):Bool:=m.all (fun n=>in_ n 0 3) && (m.length==3 && decide (m.sum>0))
def aH(r:Rec):Bool:=in_ r.t 1 6 && (if r.k=1 then(match r.m with|[n]=>in_ n 1 3|_=>false) else if r.k=4 then di r.m else in_ r.k 2 7 && r.m.isEmpty)
def gD(l:Log):Bool:=l.rs.all aH && (decide (l.rs.length<=40) && in_ l.f 0 l.rs.length)
def dW(l:Log)(r:Rec):Log:=if l.rs.length>=40 then l else⟨l.rs++[r],l.f⟩
def oz(l:Log):Bool:=!decide (l.rs.length>=40)
def gp(l:Log):Log:=⟨l.rs,l.rs.length⟩
def fM(l:Log)(keep:Int):Int:=if keep>0 then l.f+min keep (l.rs.length-l.f) else l.f
def gF(l:Log)(keep:Int):Log:=⟨l.rs.take (fM l keep).toNat,fM l keep⟩
def aW(l:Log)(forced:Bool):List Rec:=if forced then l.rs.take l.f.toNat else l.rs
def bi(h:Hold):Bool:=if h.s=0 then h.m==0 else if h.s=1\/h.s=2 then in_ h.m 1 3 else if h.s=3 then in_ h.m 0 3 else false
def had(h:Hold):Int:=if h.s=1\/h.s=2 then h.m else 0
def free(s:Stock):Int:=s.room-(s.hs.map had).sum
def cq(room:Int):Stock:=⟨room,List.replicate 6 ⟨0,0⟩⟩
def hAt(hs:List Hold)(t:Int):Hold:=(hs[(t-1).toNat]?).getD ⟨0,0⟩
def fv(s:Stock)(t:Int):Int:=(hAt s.hs t).s
def may(s:Stock)(r:Rec):Bool :=
 if r.k=1 then(fv s r.t==0) && decide (r.m.headD 0<=free s)
 else if r.k=2 then fv s r.t==1
 else if r.k=3 then(fv s r.t==1) || (fv s r.t==0)
 else false
def jc(h:Hold)(r:Rec):Hold:=if r.k=1 then⟨r.m.headD 0,1⟩ else if r.k=2 then⟨h.m,2⟩ else if r.k=3 then⟨h.m,3⟩ else h
def act(s:Stock)(r:Rec):Stock:=⟨s.room,s.hs.set (r.t-1).toNat (jc (hAt s.hs r.t) r)⟩
def bX:List Rec->Stock->Option Stock
 | [],s=>some s
 | r::rs,s=>if aH r && may s r then bX rs (act s r) else none
def co(room:Int)(rs:List Rec):Option Stock:=if in_ room 0 9 then bX rs (cq room) else none
def bJ(w:Word):Bool:=in_ w.h 1 3 && (in_ w.t 1 6 && (in_ w.k 1 7 && (if w.k=1 then in_ w.m 1 3 else w.m==0)))
def dQ(h:House):Bool:=in_ h.id 1 3 && (gD h.lg && (co h.room h.lg.rs).isSome)
def al(h:House)(forced:Bool):Stock:=(co h.room (aW h.lg forced)).getD ⟨0,[]⟩
def bE(w:Word):Rec:=if w.k=1 then⟨1,w.t,[w.m]⟩ else if w.k=2 then⟨2,w.t,[]⟩ else⟨3,w.t,[]⟩
def answer(id:Int)(w:Word)(st:Int):Option Word :=
 if w.k=1/\(st=1\/st=2) then some ⟨4,id,w.t,0⟩
 else if w.k=1/\st=3 then some ⟨5,id,w.t,0⟩
 else if w.k=2/\st=2 then some ⟨6,id,w.t,0⟩
 else if w.k=3/\st=3 then some ⟨7,id,w.t,0⟩
 else none
def cu(h:House)(w:Word):House×Option Word :=
 if !h.up || !bJ w || w.h != h.id || decide (w.k>3) then(h,none)
 else if may (al h false) (bE w) then({h with lg:=dW h.lg (bE w)},none)
 else if w.k=1/\fv (al h false) w.t=0 then(h,some ⟨5,h.id,w.t,0⟩)
 else(h,answer h.id w (fv (al h true) w.t))
def bU(h:House):House:=if h.up then {h with lg:=gp h.lg} else h
def hfall(h:House)(keep:Int):House:={h with up:=false,lg:=gF h.lg keep}
def fy(h:House):House:={h with up:=true}
def fE(t:Trip):Bool:=di t.m && in_ t.s 1 5
def eZ(l:List Trip):Bool:=l.all fE && decide (l.length<=6)
def tAt(l:List Trip)(t:Int):Trip:=(l[(t-1).toNat]?).getD ⟨[],0⟩
def cG(l:List Trip)(r:Rec):Bool :=
 if r.k=4 then r.t==(l.length:Int)+1
 else if r.t>l.length then false
 else if r.k=5\/r.k=6 then(tAt l r.t).s==1
 else if r.k=7 then(tAt l r.t).s==2 || (tAt l r.t).s==3
 else false
def cM(l:List Trip)(r:Rec):List Trip :=
 if r.k=4 then l++[⟨r.m,1⟩]
 else if r.k=5 then l.set (r.t-1).toNat ⟨(tAt l r.t).m,2⟩
 else if r.k=6 then l.set (r.t-1).toNat ⟨(tAt l r.t).m,3⟩
 else if r.k=7 then l.set (r.t-1).toNat ⟨(tAt l r.t).m,(tAt l r.t).s+2⟩
 else l
def ch:List Rec->List Trip->Option (List Trip)
 | [],l=>some l
 | r::rs,l=>if aH r && cG l r then ch rs (cM l r) else none
def bc(rs:List Rec):Option (List Trip):=ch rs []
def deskNew:Desk:=⟨true,⟨[],0⟩,[]⟩
def d9(n:Nat):List Word->List Word->Bool
 | _,[]=>true
 | before,w::ws=>bJ w && decide (w.k>=4) && decide (w.t<=n) && !before.contains w && d9 n (before++[w]) ws
def fq(d:Desk):Bool:=gD d.lg && (match bc d.lg.rs with
 | some l=>d9 l.length [] d.td && (d.up || d.td.isEmpty)
 | none=>false)
def aF(l:Log)(forced:Bool):List Trip:=(bc (aW l forced)).getD []
def aj(d:Desk)(forced:Bool):List Trip:=aF d.lg forced
def e9(d:Desk)(r:Rec):Bool:=d.up && (cG (aj d false) r && oz d.lg)
def bh(d:Desk)(r:Rec):Desk:=if d.up && cG (aj d false) r then {d with lg:=dW d.lg r} else d
def aD(td:List Word)(t k:Int):Int->List Int->Bool
 | _,[]=>true
 | h,n::ns=>(!decide (n>0) || td.contains ⟨k,h,t,0⟩) && aD td t k (h+1) ns
def bl(td:List Word)(t k:Int):Int->List Int->Bool
 | _,[]=>false
 | h,n::ns=>(decide (n>0) && td.contains ⟨k,h,t,0⟩) || bl td t k (h+1) ns
def nD(d:Desk)(t:Int):Bool:=decide (t<=(aj d true).length) && (tAt (aj d true) t).s==(tAt (aj d false) t).s
def gG(d:Desk)(t:Int):Int :=
 let x:=tAt (aj d false) t
 if x.s=1/\bl d.td t 5 1 x.m then 6
 else if x.s=1/\aD d.td t 4 1 x.m then 5
 else if x.s=2/\nD d t/\aD d.td t 6 1 x.m then 7
 else if x.s=3/\nD d t/\aD d.td t 7 1 x.m then 7
 else 0
def dA(d:Desk)(t:Int):Desk:=if gG d t>0 then bh d ⟨gG d t,t,[]⟩ else d
def b9(d:Desk)(w:Word):Desk:=if d.td.contains w then d else {d with td:=d.td++[w]}
def c7(d:Desk)(w:Word):Bool:=d.up && (bJ w && (decide (w.k>=4) && decide (w.t<=(aj d false).length)))
def dU(d:Desk)(w:Word):Desk:=if c7 d w then dA (b9 d w) w.t else d
def nE(s:Int):Int:=if s=1 then 4 else if s=2 then 6 else 7
def gq(td:List Word)(s t h n:Int):List Word:=if n=0\/td.contains ⟨nE s,h,t,0⟩ then [] else [⟨s,h,t,if s=1 then n else 0⟩]
def bf(td:List Word)(s t:Int):Int->List Int->List Word
 | _,[]=>[]
 | h,n::ns=>gq td s t h n++bf td s t (h+1) ns
def c8(td:List Word):Int->List Trip->List Word
 | _,[]=>[]
 | t,x::xs=>(if x.s>3 then [] else bf td x.s t 1 x.m)++c8 td (t+1) xs
def aM(d:Desk):List Word:=if d.up then c8 d.td 1 (aj d true) else []
def fN(d:Desk)(m:List Int):Rec:=⟨4,(aj d false).length+1,m⟩
def gT(d:Desk)(m:List Int):Desk:=if aH (fN d m) then bh d (fN d m) else d
def ln(d:Desk)(t:Int):Desk:=if in_ t 1 6 then bh d ⟨6,t,[]⟩ else d
def bq(d:Desk):Desk:=if d.up then {d with lg:=gp d.lg} else d
def dfall(d:Desk)(keep:Int):Desk:=⟨false,gF d.lg keep,[]⟩
def ev(d:Desk):Desk:={d with up:=true}
def cT(rooms:List Int):List House:=(rooms.zipIdx 1).map fun p=>⟨p.2,true,p.1,⟨[],0⟩⟩
def bb(rooms:List Int):Option Wd:=if rooms.length=3/\rooms.all (fun n=>in_ n 0 9) then some ⟨deskNew,cT rooms,[]⟩ else none
def jG(w:Wd):Bool:=fq w.dk && (w.hs.length==3 && (decide (w.ns.length<=14) && (w.hs.all dQ && ((w.hs.zipIdx 1).all (fun p=>p.1.id==(p.2:Int)) && w.ns.all bJ))))
def oA(w:Wd)(x:Word):Wd:=if w.ns.length<14 then {w with ns:=w.ns++[x]} else w
def GG(w:Wd):Option Word->Wd
 | some x=>oA w x
 | none=>w
def iO(w:Wd)(i:Int):Wd:={w with ns:=w.ns.eraseIdx i.toNat}
def houseAt(w:Wd)(i:Int):House:=(w.hs[(i-1).toNat]?).getD ⟨0,false,0,⟨[],0⟩⟩
def setHouse(w:Wd)(i:Int)(h:House):Wd:={w with hs:=w.hs.set (i-1).toNat h}
def bp(w:Wd)(x:Word):Wd×Option Word :=
 if x.k>=4 then({w with dk:=dU w.dk x},none)
 else(setHouse w x.h (cu (houseAt w x.h) x).1,(cu (houseAt w x.h) x).2)
def nY(w:Wd)(e:Ev):Wd:=match if 0<=e.a then w.ns[e.a.toNat]? else none with
 | none=>w
 | some x=>if e.k=5 then iO w e.a else if e.k=6 then oA w x else GG (bp (iO w e.a) x).1 (bp (iO w e.a) x).2
def jZ(w:Wd)(e:Ev):Wd :=
 if e.k=1 then {w with dk:=gT w.dk e.m}
 else if e.k=2 then {w with dk:=ln w.dk e.a}
 else if e.k=3 then(match if 0<=e.a then(aM w.dk)[e.a.toNat]? else none with
  | some x=>oA w x
  | none=>w)
 else w
def cO(w:Wd)(i:Int):Wd:=if i=0 then {w with dk:=bq w.dk} else if in_ i 1 3 then setHouse w i (bU (houseAt w i)) else w
def cF(w:Wd)(e:Ev):Wd :=
 if in_ e.a 0 3 then
  if e.k=7 then cO w e.a
  else if e.k=8 then(if e.a=0 then {w with dk:=dfall w.dk e.b} else setHouse w e.a (hfall (houseAt w e.a) e.b))
  else if e.k=9 then(if e.a=0 then {w with dk:=ev w.dk} else setHouse w e.a (fy (houseAt w e.a)))
  else w
 else w
def wdo(w:Wd)(e:Ev):Wd :=
 if e.k=1\/e.k=2\/e.k=3 then jZ w e
 else if e.k=4\/e.k=5\/e.k=6 then nY w e
 else if e.k=7\/e.k=8\/e.k=9 then cF w e
 else w
def qK(w:Wd):List Ev->Wd
 | []=>w
 | e::es=>qK (wdo w e) es
def bj(w:Wd)(x:Word):Wd:=match (bp w x).2 with
 | some y=>(bp (bp w x).1 y).1
 | none=>(bp w x).1
def cE(w:Wd):List Word->Wd
 | []=>w
 | x::xs=>cE (bj w x) xs
def cN(w:Wd):Wd:=⟨ev w.dk,w.hs.map fy,w.ns⟩
def aX(w:Wd):Wd:=⟨bq w.dk,w.hs.map bU,w.ns⟩
def aY(w:Wd):Wd:=aX (cE {cN w with ns:=[]} (w.ns++aM (ev w.dk)))
def cH(w:Wd):Nat->Wd
 | 0=>w
 | n+1=>cH (aY w) n
end Dx
namespace Dx
structure StOk (s:Stock):Prop where
 len:s.hs.length=6
 hold:∀ h∈s.hs,bi h=true
 room:0<=s.room/\s.room<=9
 free:0<=free s
theorem cS{r:Rec}(h:aH r=true):1<=r.t/\r.t<=6:=by
 simp only[aH,Bool.and_eq_true,in_iff]at h;exact h.1
theorem G2{r:Rec}(h:aH r=true):1<=r.k/\r.k<=7:=by
 simp only[aH,Bool.and_eq_true]at h
 have h:=h.2
 split at h
 ·omega
 ·split at h
  ·omega
  ·simp only[Bool.and_eq_true,in_iff]at h;omega
theorem ez{r:Rec}(h:aH r=true)(hk:r.k=1):∃ n,r.m=[n]/\1<=n/\n<=3:=by
 simp only[aH,Bool.and_eq_true,hk,if_true]at h
 have h:=h.2
 split at h
 ·rename_i n he;exact⟨n,he,in_iff.1 h⟩
 ·cases h
theorem iZ{r:Rec}(h:aH r=true)(hk:r.k=4):di r.m=true:=by
 simp only[aH,Bool.and_eq_true,hk]at h
 simpa using h.2
theorem wa{r:Rec}(h:aH r=true)(h1:r.k≠1)(h4:r.k≠4):r.m=[]:=by
 simp only[aH,Bool.and_eq_true,h1,h4,if_false]at h
 simpa using h.2.2
theorem bP{m:List Int}(h:di m=true):m.length=3:=by
 simp only[di,Bool.and_eq_true,beq_iff_eq]at h;exact h.2.1
theorem ip{m:List Int}(h:di m=true){n:Int}(hn:n∈m):0<=n/\n<=3:=by
 simp only[di,Bool.and_eq_true,List.all_eq_true]at h
 exact in_iff.1 (h.1 n hn)
theorem fO{r:Rec}(h:aH r=true):r.m.length<=3:=by
 by_cases h1:r.k=1
 ·obtain⟨n,e,_⟩:=ez h h1;simp[e]
 ·by_cases h4:r.k=4
  ·have:=bP (iZ h h4);omega
  ·simp[wa h h1 h4]
theorem G3{l:List Hold}{i:Nat}{a:Hold}(f:Hold->Int)(hi:i<l.length):((l.set i a).map f).sum=(l.map f).sum-f l[i]+f a:=by
 induction l generalizing i with
 | nil=>simp at hi
 | cons x xs ih=>cases i with
  | zero=>simp;omega
  | succ i=>simp only[List.length_cons]at hi;simp only[List.set_cons_succ,List.map_cons,List.sum_cons,List.getElem_cons_succ];rw[ih (by omega)];omega
theorem vr{hs:List Hold}{t:Int}(h:(t-1).toNat<hs.length):hAt hs t=hs[(t-1).toNat]:=by unfold hAt;rw[List.getElem?_eq_getElem h];rfl
theorem tX{hs:List Hold}{t:Int}(h:(t-1).toNat<hs.length):hAt hs t∈hs:=by rw[vr h];exact List.getElem_mem h
theorem G4(s:Stock)(r:Rec):(act s r).hs.length=s.hs.length:=by simp[act]
theorem Ea{s:Stock}{r:Rec}(h:(r.t-1).toNat<s.hs.length):free (act s r)=free s+had (hAt s.hs r.t)-had (jc (hAt s.hs r.t) r):=by
 simp only[free,act]
 rw[G3 had h,vr h];omega
theorem qL{s:Stock}{r:Rec}(hs:StOk s)(hr:aH r=true)(hm:may s r=true):StOk (act s r):=by
 have ht:=cS hr
 have hi:(r.t-1).toNat<s.hs.length:=by rw[hs.len];omega
 have ho:=hs.hold _ (tX hi)
 have hf:=hs.free
 have key:bi (jc (hAt s.hs r.t) r)=true/\had (jc (hAt s.hs r.t) r)<=had (hAt s.hs r.t)+free s:=by
  simp only[may,fv]at hm
  by_cases h1:r.k=1
  ·obtain⟨n,e,hn⟩:=ez hr h1
   simp only[h1,if_true,e,List.headD_cons,Bool.and_eq_true,beq_iff_eq,decide_eq_true_eq]at hm
   simp[jc,h1,e,bi,had,in_iff,hn,hm]
  ·simp only[h1,if_false]at hm
   by_cases h2:r.k=2
   ·simp only[h2,if_true,beq_iff_eq]at hm
    simp only[bi,hm]at ho
    have:(hAt s.hs r.t).m=(hAt s.hs r.t).m:=rfl
    simp[jc,h2,bi,had,hm]at ho ⊢
    exact⟨ho,by omega⟩
   ·simp only[h2,if_false]at hm
    by_cases h3:r.k=3
    ·simp only[h3,if_true,Bool.or_eq_true,beq_iff_eq]at hm
     rcases hm with hm|hm
     ·simp only[bi,hm]at ho
      simp[jc,h3,bi,had,hm,in_iff]at ho ⊢
      omega
     ·simp only[bi,hm]at ho
      simp[jc,h3,bi,had,hm,in_iff]at ho ⊢
      omega
    ·simp[h3]at hm
 refine⟨by rw[G4];exact hs.len,?_,hs.room,?_⟩
 ·intro h hh
  rcases List.mem_or_eq_of_mem_set hh with hh|rfl
  ·exact hs.hold _ hh
  ·exact key.1
 ·rw[Ea hi];omega
theorem fZ{room:Int}(h:0<=room/\room<=9):StOk (cq room):=by
 refine⟨by simp[cq],?_,h,?_⟩
 ·intro x hx;simp[cq,List.mem_replicate]at hx;subst hx;rfl
 ·simp[cq,free,List.replicate,had];exact h.1
theorem hP:∀(a b:List Rec) (s:Stock),bX (a++b) s=(bX a s).bind (bX b)
 | [],b,s=>rfl
 | r::a,b,s=>by
  simp only[List.cons_append,bX]
  split
  ·exact hP a b _
  ·rfl
theorem wG:∀ {rs:List Rec} {s s':Stock},StOk s->bX rs s=some s'->StOk s'
 | [],s,s',h,e=>by simp only[bX,Option.some.injEq]at e;exact e ▸ h
 | r::rs,s,s',h,e=>by
  simp only[bX]at e
  split at e
  ·rename_i hc;simp only[Bool.and_eq_true]at hc;exact wG (qL h hc.1 hc.2) e
  ·cases e
theorem oB:∀ {rs:List Rec} {s s':Stock},bX rs s=some s'->s'.room=s.room
 | [],s,s',e=>by simp only[bX,Option.some.injEq]at e;rw[e]
 | r::rs,s,s',e=>by
  simp only[bX]at e
  split at e
  ·exact(oB e).trans rfl
  ·cases e
theorem zb{rs:List Rec}{s s':Stock}(h:bX rs s=some s')(n:Nat):∃ s1,bX (rs.take n) s=some s1/\bX (rs.drop n) s1=some s':=by
 rw[<-List.take_append_drop n rs,hP]at h
 cases h1:bX (rs.take n) s with
 | none=>rw[h1]at h;cases h
 | some s1=>rw[h1]at h;exact⟨s1,rfl,h⟩
theorem stockOf_some{room:Int}{rs:List Rec}{s:Stock}:co room rs=some s↔(0<=room/\room<=9)/\bX rs (cq room)=some s:=by
 simp only[co]
 split
 ·rename_i h;simp[in_iff.1 h]
 ·rename_i h;simp only[reduceCtorEq,false_iff];intro ⟨h1,_⟩;exact h (in_iff.2 h1)
theorem j8{room:Int}{rs:List Rec}{s:Stock}(h:co room rs=some s):StOk s/\s.room=room:=by
 obtain⟨h1,h2⟩:=stockOf_some.1 h
 exact⟨wG (fZ h1) h2,oB h2⟩
theorem dX{room:Int}{rs:List Rec}{s:Stock}(h:co room rs=some s)(n:Nat):∃ s1,co room (rs.take n)=some s1/\bX (rs.drop n) s1=some s:=by
 obtain⟨h1,h2⟩:=stockOf_some.1 h
 obtain⟨s1,h3,h4⟩:=zb h2 n
 exact⟨s1,stockOf_some.2 ⟨h1,h3⟩,h4⟩
theorem zc{rs:List Rec}{r:Rec}{s s1:Stock}(h:bX rs s=some s1)(hr:aH r=true)(hm:may s1 r=true):bX (rs++[r]) s=some (act s1 r):=by
 rw[hP,h];simp[bX,hr,hm]
theorem kP{room:Int}{rs:List Rec}{r:Rec}{s:Stock}(h:co room rs=some s)(hr:aH r=true)(hm:may s r=true):co room (rs++[r])=some (act s r):=by
 obtain⟨h1,h2⟩:=stockOf_some.1 h
 exact stockOf_some.2 ⟨h1,zc h2 hr hm⟩
structure LgOk (l:Log):Prop where
 ok:∀ r∈l.rs,aH r=true
 len:l.rs.length<=40
 lo:0<=l.f
 hi:l.f<=l.rs.length
theorem logOk_iff{l:Log}:gD l=true↔LgOk l:=by
 simp only[gD,Bool.and_eq_true,List.all_eq_true,decide_eq_true_eq,in_iff]
 exact⟨fun⟨h1,h2,h3,h4⟩=>⟨h1,h2,h3,h4⟩,fun h=>⟨h.ok,h.len,h.lo,h.hi⟩⟩
theorem LgOk.add{l:Log}(h:LgOk l){r:Rec}(hr:aH r=true):LgOk (dW l r):=by
 unfold dW
 split
 ·exact h
 ·rename_i hl
  refine⟨fun x hx=>?_,by simp;omega,h.lo,?_⟩
  ·rcases List.mem_append.1 hx with hx|hx
   ·exact h.ok x hx
   ·simp at hx;exact hx ▸ hr
  ·have:=h.hi;simp;omega
theorem LgOk.force{l:Log}(h:LgOk l):LgOk (gp l):=⟨h.ok,h.len,by simp[gp],by simp[gp]⟩
theorem LgOk.keep{l:Log}(h:LgOk l)(keep:Int):l.f<=fM l keep/\fM l keep<=l.rs.length:=by
 have:=h.hi
 unfold fM
 split<;>omega
theorem LgOk.fall{l:Log}(h:LgOk l)(keep:Int):LgOk (gF l keep):=by
 have hk:=h.keep keep
 have:=h.lo
 refine⟨fun x hx=>h.ok x (List.mem_of_mem_take hx),?_,by simp only[gF];omega,?_⟩
 ·simp only[gF,List.length_take];have:=h.len;omega
 ·simp only[gF,List.length_take];omega
structure HsOk (h:House):Prop where
 id:1<=h.id/\h.id<=3
 lg:LgOk h.lg
 st:∃ s,co h.room h.lg.rs=some s
theorem houseOk_iff{h:House}:dQ h=true↔HsOk h:=by
 simp only[dQ,Bool.and_eq_true,in_iff,logOk_iff,Option.isSome_iff_exists]
 exact⟨fun⟨h1,h2,h3⟩=>⟨h1,h2,h3⟩,fun h=>⟨h.id,h.lg,h.st⟩⟩
theorem HsOk.stock{h:House}(ho:HsOk h)(forced:Bool):co h.room (aW h.lg forced)=some (al h forced):=by
 obtain⟨s,e⟩:=ho.st
 cases forced with
 | false=>simp[al,aW,e]
 | true =>
  obtain⟨s1,e1,_⟩:=dX e h.lg.f.toNat
  simp[al,aW,e1]
theorem HsOk.stOk{h:House}(ho:HsOk h)(forced:Bool):StOk (al h forced):=(j8 (ho.stock forced)).1
theorem HsOk.room{h:House}(ho:HsOk h)(forced:Bool):(al h forced).room=h.room:=(j8 (ho.stock forced)).2
theorem HsOk.write{h:House}(ho:HsOk h){r:Rec}(hr:aH r=true)(hm:may (al h false) r=true):HsOk {h with lg:=dW h.lg r}:=by
 refine⟨ho.id,ho.lg.add hr,?_⟩
 have e:=ho.stock false
 simp only[aW,Bool.false_eq_true,if_false]at e
 unfold dW
 split
 ·exact⟨_,e⟩
 ·exact⟨_,kP e hr hm⟩
theorem HsOk.force{h:House}(ho:HsOk h):HsOk (bU h):=by
 unfold bU
 split
 ·exact⟨ho.id,ho.lg.force,ho.st⟩
 ·exact ho
theorem HsOk.fall{h:House}(ho:HsOk h)(keep:Int):HsOk (hfall h keep):=by
 obtain⟨s,e⟩:=ho.st
 obtain⟨s1,e1,_⟩:=dX e (fM h.lg keep).toNat
 exact⟨ho.id,ho.lg.fall keep,s1,e1⟩
theorem HsOk.rise{h:House}(ho:HsOk h):HsOk (fy h):=⟨ho.id,ho.lg,ho.st⟩
structure WdOk (w:Word):Prop where
 h:1<=w.h/\w.h<=3
 t:1<=w.t/\w.t<=6
 k:1<=w.k/\w.k<=7
 m1:w.k=1->1<=w.m/\w.m<=3
 m0:w.k≠1->w.m=0
theorem wordOk_iff{w:Word}:bJ w=true↔WdOk w:=by
 simp only[bJ,Bool.and_eq_true,in_iff]
 constructor
 ·intro ⟨h1,h2,h3,h4⟩
  refine⟨h1,h2,h3,fun hk=>?_,fun hk=>?_⟩
  ·simp only[hk,if_true,in_iff]at h4;exact h4
  ·simpa [hk] using h4
 ·intro h
  refine⟨h.h,h.t,h.k,?_⟩
  split
  ·rename_i hk;exact in_iff.2 (h.m1 hk)
  ·rename_i hk;simp[h.m0 hk]
theorem cU{w:Word}(h:WdOk w):aH (bE w)=true:=by
 unfold bE aH
 have ht:=in_iff.2 h.t
 split
 ·rename_i hk;simp[ht,in_iff,h.m1 hk]
 ·split<;>simp[in_,h.t]
theorem BC(w:Word):(bE w).t=w.t:=by
 unfold bE
 split
 ·rfl
 ·split<;>rfl
theorem pW(h:House)(w:Word):(cu h w).1.id=h.id/\(cu h w).1.up=h.up/\(cu h w).1.room=h.room:=by
 unfold cu
 split
 ·simp
 ·split
  ·simp
  ·split<;>simp
theorem HsOk.hear{h:House}(ho:HsOk h)(w:Word):HsOk (cu h w).1:=by
 unfold cu
 split
 ·exact ho
 ·rename_i hc
  simp only[Bool.or_eq_true,not_or,Bool.not_eq_true,Bool.not_eq_false',Bool.not_eq_eq_eq_not,Bool.not_true,Bool.not_false]at hc
  split
  ·rename_i hm
   exact ho.write (cU (wordOk_iff.1 (by simpa using hc.1.1.2))) hm
  ·split<;>exact ho
theorem Cz{id:Int}{w x:Word}{st:Int}(hi:1<=id/\id<=3)(hw:1<=w.t/\w.t<=6)(h:answer id w st=some x):WdOk x/\4<=x.k/\x.h=id/\x.t=w.t/\x.m=0:=by
 unfold answer at h
 have key:∀ k:Int,4<=k->k<=7->some (⟨k,id,w.t,0⟩:Word)=some x->WdOk x/\4<=x.k/\x.h=id/\x.t=w.t/\x.m=0:=by
  intro k h1 h2 e
  simp only[Option.some.injEq]at e;subst e
  exact⟨⟨hi,hw,⟨by simp only;omega,h2⟩,fun e=>by simp only at e;omega,fun _=>rfl⟩,h1,rfl,rfl,rfl⟩
 split at h
 ·exact key _ (by omega) (by omega) h
 ·split at h
  ·exact key _ (by omega) (by omega) h
  ·split at h
   ·exact key _ (by omega) (by omega) h
   ·split at h
    ·exact key _ (by omega) (by omega) h
    ·cases h
theorem CA{h:House}(ho:HsOk h){w x:Word}(e:(cu h w).2=some x):WdOk x/\4<=x.k/\x.h=h.id/\x.t=w.t/\x.m=0:=by
 unfold cu at e
 split at e
 ·cases e
 ·rename_i hc
  simp only[Bool.or_eq_true,not_or,Bool.not_eq_true,Bool.not_eq_false',Bool.not_eq_eq_eq_not,Bool.not_true,Bool.not_false]at hc
  have hw:=wordOk_iff.1 (show bJ w=true by simpa using hc.1.1.2)
  split at e
  ·cases e
  ·split at e
   ·simp only[Option.some.injEq]at e;subst e
    exact⟨⟨ho.id,hw.t,by simp,by simp,by simp⟩,by simp,rfl,rfl,rfl⟩
   ·exact Cz ho.id hw.t e
structure TrOk (l:List Trip):Prop where
 ok:∀ t∈l,fE t=true
 len:l.length<=6
theorem tripsOk_iff{l:List Trip}:eZ l=true↔TrOk l:=by
 simp only[eZ,Bool.and_eq_true,List.all_eq_true,decide_eq_true_eq]
 exact⟨fun⟨a,b⟩=>⟨a,b⟩,fun h=>⟨h.ok,h.len⟩⟩
theorem tripOk_iff{t:Trip}:fE t=true↔di t.m=true/\1<=t.s/\t.s<=5:=by simp[fE,in_iff]
theorem vu{l:List Trip}{t:Int}(h:(t-1).toNat<l.length):tAt l t=l[(t-1).toNat]:=by unfold tAt;rw[List.getElem?_eq_getElem h];rfl
theorem gx{l:List Trip}{t:Int}(h:(t-1).toNat<l.length):tAt l t∈l:=by rw[vu h];exact List.getElem_mem h
theorem fU{l:List Trip}(r:Rec):(cM l r).length=if r.k=4 then l.length+1 else l.length:=by
 unfold cM
 split
 ·simp
 ·split
  ·simp
  ·split
   ·simp
   ·split<;>simp
theorem oC{l:List Trip}{r:Rec}(hl:TrOk l)(hr:aH r=true)(hm:cG l r=true):TrOk (cM l r):=by
 have ht:=cS hr
 by_cases h4:r.k=4
 ·simp only[cG,h4,if_true,beq_iff_eq]at hm
  refine⟨fun x hx=>?_,by rw[fU,if_pos h4];omega⟩
  simp only[cM,h4,if_true,List.mem_append,List.mem_singleton]at hx
  rcases hx with hx|rfl
  ·exact hl.ok x hx
  ·exact tripOk_iff.2 ⟨iZ hr h4,by simp,by simp⟩
 ·refine⟨fun x hx=>?_,by rw[fU,if_neg h4];exact hl.len⟩
  simp only[cG,h4,if_false]at hm
  split at hm
  ·cases hm
  rename_i hlt
  have hi:(r.t-1).toNat<l.length:=by omega
  have ho:=tripOk_iff.1 (hl.ok _ (gx hi))
  unfold cM at hx
  simp only[h4,if_false]at hx
  split at hx
  ·rcases List.mem_or_eq_of_mem_set hx with hx|rfl
   ·exact hl.ok x hx
   ·exact tripOk_iff.2 ⟨ho.1,by simp,by simp⟩
  ·split at hx
   ·rcases List.mem_or_eq_of_mem_set hx with hx|rfl
    ·exact hl.ok x hx
    ·exact tripOk_iff.2 ⟨ho.1,by simp,by simp⟩
   ·split at hx
    ·rename_i h5 h6 h7
     rcases List.mem_or_eq_of_mem_set hx with hx|rfl
     ·exact hl.ok x hx
     ·rw[if_neg (by omega),if_pos h7]at hm
      simp only[Bool.or_eq_true,beq_iff_eq]at hm
      exact tripOk_iff.2 ⟨ho.1,by simp only;omega,by simp only;omega⟩
    ·exact hl.ok x hx
theorem hU:∀(a b:List Rec) (l:List Trip),ch (a++b) l=(ch a l).bind (ch b)
 | [],b,l=>rfl
 | r::a,b,l=>by
  simp only[List.cons_append,ch]
  split
  ·exact hU a b _
  ·rfl
theorem pX:∀ {rs:List Rec} {l l':List Trip},TrOk l->ch rs l=some l'->TrOk l'/\l.length<=l'.length
 | [],l,l',h,e=>by simp only[ch,Option.some.injEq]at e;exact e ▸ ⟨h,Nat.le_refl _⟩
 | r::rs,l,l',h,e=>by
  simp only[ch]at e
  split at e
  ·rename_i hc;simp only[Bool.and_eq_true]at hc
   have:=pX (oC h hc.1 hc.2) e
   refine⟨this.1,Nat.le_trans ?_ this.2⟩
   rw[fU];split<;>omega
  ·cases e
theorem zd{rs:List Rec}{l l':List Trip}(h:ch rs l=some l')(n:Nat):∃ l1,ch (rs.take n) l=some l1/\ch (rs.drop n) l1=some l':=by
 rw[<-List.take_append_drop n rs,hU]at h
 cases h1:ch (rs.take n) l with
 | none=>rw[h1]at h;cases h
 | some s1=>rw[h1]at h;exact⟨s1,rfl,h⟩
theorem TrOk.nil:TrOk []:=⟨by simp,by simp⟩
theorem j9{rs:List Rec}{l:List Trip}(h:bc rs=some l):TrOk l:=(pX TrOk.nil h).1
theorem dj{rs:List Rec}{l:List Trip}(h:bc rs=some l)(n:Nat):∃ l1,bc (rs.take n)=some l1/\ch (rs.drop n) l1=some l/\l1.length<=l.length:=by
 obtain⟨l1,h1,h2⟩:=zd h n
 exact⟨l1,h1,h2,(pX (j9 h1) h2).2⟩
theorem kQ{rs:List Rec}{r:Rec}{l:List Trip}(h:bc rs=some l)(hr:aH r=true)(hm:cG l r=true):bc (rs++[r])=some (cM l r):=by
 unfold bc at h ⊢
 rw[hU,h];simp[ch,hr,hm]
theorem ka(n:Nat):∀(ws before:List Word),d9 n before ws=true↔(∀ w∈ws,WdOk w/\4<=w.k/\w.t<=n)/\ws.Nodup/\∀ w∈ws,w∉before
 | [],before=>by simp[d9]
 | w::ws,before=>by
  simp only[d9,Bool.and_eq_true,ka n ws,wordOk_iff,decide_eq_true_eq,Bool.not_eq_true',List.mem_cons,List.nodup_cons,List.mem_append,List.mem_singleton,not_or,forall_eq_or_imp,List.contains_eq_mem,decide_eq_false_iff_not,ge_iff_le]
  constructor
  ·rintro⟨⟨⟨⟨h1,h2⟩,h3⟩,h4⟩,h5,h6,h7⟩
   exact⟨⟨⟨h1,h2,h3⟩,h5⟩,⟨fun hw=>(h7 w hw).2.1 rfl,h6⟩,h4,fun x hx=>(h7 x hx).1⟩
  ·rintro⟨⟨⟨h1,h2,h3⟩,h5⟩,⟨h6,h7⟩,h8,h9⟩
   exact⟨⟨⟨⟨h1,h2⟩,h3⟩,h8⟩,h5,h7,fun x hx=>⟨h9 x hx,fun e=>h6 (e ▸ hx),by simp⟩⟩
structure DkOk (d:Desk):Prop where
 lg:LgOk d.lg
 tr:bc d.lg.rs=some (aj d false)
 td:∀ w∈d.td,WdOk w/\4<=w.k/\w.t<=(aj d false).length
 nd:d.td.Nodup
 up:d.up=true\/d.td=[]
theorem kb{d:Desk}{l:List Trip}(e:bc d.lg.rs=some l):aj d false=l:=by simp[aj,aF,aW,e]
theorem deskOk_iff{d:Desk}:fq d=true↔DkOk d:=by
 simp only[fq,Bool.and_eq_true,logOk_iff]
 constructor
 ·rintro⟨h1,h2⟩
  split at h2
  ·rename_i l e
   have hl:=kb e
   simp only[Bool.and_eq_true,ka,Bool.or_eq_true,List.isEmpty_iff]at h2
   exact⟨h1,by rw[hl];exact e,by rw[hl];exact h2.1.1,h2.1.2.1,h2.2⟩
  ·cases h2
 ·intro h
  refine⟨h.lg,?_⟩
  rw[h.tr]
  simp only[Bool.and_eq_true,ka,Bool.or_eq_true,List.isEmpty_iff]
  exact⟨⟨h.td,h.nd,by simp⟩,h.up⟩
theorem DkOk.trips{d:Desk}(h:DkOk d)(forced:Bool):bc (aW d.lg forced)=some (aj d forced):=by
 cases forced with
 | false=>simpa [aW] using h.tr
 | true =>
  obtain⟨l1,e,_⟩:=dj h.tr d.lg.f.toNat
  simp[aj,aF,aW,e]
theorem DkOk.trOk{d:Desk}(h:DkOk d)(forced:Bool):TrOk (aj d forced):=j9 (h.trips forced)
theorem DkOk.sub{d:Desk}(h:DkOk d):(aj d true).length<=(aj d false).length:=by
 obtain⟨l1,e,_,h3⟩:=dj h.tr d.lg.f.toNat
 have:=h.trips true
 simp only[aW,if_true]at this
 rw[this]at e;simp only[Option.some.injEq]at e;rw[e];exact h3
theorem fF(d:Desk)(r:Rec):(bh d r).td=d.td/\(bh d r).up=d.up/\(bh d r).lg.f=d.lg.f:=by
 unfold bh dW
 split
 ·split<;>exact⟨rfl,rfl,rfl⟩
 ·exact⟨rfl,rfl,rfl⟩
theorem DkOk.write{d:Desk}(h:DkOk d){r:Rec}(hr:aH r=true):DkOk (bh d r)/\(aj d false).length<=(aj (bh d r) false).length:=by
 unfold bh
 split
 case isFalse=>exact⟨h,Nat.le_refl _⟩
 rename_i hc
 simp only[Bool.and_eq_true]at hc
 by_cases hl:d.lg.rs.length>=40
 ·have e:dW d.lg r=d.lg:=by simp[dW,hl]
  rw[e];exact⟨h,Nat.le_refl _⟩
 ·have e:dW d.lg r=⟨d.lg.rs++[r],d.lg.f⟩:=by simp[dW,hl]
  have e2:=kQ h.tr hr hc.2
  have e3:aj {d with lg:=dW d.lg r} false=cM (aj d false) r:=kb (by rw[e];exact e2)
  have hlen:(aj d false).length<=(cM (aj d false) r).length:=by rw[fU];split<;>omega
  refine⟨⟨h.lg.add hr,by rw[e3,e];exact e2,?_,h.nd,h.up⟩,by rw[e3];exact hlen⟩
  intro w hw
  obtain⟨a,b,c⟩:=h.td w hw
  rw[e3];exact⟨a,b,by omega⟩
theorem DkOk.tell{d:Desk}(h:DkOk d){w:Word}(hw:c7 d w=true):DkOk (b9 d w):=by
 simp only[c7,Bool.and_eq_true,decide_eq_true_eq,wordOk_iff]at hw
 unfold b9
 split
 ·exact h
 ·rename_i hc
  refine⟨h.lg,h.tr,fun x hx=>?_,?_,.inl hw.1⟩
  ·rcases List.mem_append.1 hx with hx|hx
   ·exact h.td x hx
   ·simp at hx;subst hx;exact⟨hw.2.1,hw.2.2.1,hw.2.2.2⟩
  ·rw[List.nodup_append]
   refine⟨h.nd,by simp,fun a ha b hb e=>?_⟩
   simp at hb;subst hb;subst e
   simp at hc;exact hc ha
theorem mf{d:Desk}{t:Int}(ht:1<=t/\t<=6)(hk:gG d t>0):aH ⟨gG d t,t,[]⟩=true:=by
 have:gG d t=5\/gG d t=6\/gG d t=7:=by
  revert hk;unfold gG;dsimp only
  split
  ·simp
  ·split
   ·simp
   ·split
    ·simp
    ·split<;>simp
 rcases this with e|e|e<;>rw[e]<;>simp[aH,in_iff,ht]
theorem gU(d:Desk)(w:Word):(b9 d w).up=d.up/\(b9 d w).lg=d.lg:=by unfold b9;split<;>exact⟨rfl,rfl⟩
theorem DkOk.hear{d:Desk}(h:DkOk d)(w:Word):DkOk (dU d w)/\(dU d w).up=d.up/\(aj d false).length<=(aj (dU d w) false).length:=by
 unfold dU
 split
 case isFalse=>exact⟨h,rfl,Nat.le_refl _⟩
 rename_i hc
 have h1:=h.tell hc
 have ht:(aj (b9 d w) false)=aj d false:=by simp[aj,aF,gU]
 unfold dA
 split
 ·rename_i hk
  simp only[c7,Bool.and_eq_true,decide_eq_true_eq,wordOk_iff]at hc
  have:=h1.write (mf hc.2.1.t hk)
  exact⟨this.1,by rw[(fF _ _).2.1,(gU d w).1],by rw[<-ht];exact this.2⟩
 ·exact⟨h1,(gU d w).1,by rw[ht];exact Nat.le_refl _⟩
theorem DkOk.force{d:Desk}(h:DkOk d):DkOk (bq d):=by
 unfold bq
 split
 ·exact⟨h.lg.force,h.tr,h.td,h.nd,h.up⟩
 ·exact h
theorem DkOk.fall{d:Desk}(h:DkOk d)(keep:Int):DkOk (dfall d keep):=by
 obtain⟨l1,e,_,_⟩:=dj h.tr (fM d.lg keep).toNat
 exact⟨h.lg.fall keep,by rw[kb (d:=dfall d keep) e];exact e,by simp[dfall],by simp[dfall],.inr rfl⟩
theorem DkOk.rise{d:Desk}(h:DkOk d):DkOk (ev d):=⟨h.lg,h.tr,h.td,h.nd,.inl rfl⟩
theorem DkOk.begin{d:Desk}(h:DkOk d)(m:List Int):DkOk (gT d m):=by
 unfold gT
 split
 ·rename_i hr;exact(h.write hr).1
 ·exact h
theorem DkOk.give{d:Desk}(h:DkOk d)(t:Int):DkOk (ln d t):=by
 unfold ln
 split
 ·rename_i hr;exact(h.write (by simp[aH,in_iff,in_iff.1 hr])).1
 ·exact h
theorem ze:DkOk deskNew:=⟨⟨by simp[deskNew],by simp[deskNew],by simp[deskNew],by simp[deskNew]⟩,rfl,by simp[deskNew],by simp[deskNew],.inl rfl⟩
structure WOk (w:Wd):Prop where
 dk:DkOk w.dk
 len:w.hs.length=3
 hs:∀(i:Nat) (h:House),w.hs[i]?=some h->HsOk h/\h.id=i+1
 nlen:w.ns.length<=14
 ns:∀ x∈w.ns,WdOk x
theorem worldOk_iff{w:Wd}:jG w=true↔WOk w:=by
 simp only[jG,Bool.and_eq_true,deskOk_iff,beq_iff_eq,decide_eq_true_eq,List.all_eq_true,houseOk_iff,wordOk_iff]
 constructor
 ·rintro⟨h1,h2,h3,h4,h5,h6⟩
  refine⟨h1,h2,fun i h e=>⟨h4 h (List.mem_of_getElem? e),?_⟩,h3,h6⟩
  have:=h5 (h,1+i) (by rw[List.mem_zipIdx_iff_le_and_getElem?_sub];exact⟨by omega,by simpa using e⟩)
  simp only at this;omega
 ·intro h
  refine⟨h.dk,h.len,h.nlen,fun x hx=>?_,fun p hp=>?_,h.ns⟩
  ·obtain⟨i,hi⟩:=List.mem_iff_getElem?.1 hx;exact(h.hs i x hi).1
  ·rw[List.mem_zipIdx_iff_le_and_getElem?_sub]at hp
   have:=(h.hs _ _ hp.2).2;omega
theorem WOk.houseAt{w:Wd}(h:WOk w){i:Int}(hi:1<=i/\i<=3):w.hs[(i-1).toNat]?=some (houseAt w i)/\HsOk (houseAt w i)/\(houseAt w i).id=i:=by
 have hl:(i-1).toNat<w.hs.length:=by rw[h.len];omega
 have e:w.hs[(i-1).toNat]?=some (Dx.houseAt w i):=by unfold Dx.houseAt;rw[List.getElem?_eq_getElem hl];rfl
 have:=h.hs _ _ e
 exact⟨e,this.1,by rw[this.2];omega⟩
theorem WOk.setHouse{w:Wd}(h:WOk w){i:Int}(hi:1<=i/\i<=3){x:House}(hx:HsOk x)(hid:x.id=i):WOk (setHouse w i x):=by
 refine⟨h.dk,by simp[Dx.setHouse,h.len],fun j y e=>?_,h.nlen,h.ns⟩
 simp only[Dx.setHouse,List.getElem?_set]at e
 split at e
 ·rename_i hj
  split at e
  ·simp only[Option.some.injEq]at e;subst e;exact⟨hx,by omega⟩
  ·cases e
 ·exact h.hs j y e
theorem WOk.desk{w:Wd}(h:WOk w){d:Desk}(hd:DkOk d):WOk {w with dk:=d}:=⟨hd,h.len,h.hs,h.nlen,h.ns⟩
theorem WOk.put{w:Wd}(h:WOk w){x:Word}(hx:WdOk x):WOk (oA w x):=by
 unfold oA
 split
 ·refine⟨h.dk,h.len,h.hs,by simp;omega,fun y hy=>?_⟩
  rcases List.mem_append.1 hy with hy|hy
  ·exact h.ns y hy
  ·simp at hy;exact hy ▸ hx
 ·exact h
theorem WOk.take{w:Wd}(h:WOk w)(i:Int):WOk (iO w i):=by
 refine⟨h.dk,h.len,h.hs,?_,fun y hy=>h.ns y (List.mem_of_mem_eraseIdx hy)⟩
 have:=List.length_eraseIdx_le w.ns i.toNat
 have:=h.nlen
 simp only[iO];omega
theorem WOk.hear{w:Wd}(h:WOk w){x:Word}(hx:WdOk x):WOk (bp w x).1/\∀ y,(bp w x).2=some y->WdOk y/\4<=y.k:=by
 unfold bp
 split
 ·exact⟨h.desk (h.dk.hear x).1,by simp⟩
 ·have:=h.houseAt hx.h
  refine⟨h.setHouse hx.h (this.2.1.hear x) (by rw[(pW _ _).1];exact this.2.2),fun y hy=>?_⟩
  have:=CA this.2.1 hy
  exact⟨this.1,this.2.1⟩
theorem WOk.net{w:Wd}(h:WOk w)(e:Ev):WOk (nY w e):=by
 unfold nY
 split
 ·exact h
 ·rename_i x hx
  have hx:WdOk x:=by
   split at hx
   ·exact h.ns x (List.mem_of_getElem? hx)
   ·cases hx
  split
  ·exact h.take _
  ·split
   ·exact h.put hx
   ·have:=(h.take e.a).hear hx
    cases hy:(bp (iO w e.a) x).2 with
    | none=>exact this.1
    | some y=>exact this.1.put (this.2 y hy).1
theorem CB{td:List Word}{s t h n:Int}(ht:1<=t/\t<=6)(hs:1<=s/\s<=3)(hh:1<=h/\h<=3)(hn:0<=n/\n<=3){x:Word}(hx:x∈gq td s t h n):WdOk x/\x.k=s/\x.t=t/\x.h=h/\x.k<=3/\n≠0:=by
 unfold gq at hx
 split at hx
 ·cases hx
 ·rename_i hc
  simp only[not_or]at hc
  simp at hx;subst hx
  refine⟨⟨hh,ht,by simp only;omega,fun hk=>?_,fun hk=>?_⟩,rfl,rfl,rfl,hs.2,hc.1⟩
  ·simp only at hk;simp only[hk,if_true];omega
  ·simp only at hk;simp[hk]
theorem kR{td:List Word}{s t:Int}:∀ {ns:List Int} {h:Int} {x:Word},x∈bf td s t h ns->∃(j:Nat) (n:Int),ns[j]?=some n/\x∈gq td s t (h+j) n
 | [],h,x,hx=>by simp[bf]at hx
 | n::ns,h,x,hx=>by
  simp only[bf,List.mem_append]at hx
  rcases hx with hx|hx
  ·exact⟨0,n,rfl,by simpa using hx⟩
  ·obtain⟨j,m,e,hm⟩:=kR hx
   refine⟨j+1,m,by simpa using e,?_⟩
   have:h+((j+1:Nat):Int)=h+1+j:=by omega
   rw[this];exact hm
theorem oD{td:List Word}:∀ {l:List Trip} {t:Int} {x:Word},x∈c8 td t l->∃(i:Nat) (y:Trip),l[i]?=some y/\y.s<=3/\x∈bf td y.s (t+i) 1 y.m
 | [],t,x,hx=>by simp[c8]at hx
 | y::ys,t,x,hx=>by
  simp only[c8,List.mem_append]at hx
  rcases hx with hx|hx
  ·split at hx
   ·cases hx
   ·exact⟨0,y,rfl,by omega,by simpa using hx⟩
  ·obtain⟨i,z,e,h1,h2⟩:=oD hx
   refine⟨i+1,z,by simpa using e,h1,?_⟩
   have:t+((i+1:Nat):Int)=t+1+i:=by omega
   rw[this];exact h2
theorem da{d:Desk}(h:DkOk d){x:Word}(hx:x∈aM d):WdOk x/\x.k<=3/\d.up=true/\x.t<=(aj d true).length/\(tAt (aj d true) x.t).s=x.k/\∃ n,(tAt (aj d true) x.t).m[(x.h-1).toNat]?=some n/\n≠0/\x∈gq d.td x.k x.t x.h n:=by
 unfold aM at hx
 split at hx
 case isFalse=>cases hx
 rename_i hup
 obtain⟨i,y,e,h1,h2⟩:=oD hx
 obtain⟨j,n,e2,h3⟩:=kR h2
 have hi:=(List.getElem?_eq_some_iff.1 e).1
 have hj:=(List.getElem?_eq_some_iff.1 e2).1
 have tr:=h.trOk true
 have hy:=tripOk_iff.1 (tr.ok y (List.mem_of_getElem? e))
 have hm:=bP hy.1
 have hn:=ip hy.1 (List.mem_of_getElem? e2)
 have hlen:=tr.len
 have key:=CB (t:=1+(i:Int)) (h:=1+(j:Int)) (by omega) ⟨hy.2.1,h1⟩ (by omega) hn h3
 obtain⟨k1,k2,k3,k4,k5,k6⟩:=key
 have et:(x.t-1).toNat=i:=by omega
 have eh:(x.h-1).toNat=j:=by omega
 have ey:tAt (aj d true) x.t=y:=by simp[tAt,et,e]
 refine⟨k1,k5,hup,by omega,by rw[ey,k2],n,by rw[ey,eh];exact e2,k6,?_⟩
 rw[k2,k3,k4];exact h3
theorem WOk.deskEv{w:Wd}(h:WOk w)(e:Ev):WOk (jZ w e):=by
 unfold jZ
 split
 ·exact h.desk (h.dk.begin _)
 ·split
  ·exact h.desk (h.dk.give _)
  ·split
   ·split
    ·rename_i x hx
     split at hx
     ·exact h.put (da h.dk (List.mem_of_getElem? hx)).1
     ·cases hx
    ·exact h
   ·exact h
theorem gI(h:House):(bU h).id=h.id/\(bU h).room=h.room/\(bU h).up=h.up:=by unfold bU;split<;>exact⟨rfl,rfl,rfl⟩
theorem WOk.forceEv{w:Wd}(h:WOk w)(i:Int):WOk (cO w i):=by
 unfold cO
 split
 ·exact h.desk h.dk.force
 ·split
  ·rename_i hi
   have:=h.houseAt (in_iff.1 hi)
   exact h.setHouse (in_iff.1 hi) this.2.1.force (by rw[(gI _).1];exact this.2.2)
  ·exact h
theorem WOk.node{w:Wd}(h:WOk w)(e:Ev):WOk (cF w e):=by
 unfold cF
 split
 case isFalse=>exact h
 rename_i hi
 have hi:=in_iff.1 hi
 split
 ·exact h.forceEv _
 ·split
  ·split
   ·exact h.desk (h.dk.fall _)
   ·have:=h.houseAt (i:=e.a) (by omega)
    exact h.setHouse (by omega) (this.2.1.fall _) this.2.2
  ·split
   ·split
    ·exact h.desk h.dk.rise
    ·have:=h.houseAt (i:=e.a) (by omega)
     exact h.setHouse (by omega) this.2.1.rise this.2.2
   ·exact h
theorem WOk.do_{w:Wd}(h:WOk w)(e:Ev):WOk (wdo w e):=by
 unfold wdo
 split
 ·exact h.deskEv e
 ·split
  ·exact h.net e
  ·split
   ·exact h.node e
   ·exact h
theorem WOk.hear2{w:Wd}(h:WOk w){x:Word}(hx:WdOk x):WOk (bj w x):=by
 unfold bj
 have:=h.hear hx
 split
 ·rename_i y hy;exact(this.1.hear (this.2 y hy).1).1
 ·exact this.1
theorem WOk.hears{w:Wd}(h:WOk w):∀ {xs:List Word},(∀ x∈xs,WdOk x)->WOk (cE w xs)
 | [],_=>h
 | x::xs,hx=>(h.hear2 (hx x (by simp))).hears (fun y hy=>hx y (by simp[hy]))
theorem WOk.map{w:Wd}(h:WOk w){d:Desk}(hd:DkOk d){f:House->House}(hf:∀ x,HsOk x->HsOk (f x)/\(f x).id=x.id):WOk ⟨d,w.hs.map f,w.ns⟩:=by
 refine⟨hd,by simp[h.len],fun i x e=>?_,h.nlen,h.ns⟩
 simp only[List.getElem?_map,Option.map_eq_some_iff]at e
 obtain⟨y,e,rfl⟩:=e
 have:=h.hs i y e
 exact⟨(hf y this.1).1,by rw[(hf y this.1).2];exact this.2⟩
theorem WOk.round{w:Wd}(h:WOk w):WOk (aY w):=by
 have h1:WOk (cN w):=h.map h.dk.rise fun x hx=>⟨hx.rise,rfl⟩
 have h2:WOk {cN w with ns:=[]}:=⟨h1.dk,h1.len,h1.hs,by simp,by simp⟩
 have h3:=h2.hears (xs:=w.ns++aM (ev w.dk)) (fun x hx=>by
  rcases List.mem_append.1 hx with hx|hx
  ·exact h.ns x hx
  ·exact(da h.dk.rise hx).1)
 exact h3.map h3.dk.force fun x hx=>⟨hx.force,(gI x).1⟩
theorem WOk.calm{w:Wd}(h:WOk w)(n:Nat):WOk (cH w n):=by
 induction n generalizing w with
 | zero=>exact h
 | succ n ih=>exact ih h.round
theorem eV{rooms:List Int}{w:Wd}(h:bb rooms=some w):WOk w:=by
 unfold bb at h
 split at h
 case isFalse=>cases h
 rename_i hc
 simp only[List.all_eq_true,in_iff]at hc
 simp only[Option.some.injEq]at h;subst h
 refine⟨ze,by simp[cT,hc.1],fun i x e=>?_,by simp,by simp⟩
 simp only[cT,List.getElem?_map,Option.map_eq_some_iff,List.getElem?_zipIdx]at e
 obtain⟨p,⟨q,e,rfl⟩,rfl⟩:=e
 have hi:=(List.getElem?_eq_some_iff.1 e).1
 refine⟨⟨by simp only;omega,⟨by simp,by simp,by simp,by simp⟩,_,stockOf_some.2 ⟨hc.2 _ (List.mem_of_getElem? e),rfl⟩⟩,by simp only;omega⟩
end Dx
namespace Dx
def hle(a b:Hold):Prop:=a.s=0\/(b.m=a.m/\(b.s=a.s\/(a.s=1/\(b.s=2\/b.s=3))))
def tle(a b:Trip):Prop:=b.m=a.m/\(b.s=a.s\/(a.s=1/\(2<=b.s/\b.s<=5))\/(a.s=2/\b.s=4)\/(a.s=3/\b.s=5))
theorem hle.rfl'(a:Hold):hle a a:=.inr ⟨rfl,.inl rfl⟩
theorem tle.rfl'(a:Trip):tle a a:=⟨rfl,.inl rfl⟩
theorem hle.trans{a b c:Hold}(h1:hle a b)(h2:hle b c):hle a c:=by
 unfold hle at *;rcases h1 with h1|⟨e1,h1⟩
 ·exact .inl h1
 ·rcases h2 with h2|⟨e2,h2⟩
  ·left;omega
  ·right;exact⟨e2.trans e1,by omega⟩
theorem tle.trans{a b c:Trip}(h1:tle a b)(h2:tle b c):tle a c:=by
 obtain⟨e1,h1⟩:=h1;obtain⟨e2,h2⟩:=h2
 exact⟨e2.trans e1,by omega⟩
theorem G5{hs:List Hold}{t u:Int}{x:Hold}(ht:1<=t/\(t-1).toNat<hs.length)(hu:1<=u):hAt (hs.set (t-1).toNat x) u=if u=t then x else hAt hs u:=by
 unfold hAt
 rw[List.getElem?_set]
 by_cases e:u=t
 ·subst e;rw[if_pos rfl,if_pos ht.2,if_pos rfl];rfl
 ·rw[if_neg (by omega),if_neg e]
theorem AU{s:Stock}{r:Rec}(hl:s.hs.length=6)(hr:aH r=true){u:Int}(hu:1<=u):hAt (act s r).hs u=if u=r.t then jc (hAt s.hs r.t) r else hAt s.hs u:=by
 have:=cS hr
 exact G5 (by rw[hl];omega) hu
theorem tY{s:Stock}{r:Rec}(hl:s.hs.length=6)(hr:aH r=true)(hm:may s r=true){u:Int}(hu:1<=u):hle (hAt s.hs u) (hAt (act s r).hs u):=by
 rw[AU hl hr hu]
 split
 case isFalse=>exact hle.rfl' _
 rename_i e;subst e
 simp only[may,fv]at hm
 unfold jc hle
 split at hm
 ·rename_i h1;simp only[Bool.and_eq_true,beq_iff_eq]at hm;exact .inl hm.1
 ·split at hm
  ·rename_i h1 h2;simp only[beq_iff_eq]at hm;simp[h1,h2,hm]
  ·split at hm
   ·rename_i h1 h2 h3;simp only[Bool.or_eq_true,beq_iff_eq]at hm;simp[h1,h2,h3];omega
   ·cases hm
theorem jr:∀ {rs:List Rec} {s s':Stock},StOk s->bX rs s=some s'->∀ {u:Int},1<=u->hle (hAt s.hs u) (hAt s'.hs u)
 | [],s,s',_,e,u,_=>by simp only[bX,Option.some.injEq]at e;rw[e];exact hle.rfl' _
 | r::rs,s,s',h,e,u,hu=>by
  simp only[bX]at e
  split at e
  ·rename_i hc;simp only[Bool.and_eq_true]at hc
   exact(tY h.len hc.1 hc.2 hu).trans (jr (qL h hc.1 hc.2) e hu)
  ·cases e
theorem tZ{l:List Trip}{t u:Int}{x:Trip}(ht:1<=t/\(t-1).toNat<l.length)(hu:1<=u):tAt (l.set (t-1).toNat x) u=if u=t then x else tAt l u:=by
 unfold tAt
 rw[List.getElem?_set]
 by_cases e:u=t
 ·subst e;rw[if_pos rfl,if_pos ht.2,if_pos rfl];rfl
 ·rw[if_neg (by omega),if_neg e]
theorem Eb{l:List Trip}{x:Trip}{t:Int}(ht:1<=t):tAt (l++[x]) t=if t=l.length+1 then x else tAt l t:=by
 unfold tAt
 by_cases e:t=l.length+1
 ·subst e;simp
 ·rw[if_neg e]
  by_cases h:(t-1).toNat<l.length
  ·rw[List.getElem?_append_left h]
  ·rw[List.getElem?_eq_none (by simp;omega),List.getElem?_eq_none (by omega)]
theorem jH{l:List Trip}{r:Rec}(hr:aH r=true)(hm:cG l r=true){u:Int}(hu:1<=u) :
  tAt (cM l r) u=if u=r.t then(if r.k=4 then⟨r.m,1⟩ else if r.k=5 then⟨(tAt l r.t).m,2⟩ else if r.k=6 then⟨(tAt l r.t).m,3⟩ else⟨(tAt l r.t).m,(tAt l r.t).s+2⟩) else tAt l u:=by
 have ht:=cS hr
 have hk:=G2 hr
 simp only[cG]at hm
 unfold cM
 split at hm
 ·rename_i h4
  simp only[beq_iff_eq]at hm
  rw[if_pos h4,Eb hu,hm]
  by_cases e:u=l.length+1
  ·simp[e,h4]
  ·simp[e]
 ·rename_i h4
  split at hm
  ·cases hm
  rename_i hlt
  have hi:1<=r.t/\(r.t-1).toNat<l.length:=by omega
  rw[if_neg h4];simp only[h4,if_false]
  split
  ·rename_i h5;rw[tZ hi hu];try simp[*]
  ·split
   ·rename_i h5 h6;rw[tZ hi hu];try simp[*]
   ·split
    ·rename_i h5 h6 h7;rw[tZ hi hu];try simp[*]
    ·rename_i h5 h6 h7;exfalso
     simp only[h5,h6,h7,or_self,if_false]at hm;cases hm
theorem lp{l:List Trip}{r:Rec}(hr:aH r=true)(hm:cG l r=true) :
  (r.k=4/\r.t=l.length+1)\/(1<=r.t/\r.t<=l.length/\((r.k=5\/r.k=6)/\(tAt l r.t).s=1\/r.k=7/\((tAt l r.t).s=2\/(tAt l r.t).s=3))):=by
 have ht:=cS hr
 simp only[cG]at hm
 split at hm
 ·rename_i h4;simp only[beq_iff_eq]at hm;exact .inl ⟨h4,hm⟩
 ·split at hm
  ·cases hm
  rename_i hlt
  split at hm
  ·rename_i h;simp only[beq_iff_eq]at hm;exact .inr ⟨ht.1,by omega,.inl ⟨h,hm⟩⟩
  ·split at hm
   ·rename_i h;simp only[Bool.or_eq_true,beq_iff_eq]at hm;exact .inr ⟨ht.1,by omega,.inr ⟨h,hm⟩⟩
   ·cases hm
theorem wH{l:List Trip}{r:Rec}(hr:aH r=true)(hm:cG l r=true){u:Int}(hu:1<=u)(hl:u<=l.length):tle (tAt l u) (tAt (cM l r) u):=by
 rw[jH hr hm hu]
 split
 case isFalse=>exact tle.rfl' _
 rename_i e;subst e
 rcases lp hr hm with ⟨_,h⟩|⟨_,_,⟨h,h1⟩|⟨h,h1⟩⟩
 ·omega
 ·rw[if_neg (by omega)]
  rcases h with h|h
  ·rw[if_pos h];exact⟨rfl,.inr (.inl ⟨h1,by simp,by simp⟩)⟩
  ·rw[if_neg (by omega),if_pos h];exact⟨rfl,.inr (.inl ⟨h1,by simp,by simp⟩)⟩
 ·rw[if_neg (by omega),if_neg (by omega),if_neg (by omega)]
  refine⟨rfl,?_⟩
  simp only;omega
structure tpre (l l':List Trip):Prop where
 len:l.length<=l'.length
 le:∀ u:Int,1<=u->u<=l.length->tle (tAt l u) (tAt l' u)
theorem tpre.rfl'(l:List Trip):tpre l l:=⟨Nat.le_refl _,fun _ _ _=>tle.rfl' _⟩
theorem tpre.trans{a b c:List Trip}(h1:tpre a b)(h2:tpre b c):tpre a c :=
 ⟨Nat.le_trans h1.len h2.len,fun u hu hl=>(h1.le u hu hl).trans (h2.le u hu (by have:=h1.len;omega))⟩
theorem js:∀ {rs:List Rec} {l l':List Trip},ch rs l=some l'->tpre l l'
 | [],l,l',e=>by simp only[ch,Option.some.injEq]at e;rw[e];exact tpre.rfl' _
 | r::rs,l,l',e=>by
  simp only[ch]at e
  split at e
  ·rename_i hc;simp only[Bool.and_eq_true]at hc
   exact tpre.trans ⟨by rw[fU];split<;>omega,fun u hu hl=>wH hc.1 hc.2 hu hl⟩ (js e)
  ·cases e
def rk(t:Trip):Nat:=if t.s=1 then 1 else if t.s=2\/t.s=3 then 2 else 3
theorem wI{α:Type}{l:List α}{i:Nat}{a:α}(f:α->Nat)(hi:i<l.length):((l.set i a).map f).sum+f l[i]=(l.map f).sum+f a:=by
 induction l generalizing i with
 | nil=>simp at hi
 | cons x xs ih=>cases i with
  | zero=>simp;omega
  | succ i=>simp only[List.length_cons]at hi;simp only[List.set_cons_succ,List.map_cons,List.sum_cons,List.getElem_cons_succ];have:=ih (i:=i) (by omega);omega
theorem G6{l:List Trip}{r:Rec}(hr:aH r=true)(hm:cG l r=true):((cM l r).map rk).sum=(l.map rk).sum+1:=by
 rcases lp hr hm with ⟨h4,h⟩|⟨h1,h2,h⟩
 ·simp[cM,h4,rk]
 ·have hi:(r.t-1).toNat<l.length:=by omega
  have key:∀ x:Trip,rk x=rk (tAt l r.t)+1->((l.set (r.t-1).toNat x).map rk).sum=(l.map rk).sum+1:=by
   intro x hx
   have:=wI rk hi (a:=x)
   rw[vu hi]at hx;omega
  have n4:r.k≠4:=by omega
  rcases h with ⟨h5|h6,h⟩|⟨h7,h⟩
  ·simp only[cM,n4,h5,if_true,if_false];exact key _ (by simp[rk,h])
  ·simp only[cM,n4,h6,if_true,if_false];exact key _ (by simp[rk,h])
  ·simp only[cM,n4,h7,if_true,if_false]
   have:¬ ((7:Int)=5)/\¬ ((7:Int)=6)/\¬ ((7:Int)=4):=by omega
   simp only[this,if_false]
   refine key _ ?_
   rcases h with h|h<;>simp[rk,h]
theorem wJ:∀ {rs:List Rec} {l l':List Trip},ch rs l=some l'->(l'.map rk).sum=(l.map rk).sum+rs.length
 | [],l,l',e=>by simp only[ch,Option.some.injEq]at e;rw[e];simp
 | r::rs,l,l',e=>by
  simp only[ch]at e
  split at e
  ·rename_i hc;simp only[Bool.and_eq_true]at hc
   rw[wJ e,G6 hc.1 hc.2];simp;omega
  ·cases e
theorem rk_le(t:Trip):rk t<=3:=by
 unfold rk
 split
 ·omega
 ·split<;>omega
theorem CC(l:List Trip):(l.map rk).sum<=3*l.length:=by
 induction l with
 | nil=>simp
 | cons x xs ih=>have:=rk_le x;simp;omega
theorem wb{rs:List Rec}{l:List Trip}(h:bc rs=some l):rs.length<=3*l.length:=by
 have:=wJ h
 have:=CC l
 simp at *;omega
theorem DkOk.len{d:Desk}(h:DkOk d):d.lg.rs.length<=3*(aj d false).length:=wb h.tr
theorem DkOk.len18{d:Desk}(h:DkOk d):d.lg.rs.length<=18:=by have:=h.len;have:=(h.trOk false).len;omega
def hrk(h:Hold):Nat:=if h.s=0 then 0 else if h.s=1 then 1 else 2
theorem G7{s:Stock}{r:Rec}(hs:StOk s)(hr:aH r=true)(hm:may s r=true):(s.hs.map hrk).sum+1<=((act s r).hs.map hrk).sum:=by
 have ht:=cS hr
 have hi:(r.t-1).toNat<s.hs.length:=by rw[hs.len];omega
 have:=wI hrk hi (a:=jc (hAt s.hs r.t) r)
 rw[<-vr hi]at this
 have key:hrk (hAt s.hs r.t)+1<=hrk (jc (hAt s.hs r.t) r):=by
  simp only[may,fv]at hm
  unfold jc
  split at hm
  ·rename_i h1;simp only[Bool.and_eq_true,beq_iff_eq]at hm;simp[h1,hrk,hm]
  ·split at hm
   ·rename_i h1 h2;simp only[beq_iff_eq]at hm;simp[h1,h2,hrk,hm]
   ·split at hm
    ·rename_i h1 h2 h3;simp only[Bool.or_eq_true,beq_iff_eq]at hm
     rcases hm with hm|hm<;>simp[h1,h2,h3,hrk,hm]
    ·cases hm
 simp only[act];omega
theorem sj:∀ {rs:List Rec} {s s':Stock},StOk s->bX rs s=some s'->(s.hs.map hrk).sum+rs.length<=(s'.hs.map hrk).sum
 | [],s,s',_,e=>by simp only[bX,Option.some.injEq]at e;rw[e];simp
 | r::rs,s,s',h,e=>by
  simp only[bX]at e
  split at e
  ·rename_i hc;simp only[Bool.and_eq_true]at hc
   have:=sj (qL h hc.1 hc.2) e
   have:=G7 h hc.1 hc.2
   simp;omega
  ·cases e
theorem zf(l:List Hold):(l.map hrk).sum<=2*l.length:=by
 induction l with
 | nil=>simp
 | cons x xs ih =>
  have:hrk x<=2:=by
   unfold hrk
   split
   ·omega
   ·split<;>omega
  simp;omega
theorem HsOk.len{h:House}(ho:HsOk h):h.lg.rs.length<=12:=by
 obtain⟨s,e⟩:=ho.st
 obtain⟨h1,h2⟩:=stockOf_some.1 e
 have:=sj (fZ h1) h2
 have h3:=zf s.hs
 rw[(j8 e).1.len]at h3
 omega
theorem wK:∀(n:Nat) (l:List Nat),l.Nodup->(∀ x∈l,x<n)->l.length<=n
 | 0,l,_,h=>by
  cases l with
  | nil=>simp
  | cons x xs=>have:=h x (by simp);omega
 | n+1,l,hn,h=>by
  have h1:=wK n (l.erase n) (hn.erase n) (fun x hx=>by
   have h2:=(hn.mem_erase_iff).1 hx
   have:=h x h2.2
   have:=h2.1
   omega)
  have h2:=List.length_erase (a:=n) (l:=l)
  split at h2<;>omega
theorem sk{α β:Type}{f:α->β}:∀ {l:List α},l.Nodup->(∀ x∈l,∀ y∈l,f x=f y->x=y)->(l.map f).Nodup
 | [],_,_=>by simp
 | a::l,hn,h=>by
  rw[List.nodup_cons]at hn
  rw[List.map_cons,List.nodup_cons]
  refine⟨fun hm=>?_,sk hn.2 (fun x hx y hy=>h x (by simp[hx]) y (by simp[hy]))⟩
  obtain⟨y,hy,e⟩:=List.mem_map.1 hm
  have:=h y (by simp[hy]) a (by simp) e
  exact hn.1 (this ▸ hy)
theorem DkOk.tdlen{d:Desk}(h:DkOk d):d.td.length<=72:=by
 have:=wK 72 (d.td.map fun w=>((w.k-4)*18+(w.h-1)*6+(w.t-1)).toNat) (sk h.nd (fun x hx y hy e=>by
  obtain⟨a,b,_⟩:=h.td x hx
  obtain⟨c,d,_⟩:=h.td y hy
  have:=a.h;have:=a.t;have:=a.k;have:=c.h;have:=c.t;have:=c.k
  have m1:=a.m0 (by omega)
  have m2:=c.m0 (by omega)
  obtain⟨k,hh,t,m⟩:=x
  obtain⟨k',hh',t',m'⟩:=y
  simp only at *
  subst m1;subst m2
  have:(k-4)*18+(hh-1)*6+(t-1)=(k'-4)*18+(hh'-1)*6+(t'-1):=by omega
  have:k=k'/\hh=hh'/\t=t':=by omega
  simp[this])) (fun x hx=>by
  obtain⟨y,hy,rfl⟩:=List.mem_map.1 hx
  obtain⟨a,b,_⟩:=h.td y hy
  have:=a.h;have:=a.t;have:=a.k
  omega)
 simpa using this
theorem fA(td:List Word)(s t:Int):∀(ns:List Int) (h:Int),(bf td s t h ns).length<=ns.length
 | [],h=>by simp[bf]
 | n::ns,h=>by
  have:=fA td s t ns (h+1)
  simp only[bf,gq,List.length_append,List.length_cons]
  split
  ·simp;omega
  ·simp only[List.length_cons,List.length_nil];omega
theorem oE(td:List Word):∀(l:List Trip) (t:Int),(∀ x∈l,x.m.length<=3)->(c8 td t l).length<=3*l.length
 | [],t,_=>by simp[c8]
 | x::xs,t,hx=>by
  have h1:=oE td xs (t+1) (fun y hy=>hx y (by simp[hy]))
  have h2:=hx x (by simp)
  have h3:=fA td x.s t x.m 1
  simp only[c8,List.length_append,List.length_cons]
  split
  ·simp;omega
  ·omega
theorem dI{d:Desk}(h:DkOk d):(aM d).length<=18:=by
 unfold aM
 split
 ·have tF:=h.trOk true
  have:=oE d.td (aj d true) 1 (fun x hx=>by have:=bP (tripOk_iff.1 (tF.ok x hx)).1;omega)
  have:=tF.len
  omega
 ·simp
theorem G8{l:Log}{r:Rec}(h:l.rs.length<40):dW l r=⟨l.rs++[r],l.f⟩:=by simp[dW];omega
end Dx
namespace Dx
structure V where
 F:List Trip
 A:List Trip
 td:List Word
 ns:List Word
 hF:Int->Int->Hold
 hA:Int->Int->Hold
def V.sF(v:V)(t:Int):Int:=(tAt v.F t).s
def V.sA(v:V)(t:Int):Int:=(tAt v.A t).s
def mAt(m:List Int)(h:Int):Int:=(m[(h-1).toNat]?).getD 0
def V.want(v:V)(t h:Int):Int:=mAt (tAt v.F t).m h
structure NetOk (v:V) (x:Word):Prop where
 s:v.sF x.t≠0
 w:0<v.want x.t x.h
 k1:x.k=1->x.m=v.want x.t x.h
 k2:x.k=2->v.sF x.t=2\/v.sF x.t=4
 k3:x.k=3->v.sF x.t=3\/v.sF x.t=5
 k4:x.k=4->(v.hF x.h x.t).s≠0
 k6:x.k=6->(v.hF x.h x.t).s=2
 k7:x.k=7->(v.hF x.h x.t).s=3
structure HoldFit (v:V) (h t:Int):Prop where
 s:v.sF t≠0
 w:0<v.want t h
 m:(v.hA h t).s≠3->(v.hA h t).m=v.want t h
 m3:(v.hA h t).s=3->(v.hA h t).m=v.want t h\/(v.hA h t).m=0
 c:(v.hA h t).s=2->v.sF t=2\/v.sF t=4
 u:(v.hA h t).s=3->v.sF t=3\/v.sF t=5
def isH(h:Int):Prop:=1<=h/\h<=3
def isT(t:Int):Prop:=1<=t/\t<=6
structure TripFit (v:V) (t:Int):Prop where
 yes:v.sA t=2\/v.sA t=4->v.sF t≠0/\∀ h,isH h->0<v.want t h->(v.hF h t).s=1\/(v.hF h t).s=2
 kept:v.sA t=4->∀ h,isH h->0<v.want t h->(v.hF h t).s=2
 left:v.sA t=5->v.sF t≠0/\∀ h,isH h->0<v.want t h->(v.hF h t).s=3
 d1:v.sA t=1->bl v.td t 5 1 (tAt v.A t).m=false/\aD v.td t 4 1 (tAt v.A t).m=false
 d2:v.sA t=2->aD v.td t 6 1 (tAt v.A t).m=false
 d3:v.sA t=3->aD v.td t 7 1 (tAt v.A t).m=false
structure Base (v:V):Prop where
 pre:tpre v.F v.A
 trA:TrOk v.A
 hle:∀ h t,isH h->isT t->hle (v.hF h t) (v.hA h t)
 okA:∀ h t,isH h->isT t->bi (v.hA h t)=true
 okF:∀ h t,isH h->isT t->bi (v.hF h t)=true
 tdo:∀ x∈v.td,WdOk x/\4<=x.k
 nso:∀ x∈v.ns,WdOk x
 net:∀ x∈v.ns,NetOk v x
 told:∀ x∈v.td,NetOk v x
 hold:∀ h t,isH h->isT t->(v.hA h t).s≠0->HoldFit v h t
structure Inv (v:V):Prop extends Base v where
 trip:∀ t,isT t->TripFit v t
theorem Fm{m:List Int}{h:Int}(hl:(h-1).toNat<m.length):mAt m h=m[(h-1).toNat]:=by unfold mAt;rw[List.getElem?_eq_getElem hl];rfl
theorem f0{td:List Word}{t k:Int}:∀ {m:List Int} {h:Int},aD td t k h m=true↔∀(j:Nat) (n:Int),m[j]?=some n->0<n->(⟨k,h+j,t,0⟩:Word)∈td
 | [],h=>by simp[aD]
 | n::ns,h=>by
  simp only[aD,Bool.and_eq_true,f0 (m:=ns),Bool.or_eq_true,Bool.not_eq_true',decide_eq_false_iff_not,List.contains_eq_mem,decide_eq_true_eq]
  constructor
  ·rintro⟨h1,h2⟩ j x hj hx
   cases j with
   | zero=>simp at hj;subst hj;simpa using h1.resolve_left (by omega)
   | succ j =>
    have:=h2 j x (by simpa using hj) hx
    rwa [show h+1+(j:Int)=h+((j+1:Nat):Int) by omega]at this
  ·intro hh
   refine⟨?_,fun j x hj hx=>?_⟩
   ·by_cases hn:n>0
    ·right;have:=hh 0 n rfl hn;simpa using this
    ·left;exact hn
   ·have:=hh (j+1) x (by simpa using hj) hx
    rwa [show h+((j+1:Nat):Int)=h+1+(j:Int) by omega]at this
theorem toldAny_iff{td:List Word}{t k:Int}:∀ {m:List Int} {h:Int},bl td t k h m=true↔∃(j:Nat) (n:Int),m[j]?=some n/\0<n/\(⟨k,h+j,t,0⟩:Word)∈td
 | [],h=>by simp[bl]
 | n::ns,h=>by
  simp only[bl,Bool.or_eq_true,toldAny_iff (m:=ns),Bool.and_eq_true,decide_eq_true_eq,List.contains_eq_mem]
  constructor
  ·rintro(⟨h1,h2⟩|⟨j,x,h1,h2,h3⟩)
   ·exact⟨0,n,rfl,h1,by simpa using h2⟩
   ·refine⟨j+1,x,by simpa using h1,h2,?_⟩
    rwa [show h+((j+1:Nat):Int)=h+1+(j:Int) by omega]
  ·rintro⟨j,x,h1,h2,h3⟩
   cases j with
   | zero=>simp at h1;subst h1;left;exact⟨h2,by simpa using h3⟩
   | succ j =>
    right;refine⟨j,x,by simpa using h1,h2,?_⟩
    rwa [show h+1+(j:Int)=h+((j+1:Nat):Int) by omega]
theorem fG{td:List Word}{t k:Int}{m:List Int}(hm:m.length=3):aD td t k 1 m=true↔∀ h,isH h->0<mAt m h->(⟨k,h,t,0⟩:Word)∈td:=by
 rw[f0]
 constructor
 ·intro hh h ⟨h1,h2⟩ hw
  have hl:(h-1).toNat<m.length:=by omega
  have:=hh (h-1).toNat m[(h-1).toNat] (by simp[hl]) (by rw[<-Fm hl];exact hw)
  rwa [show 1+(((h-1).toNat:Nat):Int)=h by omega]at this
 ·intro hh j n hj hn
  have hl:=(List.getElem?_eq_some_iff.1 hj).1
  refine hh (1+j) ⟨by omega,by omega⟩ ?_
  have:(1+(j:Int)-1).toNat=j:=by omega
  simp[mAt,this,hj,hn]
theorem sm{td:List Word}{t k:Int}{m:List Int}(hm:m.length=3):bl td t k 1 m=true↔∃ h,isH h/\0<mAt m h/\(⟨k,h,t,0⟩:Word)∈td:=by
 rw[toldAny_iff]
 constructor
 ·rintro⟨j,n,hj,hn,h⟩
  have hl:=(List.getElem?_eq_some_iff.1 hj).1
  refine⟨1+j,⟨by omega,by omega⟩,?_,h⟩
  have:(1+(j:Int)-1).toNat=j:=by omega
  simp[mAt,this,hj,hn]
 ·rintro⟨h,⟨h1,h2⟩,hw,hh⟩
  have hl:(h-1).toNat<m.length:=by omega
  refine⟨(h-1).toNat,m[(h-1).toNat],by simp[hl],by rw[<-Fm hl];exact hw,?_⟩
  rwa [show 1+(((h-1).toNat:Nat):Int)=h by omega]
theorem i5{m:List Int}(h:di m=true):∃ x,isH x/\0<mAt m x:=by
 have hl:=bP h
 match m,hl with
 | [a,b,c],_ =>
  simp only[di,Bool.and_eq_true,List.all_cons,in_iff,decide_eq_true_eq]at h
  obtain⟨⟨ha,hb,hc,_⟩,_,hs⟩:=h
  simp at hs
  by_cases h1:0<a
  ·exact⟨1,⟨by omega,by omega⟩,by simpa [mAt] using h1⟩
  ·by_cases h2:0<b
   ·exact⟨2,⟨by omega,by omega⟩,by simpa [mAt] using h2⟩
   ·exact⟨3,⟨by omega,by omega⟩,by simp[mAt];omega⟩
section
variable {v:V}
theorem cr{l:List Trip}{t:Int}(h:(tAt l t).s≠0):(t-1).toNat<l.length:=by
 unfold tAt at h
 by_cases e:(t-1).toNat<l.length
 ·exact e
 ·rw[List.getElem?_eq_none (by omega)]at h;exact absurd rfl h
theorem Base.A_ok(I:Base v){t:Int}(h:v.sA t≠0):di (tAt v.A t).m=true/\1<=v.sA t/\v.sA t<=5 :=
 tripOk_iff.1 (I.trA.ok _ (gx (cr h)))
theorem Base.FA(I:Base v){t:Int}(ht:1<=t)(h:v.sF t≠0):tle (tAt v.F t) (tAt v.A t):=I.pre.le t ht (by have:=cr h;omega)
theorem Base.FA_s(I:Base v){t:Int}(ht:1<=t)(h:v.sF t≠0):v.sA t=v.sF t\/(v.sF t=1/\2<=v.sA t/\v.sA t<=5)\/(v.sF t=2/\v.sA t=4)\/(v.sF t=3/\v.sA t=5):=(I.FA ht h).2
theorem Base.FA_m(I:Base v){t:Int}(ht:1<=t)(h:v.sF t≠0)(x:Int):mAt (tAt v.A t).m x=v.want t x:=by rw[V.want,(I.FA ht h).1]
theorem Base.mem_told(I:Base v){t h k:Int}(hm:(⟨k,h,t,0⟩:Word)∈v.td):NetOk v ⟨k,h,t,0⟩:=I.told _ hm
end
structure Fwd (v v':V):Prop where
 F:tpre v.F v'.F
 h:∀ h t,isH h->isT t->hle (v.hF h t) (v'.hF h t)
theorem Fwd.sF{v v':V}(g:Fwd v v'){t:Int}(ht:1<=t)(h:v.sF t≠0):v'.sF t≠0/\(v.sF t=2\/v.sF t=4->v'.sF t=2\/v'.sF t=4)/\(v.sF t=3\/v.sF t=5->v'.sF t=3\/v'.sF t=5)/\∀ x,v'.want t x=v.want t x:=by
 have:=g.F.le t ht (by have:=cr h;omega)
 obtain⟨h1,h2⟩:=this
 unfold V.sF at *
 refine⟨by omega,by omega,by omega,fun x=>by unfold V.want;rw[h1]⟩
theorem NetOk.fwd{v v':V}(g:Fwd v v'){x:Word}(hx:WdOk x)(h:NetOk v x):NetOk v' x:=by
 obtain⟨f1,f2,f3,f4⟩:=g.sF hx.t.1 h.s
 have hh:=g.h x.h x.t hx.h hx.t
 refine⟨f1,by rw[f4];exact h.w,fun e=>by rw[f4];exact h.k1 e,fun e=>f2 (h.k2 e),fun e=>f3 (h.k3 e),fun e=>?_,fun e=>?_,fun e=>?_⟩
 ·have:=h.k4 e;unfold hle at hh;omega
 ·have:=h.k6 e;unfold hle at hh;omega
 ·have:=h.k7 e;unfold hle at hh;omega
end Dx
namespace Dx
theorem NetOk.congr{v v':V}{x:Word}(hF:tAt v'.F x.t=tAt v.F x.t)(hh:v'.hF x.h x.t=v.hF x.h x.t)(h:NetOk v x):NetOk v' x:=by
 have e1:v'.sF x.t=v.sF x.t:=by unfold V.sF;rw[hF]
 have e2:v'.want x.t x.h=v.want x.t x.h:=by unfold V.want;rw[hF]
 exact⟨by rw[e1];exact h.s,by rw[e2];exact h.w,by rw[e2];exact h.k1,by rw[e1];exact h.k2,by rw[e1];exact h.k3,by rw[hh];exact h.k4,by rw[hh];exact h.k6,by rw[hh];exact h.k7⟩
theorem HoldFit.congr{v v':V}{h t:Int}(hF:tAt v'.F t=tAt v.F t)(hh:v'.hA h t=v.hA h t)(g:HoldFit v h t):HoldFit v' h t:=by
 have e1:v'.sF t=v.sF t:=by unfold V.sF;rw[hF]
 have e2:v'.want t h=v.want t h:=by unfold V.want;rw[hF]
 exact⟨by rw[e1];exact g.s,by rw[e2];exact g.w,by rw[e2,hh];exact g.m,by rw[e2,hh];exact g.m3,by rw[e1,hh];exact g.c,by rw[e1,hh];exact g.u⟩
theorem TripFit.congr{v v':V}{t:Int}(hA:tAt v'.A t=tAt v.A t)(hF:tAt v'.F t=tAt v.F t)(hh:∀ h,isH h->v'.hF h t=v.hF h t)
  (htd:∀ k h,(⟨k,h,t,0⟩:Word)∈v'.td↔(⟨k,h,t,0⟩:Word)∈v.td) (g:TripFit v t):TripFit v' t:=by
 have e1:v'.sF t=v.sF t:=by unfold V.sF;rw[hF]
 have e2:∀ h,v'.want t h=v.want t h:=fun h=>by unfold V.want;rw[hF]
 have e3:v'.sA t=v.sA t:=by unfold V.sA;rw[hA]
 have all:∀ k m,aD v'.td t k 1 m=aD v.td t k 1 m:=fun k m=>by
  rw[Bool.eq_iff_iff,f0,f0];simp only[htd]
 have any:∀ k m,bl v'.td t k 1 m=bl v.td t k 1 m:=fun k m=>by
  rw[Bool.eq_iff_iff,toldAny_iff,toldAny_iff];simp only[htd]
 refine⟨fun h=>?_,fun h x hx hw=>?_,fun h=>?_,fun h=>?_,fun h=>?_,fun h=>?_⟩
 ·have:=g.yes (by rwa [e3]at h)
  exact⟨by rw[e1];exact this.1,fun x hx hw=>by rw[hh x hx];exact this.2 x hx (by rwa [e2]at hw)⟩
 ·rw[hh x hx];exact g.kept (by rwa [e3]at h) x hx (by rwa [e2]at hw)
 ·have:=g.left (by rwa [e3]at h)
  exact⟨by rw[e1];exact this.1,fun x hx hw=>by rw[hh x hx];exact this.2 x hx (by rwa [e2]at hw)⟩
 ·rw[hA,all,any];exact g.d1 (by rwa [e3]at h)
 ·rw[hA,all];exact g.d2 (by rwa [e3]at h)
 ·rw[hA,all];exact g.d3 (by rwa [e3]at h)
section
variable {v:V}
theorem Base.all_told(I:Base v){t k:Int}(ht:isT t)(hs:v.sA t≠0)(h:aD v.td t k 1 (tAt v.A t).m=true) :
  v.sF t≠0/\(k=4->∀ h,isH h->0<v.want t h->(v.hF h t).s≠0)/\(k=6->(v.sF t=2\/v.sF t=4)/\∀ h,isH h->0<v.want t h->(v.hF h t).s=2)/\(k=7->(v.sF t=3\/v.sF t=5)/\∀ h,isH h->0<v.want t h->(v.hF h t).s=3):=by
 have hm:=(I.A_ok hs).1
 have hl:=bP hm
 rw[fG hl]at h
 obtain⟨x,hx,hw⟩:=i5 hm
 have n0:=I.mem_told (h x hx hw)
 have hsF:v.sF t≠0:=n0.s
 have wm:=fun y=>I.FA_m ht.1 hsF y
 refine⟨hsF,fun hk y hy hwy=>?_,fun hk=>⟨?_,fun y hy hwy=>?_⟩,fun hk=>⟨?_,fun y hy hwy=>?_⟩⟩
 ·exact(I.mem_told (h y hy (by rw[wm];exact hwy))).k4 hk
 ·have h2:=n0.k6 hk
  have:=I.hle x t hx ht
  exact(I.hold x t hx ht (by unfold Dx.hle at this;simp only at h2;omega)).c (by unfold Dx.hle at this;simp only at h2;omega)
 ·exact(I.mem_told (h y hy (by rw[wm];exact hwy))).k6 hk
 ·have h2:=n0.k7 hk
  have:=I.hle x t hx ht
  exact(I.hold x t hx ht (by unfold Dx.hle at this;simp only at h2;omega)).u (by unfold Dx.hle at this;simp only at h2;omega)
 ·exact(I.mem_told (h y hy (by rw[wm];exact hwy))).k7 hk
theorem wL{l:List Trip}{r:Rec}(hr:aH r=true)(hm:cG l r=true):tpre l (cM l r) :=
 ⟨by rw[fU];split<;>omega,fun _ hu hl=>wH hr hm hu hl⟩
theorem Base.write(I:Base v){r:Rec}(hr:aH r=true)(hm:cG v.A r=true):Base {v with A:=cM v.A r} :=
 ⟨I.pre.trans (wL hr hm),oC I.trA hr hm,I.hle,I.okA,I.okF,I.tdo,I.nso,fun x hx=>NetOk.congr (v:=v) rfl rfl (I.net x hx),fun x hx=>NetOk.congr (v:=v) rfl rfl (I.told x hx),fun h t hh htt hs=>HoldFit.congr (v:=v) rfl rfl (I.hold h t hh htt hs)⟩
theorem TripFit.other{v:V}{r:Rec}(hr:aH r=true)(hm:cG v.A r=true){t:Int}(ht:isT t)(e:t≠r.t)(h:TripFit v t):TripFit {v with A:=cM v.A r} t :=
 TripFit.congr (v:=v) (by simp only;rw[jH hr hm ht.1,if_neg e]) rfl (fun _ _=>rfl) (fun _ _=>Iff.rfl) h
theorem Base.no_told(I:Base v){t k:Int}(ht:isT t)(hk:k=6\/k=7)(hs:v.sA t=1):aD v.td t k 1 (tAt v.A t).m=false:=by
 cases e:aD v.td t k 1 (tAt v.A t).m with
 | false=>rfl
 | true =>
  exfalso
  obtain⟨h1,_,h6,h7⟩:=I.all_told ht (by omega) e
  have:=I.FA_s ht.1 h1
  rcases hk with hk|hk
  ·have:=(h6 hk).1;omega
  ·have:=(h7 hk).1;omega
theorem Base.begin_fit(I:Base v){r:Rec}(hr:aH r=true)(hm:cG v.A r=true)(h4:r.k=4):TripFit {v with A:=cM v.A r} r.t:=by
 have hrt:=cS hr
 have hlen:r.t=v.A.length+1:=by simpa [cG,h4] using hm
 have ea:tAt (cM v.A r) r.t=⟨r.m,1⟩:=by rw[jH hr hm hrt.1];simp[h4]
 have es:V.sA {v with A:=cM v.A r} r.t=1:=by unfold V.sA;rw[ea]
 have non:∀ k h,(⟨k,h,r.t,0⟩:Word)∉v.td:=fun k h hx=>by
  have hs:=(I.mem_told hx).s
  have:=cr hs
  have:=I.pre.len
  simp only at *;omega
 refine⟨fun h=>by rw[es]at h;omega,fun h=>by rw[es]at h;omega,fun h=>by rw[es]at h;omega,fun _=>?_,fun h=>by rw[es]at h;omega,fun h=>by rw[es]at h;omega⟩
 simp only[ea]
 have hm:=iZ hr h4
 have hl:=bP hm
 constructor
 ·cases e:bl v.td r.t 5 1 r.m with
  | false=>rfl
  | true=>obtain⟨h,_,_,hx⟩:=(sm hl).1 e;exact absurd hx (non _ _)
 ·cases e:aD v.td r.t 4 1 r.m with
  | false=>rfl
  | true =>
   obtain⟨h,hh,hw⟩:=i5 hm
   exact absurd ((fG hl).1 e h hh hw) (non _ _)
theorem Base.no_fit(I:Base v){t:Int}(ht:isT t)(hs:v.sA t=1):cG v.A ⟨6,t,[]⟩=true/\TripFit {v with A:=cM v.A ⟨6,t,[]⟩} t:=by
 have hr:aH ⟨6,t,[]⟩=true:=by simp[aH,in_iff,ht.1,ht.2]
 have hl:=cr (l:=v.A) (t:=t) (by unfold V.sA at hs;omega)
 have h1:=ht.1
 have hs':(tAt v.A t).s=1:=hs
 have hm:cG v.A ⟨6,t,[]⟩=true:=by simp only[cG];rw[if_neg (by omega),if_neg (by omega)];simp[hs']
 refine⟨hm,?_⟩
 have ea:tAt (cM v.A ⟨6,t,[]⟩) t=⟨(tAt v.A t).m,3⟩:=by rw[jH hr hm ht.1];simp
 have es:V.sA {v with A:=cM v.A ⟨6,t,[]⟩} t=3:=by unfold V.sA;rw[ea]
 refine⟨fun h=>by simp only[es]at h;omega,fun h=>by simp only[es]at h;omega,fun h=>by simp only[es]at h;omega,fun h=>by simp only[es]at h;omega,fun h=>by simp only[es]at h;omega,fun _=>?_⟩
 simp only[ea]
 exact I.no_told ht (.inr rfl) hs
theorem Base.not_undone(I:Base v){t h:Int}(ht:isT t)(hh:isH h)(hs:v.sA t=1\/v.sA t=2\/v.sA t=4):(v.hA h t).s≠3/\(v.hF h t).s≠3:=by
 have key:(v.hA h t).s≠3:=fun e=>by
  have g:=I.hold h t hh ht (by omega)
  have h1:=g.u e
  have h2:=I.FA_s ht.1 g.s
  omega
 refine⟨key,fun e=>?_⟩
 have:=I.hle h t hh ht
 unfold Dx.hle at this;omega
theorem pY{x:Hold}(h:bi x=true):0<=x.s/\x.s<=3:=by
 unfold bi at h
 split at h
 ·omega
 ·split at h
  ·omega
  ·split at h
   ·omega
   ·cases h
theorem Base.yes_fit(I:Base v){t:Int}(ht:isT t)(hs:v.sA t=1)(ha:aD v.td t 4 1 (tAt v.A t).m=true):cG v.A ⟨5,t,[]⟩=true/\TripFit {v with A:=cM v.A ⟨5,t,[]⟩} t:=by
 have hr:aH ⟨5,t,[]⟩=true:=by simp[aH,in_iff,ht.1,ht.2]
 have hl:=cr (l:=v.A) (t:=t) (by unfold V.sA at hs;omega)
 have h1:=ht.1
 have hs':(tAt v.A t).s=1:=hs
 have hm:cG v.A ⟨5,t,[]⟩=true:=by simp only[cG];rw[if_neg (by omega),if_neg (by omega)];simp[hs']
 refine⟨hm,?_⟩
 have ea:tAt (cM v.A ⟨5,t,[]⟩) t=⟨(tAt v.A t).m,2⟩:=by rw[jH hr hm ht.1];simp
 have es:V.sA {v with A:=cM v.A ⟨5,t,[]⟩} t=2:=by unfold V.sA;rw[ea]
 obtain⟨k1,k2,_,_⟩:=I.all_told ht (by omega) ha
 refine⟨fun _=>⟨k1,fun h hh hw=>?_⟩,fun h=>by simp only[es]at h;omega,fun h=>by simp only[es]at h;omega,fun h=>by simp only[es]at h;omega,fun _=>?_,fun h=>by simp only[es]at h;omega⟩
 ·have g1:=k2 rfl h hh hw
  have g2:=(I.not_undone ht hh (.inl hs)).2
  have g3:=pY (I.okF h t hh ht)
  show (v.hF h t).s=1\/(v.hF h t).s=2
  omega
 ·simp only[ea]
  exact I.no_told ht (.inl rfl) hs
theorem Base.end_fit(I:Base v){t:Int}(ht:isT t)(h:v.sA t=2/\aD v.td t 6 1 (tAt v.A t).m=true\/v.sA t=3/\aD v.td t 7 1 (tAt v.A t).m=true):cG v.A ⟨7,t,[]⟩=true/\TripFit {v with A:=cM v.A ⟨7,t,[]⟩} t:=by
 have hr:aH ⟨7,t,[]⟩=true:=by simp[aH,in_iff,ht.1,ht.2]
 have hn:v.sA t≠0:=by omega
 have hl:=cr (l:=v.A) (t:=t) hn
 have h1:=ht.1
 have hs':(tAt v.A t).s=2\/(tAt v.A t).s=3:=by unfold V.sA at h;omega
 have hm:cG v.A ⟨7,t,[]⟩=true:=by simp only[cG];rw[if_neg (by omega),if_neg (by omega),if_neg (by omega),if_pos trivial];simpa using hs'
 refine⟨hm,?_⟩
 have ea:tAt (cM v.A ⟨7,t,[]⟩) t=⟨(tAt v.A t).m,(tAt v.A t).s+2⟩:=by rw[jH hr hm ht.1];simp
 have es:V.sA {v with A:=cM v.A ⟨7,t,[]⟩} t=v.sA t+2:=by unfold V.sA;rw[ea]
 rcases h with ⟨hs,ha⟩|⟨hs,ha⟩
 ·obtain⟨k1,_,k6,_⟩:=I.all_told ht hn ha
  exact⟨fun _=>⟨k1,fun h hh hw=>.inr ((k6 rfl).2 h hh hw)⟩,fun _ h hh hw=>(k6 rfl).2 h hh hw,fun h=>by simp only[es]at h;omega,fun h=>by simp only[es]at h;omega,fun h=>by simp only[es]at h;omega,fun h=>by simp only[es]at h;omega⟩
 ·obtain⟨k1,_,_,k7⟩:=I.all_told ht hn ha
  exact⟨fun h=>by simp only[es]at h;omega,fun h=>by simp only[es]at h;omega,fun _=>⟨k1,(k7 rfl).2⟩,fun h=>by simp only[es]at h;omega,fun h=>by simp only[es]at h;omega,fun h=>by simp only[es]at h;omega⟩
theorem Inv.begin(I:Inv v){r:Rec}(hr:aH r=true)(hm:cG v.A r=true)(h4:r.k=4):Inv {v with A:=cM v.A r} :=
 ⟨I.toBase.write hr hm,fun t ht=>if e:t=r.t then e ▸ I.begin_fit hr hm h4 else(I.trip t ht).other hr hm ht e⟩
theorem AV{k t:Int}(hk:k=5\/k=6\/k=7)(ht:isT t):aH ⟨k,t,[]⟩=true:=by
 rcases hk with e|e|e<;>subst e<;>simp[aH,in_iff,ht.1,ht.2]
theorem Inv.no(I:Inv v){t:Int}(ht:isT t)(hs:v.sA t=1):Inv {v with A:=cM v.A ⟨6,t,[]⟩}:=by
 obtain⟨hm,hf⟩:=I.no_fit ht hs
 have hr:=AV (k:=6) (by omega) ht
 exact⟨I.toBase.write hr hm,fun u hu=>if e:u=t then e ▸ hf else(I.trip u hu).other hr hm hu e⟩
def V.kind(v:V)(t:Int):Int :=
 if v.sA t=1/\bl v.td t 5 1 (tAt v.A t).m then 6
 else if v.sA t=1/\aD v.td t 4 1 (tAt v.A t).m then 5
 else if v.sA t=2/\(t<=v.F.length/\v.sF t=v.sA t)/\aD v.td t 6 1 (tAt v.A t).m then 7
 else if v.sA t=3/\(t<=v.F.length/\v.sF t=v.sA t)/\aD v.td t 7 1 (tAt v.A t).m then 7
 else 0
def V.decide(v:V)(t:Int):V:=if v.kind t>0 then {v with A:=cM v.A ⟨v.kind t,t,[]⟩} else v
theorem Base.decide(I:Base v){t:Int}(ht:isT t)(hl:t<=v.A.length)(hy:v.sA t=2\/v.sA t=4->v.sF t≠0/\∀ h,isH h->0<v.want t h->(v.hF h t).s=1\/(v.hF h t).s=2)
  (hk:v.sA t=4->∀ h,isH h->0<v.want t h->(v.hF h t).s=2) (hf:v.sA t=5->v.sF t≠0/\∀ h,isH h->0<v.want t h->(v.hF h t).s=3)
  (ho:∀ u,isT u->u≠t->TripFit v u):Inv (v.decide t)/\(v.kind t>0->aH ⟨v.kind t,t,[]⟩=true/\cG v.A ⟨v.kind t,t,[]⟩=true):=by
 have done:∀ k,(k=5\/k=6\/k=7)->v.kind t=k->cG v.A ⟨k,t,[]⟩=true->TripFit {v with A:=cM v.A ⟨k,t,[]⟩} t->Inv (v.decide t)/\(v.kind t>0->aH ⟨v.kind t,t,[]⟩=true/\cG v.A ⟨v.kind t,t,[]⟩=true):=by
  intro k hk3 ek hm hfit
  have hr:=AV hk3 ht
  refine⟨?_,fun _=>by rw[ek];exact⟨hr,hm⟩⟩
  unfold V.decide
  rw[if_pos (by omega),ek]
  exact⟨I.write hr hm,fun u hu=>if e:u=t then e ▸ hfit else(ho u hu e).other hr hm hu e⟩
 by_cases c1:v.sA t=1/\bl v.td t 5 1 (tAt v.A t).m=true
 ·have:=I.no_fit ht c1.1
  exact done 6 (by omega) (by unfold V.kind;rw[if_pos c1]) this.1 this.2
 by_cases c2:v.sA t=1/\aD v.td t 4 1 (tAt v.A t).m=true
 ·have:=I.yes_fit ht c2.1 c2.2
  exact done 5 (by omega) (by unfold V.kind;rw[if_neg c1,if_pos c2]) this.1 this.2
 by_cases c3:v.sA t=2/\(t<=v.F.length/\v.sF t=v.sA t)/\aD v.td t 6 1 (tAt v.A t).m=true
 ·have:=I.end_fit ht (.inl ⟨c3.1,c3.2.2⟩)
  exact done 7 (by omega) (by unfold V.kind;rw[if_neg c1,if_neg c2,if_pos c3]) this.1 this.2
 by_cases c4:v.sA t=3/\(t<=v.F.length/\v.sF t=v.sA t)/\aD v.td t 7 1 (tAt v.A t).m=true
 ·have:=I.end_fit ht (.inr ⟨c4.1,c4.2.2⟩)
  exact done 7 (by omega) (by unfold V.kind;rw[if_neg c1,if_neg c2,if_neg c3,if_pos c4]) this.1 this.2
 have k0:v.kind t=0:=by unfold V.kind;rw[if_neg c1,if_neg c2,if_neg c3,if_neg c4]
 refine⟨?_,fun h=>by omega⟩
 unfold V.decide
 rw[if_neg (by omega)]
 refine⟨I,fun u hu=>if e:u=t then e ▸ ⟨hy,hk,hf,fun h=>?_,fun h=>?_,fun h=>?_⟩ else ho u hu e⟩
 ·constructor
  ·cases e:bl v.td t 5 1 (tAt v.A t).m with
   | false=>rfl
   | true=>exact absurd ⟨h,e⟩ c1
  ·cases e:aD v.td t 4 1 (tAt v.A t).m with
   | false=>rfl
   | true=>exact absurd ⟨h,e⟩ c2
 ·cases e:aD v.td t 6 1 (tAt v.A t).m with
  | false=>rfl
  | true =>
   exfalso
   obtain⟨h1,_,h6,_⟩:=I.all_told ht (by omega) e
   have h2:=(h6 rfl).1
   have h3:=I.FA_s ht.1 h1
   have h4:=cr h1
   have:=ht.1
   exact c3 ⟨h,⟨by omega,by omega⟩,e⟩
 ·cases e:aD v.td t 7 1 (tAt v.A t).m with
  | false=>rfl
  | true =>
   exfalso
   obtain⟨h1,_,_,h7⟩:=I.all_told ht (by omega) e
   have h2:=(h7 rfl).1
   have h3:=I.FA_s ht.1 h1
   have h4:=cr h1
   have:=ht.1
   exact c4 ⟨h,⟨by omega,by omega⟩,e⟩
theorem Inv.hear(I:Inv v){x:Word}(hx:WdOk x)(h4:4<=x.k)(hn:NetOk v x){td:List Word}(htd:td=v.td\/td=v.td++[x]) :
  Inv (V.decide {v with td:=td} x.t)/\(V.kind {v with td:=td} x.t>0->aH ⟨V.kind {v with td:=td} x.t,x.t,[]⟩=true/\cG v.A ⟨V.kind {v with td:=td} x.t,x.t,[]⟩=true):=by
 have mem:∀ y∈td,y∈v.td\/y=x:=fun y hy=>by
  rcases htd with e|e
  ·rw[e]at hy;exact .inl hy
  ·rw[e]at hy;simpa using hy
 have sub:∀ y∈v.td,y∈td:=fun y hy=>by
  rcases htd with e|e<;>rw[e]<;>simp[hy]
 have I1:Base {v with td:=td}:=⟨I.pre,I.trA,I.hle,I.okA,I.okF,fun y hy=>(mem y hy).elim (I.tdo y) (fun e=>e ▸ ⟨hx,h4⟩),I.nso,fun y hy=>NetOk.congr (v:=v) rfl rfl (I.net y hy),
  fun y hy=>NetOk.congr (v:=v) rfl rfl ((mem y hy).elim (I.told y) (fun e=>e ▸ hn)),fun h t hh ht hs=>HoldFit.congr (v:=v) rfl rfl (I.hold h t hh ht hs)⟩
 have ht:isT x.t:=hx.t
 have hl:x.t<=v.A.length:=by have:=cr hn.s;have:=I.pre.len;have:=ht.1;omega
 have old:=I.trip x.t ht
 refine I1.decide ht hl (fun h=>old.yes h) (fun h=>old.kept h) (fun h=>old.left h) fun u hu e=>?_
 refine TripFit.congr (v:=v) rfl rfl (fun _ _=>rfl) (fun k h=>⟨fun hm=>?_,fun hm=>sub _ hm⟩) (I.trip u hu)
 rcases mem _ hm with h1|h1
 ·exact h1
 ·exact absurd (congrArg Word.t h1) e
end
end Dx
namespace Dx
section
variable {v v':V}
theorem HoldFit.fwd(g:Fwd v v'){h t:Int}(ht:isT t)(hA:v'.hA h t=v.hA h t)(f:HoldFit v h t):HoldFit v' h t:=by
 obtain⟨f1,f2,f3,f4⟩:=g.sF ht.1 f.s
 exact⟨f1,by rw[f4];exact f.w,by rw[f4,hA];exact f.m,by rw[f4,hA];exact f.m3,by rw[hA];exact fun e=>f2 (f.c e),by rw[hA];exact fun e=>f3 (f.u e)⟩
theorem TripFit.fwd(I:Inv v)(g:Fwd v v')(hA:v'.A=v.A)(htd:v'.td=v.td)(hle':∀ h t,isH h->isT t->hle (v'.hF h t) (v.hA h t))(ok':∀ h t,isH h->isT t->bi (v'.hF h t)=true){t:Int}(ht:isT t):TripFit v' t:=by
 have f:=I.trip t ht
 have e3:v'.sA t=v.sA t:=by unfold V.sA;rw[hA]
 refine⟨fun h=>?_,fun h x hx hw=>?_,fun h=>?_,fun h=>?_,fun h=>?_,fun h=>?_⟩
 ·rw[e3]at h
  obtain⟨k1,k2⟩:=f.yes h
  obtain⟨f1,_,_,f4⟩:=g.sF ht.1 k1
  refine⟨f1,fun x hx hw=>?_⟩
  have h1:=k2 x hx (by rwa [f4]at hw)
  have h2:=g.h x t hx ht
  have h3:=hle' x t hx ht
  have h4:=(I.toBase.not_undone ht hx (by omega)).1
  unfold hle at h2 h3
  omega
 ·rw[e3]at h
  obtain⟨k1,_⟩:=f.yes (.inr h)
  obtain⟨f1,_,_,f4⟩:=g.sF ht.1 k1
  have h1:=f.kept h x hx (by rwa [f4]at hw)
  have h2:=g.h x t hx ht
  unfold hle at h2
  omega
 ·rw[e3]at h
  obtain⟨k1,k2⟩:=f.left h
  obtain⟨f1,_,_,f4⟩:=g.sF ht.1 k1
  refine⟨f1,fun x hx hw=>?_⟩
  have h1:=k2 x hx (by rwa [f4]at hw)
  have h2:=g.h x t hx ht
  unfold hle at h2
  omega
 ·rw[hA,htd];exact f.d1 (by rwa [e3]at h)
 ·rw[hA,htd];exact f.d2 (by rwa [e3]at h)
 ·rw[hA,htd];exact f.d3 (by rwa [e3]at h)
theorem Inv.fwd(I:Inv v)(g:Fwd v v')(hA:v'.A=v.A)(htd:v'.td=v.td)(hns:v'.ns=v.ns)(hhA:∀ h t,isH h->isT t->v'.hA h t=v.hA h t)(pre:tpre v'.F v.A)
  (hle':∀ h t,isH h->isT t->hle (v'.hF h t) (v.hA h t)) (ok':∀ h t,isH h->isT t->bi (v'.hF h t)=true):Inv v' :=
 ⟨⟨by rw[hA];exact pre,by rw[hA];exact I.trA,fun h t hh ht=>by rw[hhA h t hh ht];exact hle' h t hh ht,fun h t hh ht=>by rw[hhA h t hh ht];exact I.okA h t hh ht,ok',by rw[htd];exact I.tdo,by rw[hns];exact I.nso,
  by rw[hns];exact fun x hx=>(I.net x hx).fwd g (I.nso x hx),by rw[htd];exact fun x hx=>(I.told x hx).fwd g (I.tdo x hx).1,fun h t hh ht hs=>by
   rw[hhA h t hh ht]at hs
   exact(I.hold h t hh ht hs).fwd g ht (hhA h t hh ht)⟩,fun t ht=>TripFit.fwd I g hA htd hle' ok' ht⟩
theorem Inv.dfall(I:Inv v){B:List Trip}(h1:tpre v.F B)(h2:tpre B v.A)(hB:TrOk B):Inv {v with F:=B,A:=B,td:=[]}:=by
 have g:Fwd v {v with F:=B,A:=B,td:=[]}:=⟨h1,fun _ _ _ _=>hle.rfl' _⟩
 refine⟨⟨tpre.rfl' _,hB,I.hle,I.okA,I.okF,by simp,I.nso,fun x hx=>(I.net x hx).fwd g (I.nso x hx),by simp,fun h t hh ht hs=>(I.hold h t hh ht hs).fwd g ht rfl⟩,fun t ht=>?_⟩
 have f:=I.trip t ht
 have hBA:(tAt B t).s≠0->tle (tAt B t) (tAt v.A t):=fun h=>h2.le t ht.1 (by have:=cr h;have:=ht.1;omega)
 have none:∀ k,(tAt B t).s≠0->aD [] t k 1 (tAt B t).m=false:=fun k h=>by
  have hm:di (tAt B t).m=true:=(tripOk_iff.1 (hB.ok _ (gx (cr h)))).1
  cases e:aD [] t k 1 (tAt B t).m with
  | false=>rfl
  | true =>
   obtain⟨x,hx,hw⟩:=i5 hm
   exact absurd ((fG (bP hm)).1 e x hx hw) (by simp)
 have want:v.sF t≠0->∀ x,V.want {v with F:=B,A:=B,td:=[]} t x=v.want t x:=fun h=>(g.sF ht.1 h).2.2.2
 refine⟨fun h=>?_,fun h x hx hw=>?_,fun h=>?_,fun h=>?_,fun h=>?_,fun h=>?_⟩
 ·have hs:(tAt B t).s=2\/(tAt B t).s=4:=h
  have:=(hBA (by omega)).2
  obtain⟨k1,k2⟩:=f.yes (by unfold V.sA;omega)
  exact⟨by show (tAt B t).s≠0;omega,fun x hx hw=>k2 x hx (by rwa [want k1]at hw)⟩
 ·have hs:(tAt B t).s=4:=h
  have:=(hBA (by omega)).2
  have h4:v.sA t=4:=by unfold V.sA;omega
  exact f.kept h4 x hx (by rwa [want (f.yes (.inr h4)).1]at hw)
 ·have hs:(tAt B t).s=5:=h
  have:=(hBA (by omega)).2
  have h5:v.sA t=5:=by unfold V.sA;omega
  obtain⟨k1,k2⟩:=f.left h5
  exact⟨by show (tAt B t).s≠0;omega,fun x hx hw=>k2 x hx (by rwa [want k1]at hw)⟩
 ·have hs:(tAt B t).s=1:=h
  refine⟨?_,none 4 (by omega)⟩
  cases e:bl [] t 5 1 (tAt B t).m with
  | false=>rfl
  | true =>
   obtain⟨j,n,_,_,hx⟩:=toldAny_iff.1 e
   exact absurd hx (by simp)
 ·have hs:(tAt B t).s=2:=h
  exact none 6 (by omega)
 ·have hs:(tAt B t).s=3:=h
  exact none 7 (by omega)
theorem Inv.nets(I:Inv v){ns:List Word}(h:∀ x∈ns,WdOk x/\NetOk v x):Inv {v with ns:=ns} :=
 ⟨⟨I.pre,I.trA,I.hle,I.okA,I.okF,I.tdo,fun x hx=>(h x hx).1,fun x hx=>NetOk.congr (v:=v) rfl rfl (h x hx).2,fun x hx=>NetOk.congr (v:=v) rfl rfl (I.told x hx),fun a t hh ht hs=>HoldFit.congr (v:=v) rfl rfl (I.hold a t hh ht hs)⟩,
  fun t ht=>TripFit.congr (v:=v) rfl rfl (fun _ _=>rfl) (fun _ _=>Iff.rfl) (I.trip t ht)⟩
theorem Inv.hwrite(I:Inv v)(hF:v'.F=v.F)(hA:v'.A=v.A)(htd:v'.td=v.td)(hns:v'.ns=v.ns)(hhF:∀ h t,isH h->isT t->v'.hF h t=v.hF h t)(hhle:∀ h t,isH h->isT t->hle (v.hF h t) (v'.hA h t))
  (ok':∀ h t,isH h->isT t->bi (v'.hA h t)=true) (hold:∀ h t,isH h->isT t->(v'.hA h t).s≠0->HoldFit v' h t):Inv v' :=
 ⟨⟨by rw[hF,hA];exact I.pre,by rw[hA];exact I.trA,fun h t hh ht=>by rw[hhF h t hh ht];exact hhle h t hh ht,ok',fun h t hh ht=>by rw[hhF h t hh ht];exact I.okF h t hh ht,by rw[htd];exact I.tdo,by rw[hns];exact I.nso,
  by rw[hns];exact fun x hx=>NetOk.congr (v:=v) (by rw[hF]) (hhF _ _ (I.nso x hx).h (I.nso x hx).t) (I.net x hx),by rw[htd];exact fun x hx=>NetOk.congr (v:=v) (by rw[hF]) (hhF _ _ (I.tdo x hx).1.h (I.tdo x hx).1.t) (I.told x hx),hold⟩,
  fun t ht=>TripFit.congr (v:=v) (by rw[hA]) (by rw[hF]) (fun h hh=>hhF h t hh ht) (fun _ _=>by rw[htd]) (I.trip t ht)⟩
theorem Inv.hfall(I:Inv v)(hF:v'.F=v.F)(hA:v'.A=v.A)(htd:v'.td=v.td)(hns:v'.ns=v.ns)(h1:∀ h t,isH h->isT t->hle (v.hF h t) (v'.hF h t))(h2:∀ h t,isH h->isT t->hle (v'.hA h t) (v.hA h t))
  (h3:∀ h t,isH h->isT t->hle (v'.hF h t) (v'.hA h t)) (okA:∀ h t,isH h->isT t->bi (v'.hA h t)=true) (okF:∀ h t,isH h->isT t->bi (v'.hF h t)=true):Inv v':=by
 have g:Fwd v v':=⟨by rw[hF];exact tpre.rfl' _,h1⟩
 have hsF:∀ t,v'.sF t=v.sF t:=fun t=>by unfold V.sF;rw[hF]
 have hw:∀ t h,v'.want t h=v.want t h:=fun t h=>by unfold V.want;rw[hF]
 refine⟨⟨by rw[hF,hA];exact I.pre,by rw[hA];exact I.trA,h3,okA,okF,by rw[htd];exact I.tdo,by rw[hns];exact I.nso,by rw[hns];exact fun x hx=>(I.net x hx).fwd g (I.nso x hx),by rw[htd];exact fun x hx=>(I.told x hx).fwd g (I.tdo x hx).1,fun h t hh ht hs=>?_⟩,
  fun t ht=>TripFit.fwd I g hA htd (fun h t hh ht=>(h3 h t hh ht).trans (h2 h t hh ht)) okF ht⟩
 have k:=h2 h t hh ht
 have ok:=okA h t hh ht
 have f:=I.hold h t hh ht (by unfold hle at k;omega)
 have hm1:(v'.hA h t).s=1->1<=(v'.hA h t).m:=fun e=>by
  have:=ok
  unfold bi at this
  rw[if_neg (by omega),if_pos (.inl e),in_iff]at this
  exact this.1
 have fm:=f.m
 have fm3:=f.m3
 have fc:=f.c
 have fu:=f.u
 unfold hle at k
 refine⟨by rw[hsF];exact f.s,by rw[hw];exact f.w,fun e=>?_,fun e=>?_,fun e=>?_,fun e=>?_⟩
 ·rw[hw]
  have hwp:=f.w
  rcases k with k|⟨k1,k2⟩
  ·exact absurd k hs
  ·by_cases e3:(v.hA h t).s=3
   ·have:=fm3 e3
    have:=hm1 (by omega)
    omega
   ·have:=fm e3;omega
 ·rw[hw]
  rcases k with k|⟨k1,k2⟩
  ·exact absurd k hs
  ·have:=fm3 (by omega);omega
 ·rw[hsF];exact fc (by omega)
 ·rw[hsF];exact fu (by omega)
end
end Dx
namespace Dx
theorem G9{h:House}(ho:HsOk h){t:Int}(ht:1<=t):hle (hAt (al h true).hs t) (hAt (al h false).hs t):=by
 have e:=ho.stock false
 simp only[aW,Bool.false_eq_true,if_false]at e
 obtain⟨s1,e1,e2⟩:=dX e h.lg.f.toNat
 have e3:=ho.stock true
 simp only[aW,if_true]at e3
 rw[e3]at e1;simp only[Option.some.injEq]at e1;subst e1
 exact jr (ho.stOk true) e2 ht
theorem qM{h:House}(ho:HsOk h)(b:Bool){t:Int}(ht:isT t):bi (hAt (al h b).hs t)=true:=by
 have s:=ho.stOk b
 refine s.hold _ (tX ?_)
 rw[s.len];have:=ht.1;have:=ht.2;omega
theorem vv{d:Desk}(h:DkOk d):tpre (aj d true) (aj d false):=by
 obtain⟨l1,e,e2,_⟩:=dj h.tr d.lg.f.toNat
 have:=h.trips true
 simp only[aW,if_true]at this
 rw[this]at e;simp only[Option.some.injEq]at e;subst e
 exact js e2
theorem oF{l:Log}(h:LgOk l)(h40:l.rs.length<40)(r:Rec):aW (dW l r) true=aW l true/\aW (dW l r) false=aW l false++[r]:=by
 rw[G8 h40]
 have h1:=h.hi
 have h2:=h.lo
 refine⟨?_,rfl⟩
 simp only[aW,if_true]
 rw[List.take_append_of_le_length (by omega)]
theorem lq{d:Desk}(h:DkOk d){r:Rec}(hr:aH r=true)(hc:d.up=true/\cG (aj d false) r=true) :
  bh d r={d with lg:=dW d.lg r}/\aj (bh d r) true=aj d true/\aj (bh d r) false=cM (aj d false) r:=by
 have e:bh d r={d with lg:=dW d.lg r}:=by simp[bh,hc.1,hc.2]
 have hl:=h.len18
 obtain⟨k1,k2⟩:=oF h.lg (by omega) r
 refine⟨e,?_,?_⟩
 ·rw[e];unfold aj aF;simp only;rw[k1]
 ·rw[e];unfold aj aF;simp only;rw[k2]
  have:=kQ h.tr hr hc.2
  simp only[aW,Bool.false_eq_true,if_false,this];rfl
theorem mg{d:Desk}{r:Rec}(hc:¬ (d.up=true/\cG (aj d false) r=true)):bh d r=d:=by
 simp only[bh,Bool.and_eq_true];rw[if_neg hc]
theorem lr{h:House}(ho:HsOk h){r:Rec}(hr:aH r=true)(hm:may (al h false) r=true) :
  al {h with lg:=dW h.lg r} true=al h true/\al {h with lg:=dW h.lg r} false=act (al h false) r:=by
 have hl:=ho.len
 obtain⟨k1,k2⟩:=oF ho.lg (by omega) r
 refine⟨?_,?_⟩
 ·unfold al;simp only;rw[k1]
 ·unfold al;simp only;rw[k2]
  have e:=ho.stock false
  have:=kP e hr hm
  rw[this];rfl
theorem hs_force{h:House}:(h.up=true->al (bU h) true=al h false)/\al (bU h) false=al h false:=by
 unfold bU
 refine⟨fun hu=>?_,by split<;>rfl⟩
 rw[if_pos hu]
 unfold al gp aW
 simp
theorem Ha{h:House}(ho:HsOk h)(keep:Int):al (hfall h keep) true=al (hfall h keep) false/\(∀ {t:Int},1<=t->hle (hAt (al h true).hs t) (hAt (al (hfall h keep) true).hs t)/\hle (hAt (al (hfall h keep) true).hs t) (hAt (al h false).hs t)):=by
 have hk:=ho.lg.keep keep
 have h0:=ho.lg.lo
 have e:al (hfall h keep) true=al (hfall h keep) false:=by
  unfold al hfall gF aW
  simp only[if_true,Bool.false_eq_true,if_false]
  rw[List.take_take,Nat.min_self]
 refine⟨e,fun {t} ht=>?_⟩
 have s1:=ho.stock true
 have s2:=ho.stock false
 have s3:=(ho.fall keep).stock false
 simp only[aW,if_true,Bool.false_eq_true,if_false,hfall,gF]at s1 s2 s3
 have e3:al (hfall h keep) false=al ⟨h.id,false,h.room,⟨h.lg.rs.take (fM h.lg keep).toNat,fM h.lg keep⟩⟩ false:=rfl
 rw[e,e3]
 constructor
 ·obtain⟨s4,e4,e5⟩:=dX s3 h.lg.f.toNat
  rw[List.take_take,Nat.min_eq_left (by omega),s1]at e4
  simp only[Option.some.injEq]at e4;subst e4
  exact jr (ho.stOk true) e5 ht
 ·obtain⟨s4,e4,e5⟩:=dX s2 (fM h.lg keep).toNat
  rw[s3]at e4
  simp only[Option.some.injEq]at e4;subst e4
  exact jr ((ho.fall keep).stOk false) e5 ht
theorem dk_force{d:Desk}:(d.up=true->aj (bq d) true=aj d false)/\aj (bq d) false=aj d false:=by
 unfold bq
 refine⟨fun hu=>?_,by split<;>rfl⟩
 rw[if_pos hu]
 unfold aj aF gp aW
 simp
theorem Hb{d:Desk}(h:DkOk d)(keep:Int):aj (dfall d keep) true=aj (dfall d keep) false/\tpre (aj d true) (aj (dfall d keep) true)/\tpre (aj (dfall d keep) true) (aj d false):=by
 have hk:=h.lg.keep keep
 have h0:=h.lg.lo
 have e:aj (dfall d keep) true=aj (dfall d keep) false:=by
  unfold aj aF dfall gF aW
  simp only[if_true,Bool.false_eq_true,if_false]
  rw[List.take_take,Nat.min_self]
 refine⟨e,?_⟩
 have s1:=h.trips true
 have s2:=h.trips false
 have s3:=(h.fall keep).trips false
 simp only[aW,if_true,Bool.false_eq_true,if_false,dfall,gF]at s1 s2 s3
 have e3:aj (dfall d keep) false=aj ⟨false,⟨d.lg.rs.take (fM d.lg keep).toNat,fM d.lg keep⟩,[]⟩ false:=rfl
 rw[e,e3]
 constructor
 ·obtain⟨s4,e4,e5,_⟩:=dj s3 d.lg.f.toNat
  rw[List.take_take,Nat.min_eq_left (by omega),s1]at e4
  simp only[Option.some.injEq]at e4;subst e4
  exact js e5
 ·obtain⟨s4,e4,e5,_⟩:=dj s2 (fM d.lg keep).toNat
  rw[s3]at e4
  simp only[Option.some.injEq]at e4;subst e4
  exact js e5
def vw(w:Wd):V:=⟨aj w.dk true,aj w.dk false,w.dk.td,w.ns,fun h t=>hAt (al (houseAt w h) true).hs t,fun h t=>hAt (al (houseAt w h) false).hs t⟩
theorem wc{w:Wd}(ho:WOk w){i j:Int}(hi:isH i)(hj:isH j)(x:House):houseAt (setHouse w i x) j=if j=i then x else houseAt w j:=by
 have hl:=ho.len
 obtain⟨h1,h2⟩:=hi
 obtain⟨h3,h4⟩:=hj
 unfold Dx.houseAt setHouse
 simp only[List.getElem?_set]
 by_cases e:j=i
 ·subst e;simp;rw[if_pos (by omega)];rfl
 ·rw[if_neg (by omega),if_neg e]
section
variable {w:Wd}
theorem oG{d:Desk}:vw {w with dk:=d}={vw w with F:=aj d true,A:=aj d false,td:=d.td}:=rfl
theorem sn(ho:WOk w)(I:Inv (vw w)){r:Rec}(hr:aH r=true)(h:cG (aj w.dk false) r=true->Inv {vw w with A:=cM (vw w).A r}):Inv (vw {w with dk:=bh w.dk r}):=by
 by_cases hc:w.dk.up=true/\cG (aj w.dk false) r=true
 ·obtain⟨e1,e2,e3⟩:=lq ho.dk hr hc
  have:vw {w with dk:=bh w.dk r}={vw w with A:=cM (vw w).A r}:=by
   rw[oG,e2,e3,(fF _ _).1];rfl
  rw[this];exact h hc.2
 ·rw[mg hc];exact I
theorem CD(ho:WOk w)(I:Inv (vw w))(m:List Int):Inv (vw {w with dk:=gT w.dk m}):=by
 unfold gT
 split
 ·rename_i hr
  exact sn ho I hr fun hm=>I.begin hr hm rfl
 ·exact I
theorem Ec(ho:WOk w)(I:Inv (vw w))(t:Int):Inv (vw {w with dk:=ln w.dk t}):=by
 unfold ln
 split
 ·rename_i ht
  have ht:=in_iff.1 ht
  refine sn ho I (AV (k:=6) (by omega) ht) fun hm=>?_
  have hs:(vw w).sA t=1:=by
   simp only[cG]at hm
   split at hm
   ·omega
   ·split at hm
    ·cases hm
    ·show (tAt (aj w.dk false) t).s=1;simpa using hm
  exact I.no ht hs
 ·exact I
theorem CE(ho:WOk w)(I:Inv (vw w)){x:Word}(hn:NetOk (vw w) x):Inv (vw {w with dk:=dU w.dk x}):=by
 unfold dU
 split
 case isFalse=>exact I
 rename_i hc
 have hd1:=ho.dk.tell hc
 simp only[c7,Bool.and_eq_true,decide_eq_true_eq,wordOk_iff]at hc
 obtain⟨hup,hx,h4,_⟩:=hc
 obtain⟨t1,t2⟩:=gU w.dk x
 have htd:(b9 w.dk x).td=(vw w).td\/(b9 w.dk x).td=(vw w).td++[x]:=by
  unfold b9;split
  ·exact .inl rfl
  ·exact .inr rfl
 have key:=I.hear hx h4 hn htd
 have e1:vw {w with dk:=b9 w.dk x}={vw w with td:=(b9 w.dk x).td}:=by
  rw[oG];unfold aj;rw[t2];rfl
 have ek:gG (b9 w.dk x) x.t=V.kind {vw w with td:=(b9 w.dk x).td} x.t:=by
  unfold gG V.kind nD aj V.sA V.sF
  rw[t2]
  simp only[vw,aj,Bool.and_eq_true,decide_eq_true_eq,beq_iff_eq]
  rfl
 unfold dA
 rw[ek]
 unfold V.decide at key
 split
 ·rename_i hk
  rw[if_pos hk]at key
  obtain⟨k1,k2⟩:=key
  obtain⟨k3,k4⟩:=k2 hk
  have hcc:(b9 w.dk x).up=true/\cG (aj (b9 w.dk x) false) ⟨V.kind {vw w with td:=(b9 w.dk x).td} x.t,x.t,[]⟩=true:=by
   refine⟨by rw[t1];exact hup,?_⟩
   unfold aj;rw[t2];exact k4
  obtain⟨w1,w2,w3⟩:=lq hd1 k3 hcc
  rw[oG,w2,w3,(fF _ _).1]
  have e2:aj (b9 w.dk x) true=aj w.dk true:=by unfold aj;rw[t2]
  have e3:aj (b9 w.dk x) false=aj w.dk false:=by unfold aj;rw[t2]
  rw[e2,e3]
  exact k1
 ·rename_i hk
  rw[if_neg hk]at key
  rw[e1];exact key.1
theorem zg(ho:WOk w)(I:Inv (vw w)):Inv (vw {w with dk:=bq w.dk}):=by
 obtain⟨e1,e2⟩:=dk_force (d:=w.dk)
 have e3:(bq w.dk).td=w.dk.td:=by unfold bq;split<;>rfl
 by_cases hu:w.dk.up=true
 ·refine I.fwd (v':=vw {w with dk:=bq w.dk}) ⟨?_,fun _ _ _ _=>hle.rfl' _⟩ e2 e3 rfl (fun _ _ _ _=>rfl) ?_ I.hle I.okF
  ·show tpre (aj w.dk true) (aj (bq w.dk) true)
   rw[e1 hu];exact vv ho.dk
  ·show tpre (aj (bq w.dk) true) (aj w.dk false)
   rw[e1 hu];exact tpre.rfl' _
 ·have:bq w.dk=w.dk:=by unfold bq;rw[if_neg hu]
  rw[this];exact I
theorem CF(ho:WOk w)(I:Inv (vw w))(keep:Int):Inv (vw {w with dk:=dfall w.dk keep}):=by
 obtain⟨e1,e2,e3⟩:=Hb ho.dk keep
 have:=I.dfall e2 e3 ((ho.dk.fall keep).trOk true)
 rw[oG,<-e1];exact this
theorem CG(I:Inv (vw w)):Inv (vw {w with dk:=ev w.dk}):=I
theorem dB(ho:WOk w){i:Int}(hi:isH i)(x:House){h t:Int}(hh:isH h) :
  (vw (setHouse w i x)).hF h t=(if h=i then hAt (al x true).hs t else(vw w).hF h t)/\(vw (setHouse w i x)).hA h t=(if h=i then hAt (al x false).hs t else(vw w).hA h t):=by
 simp only[vw,wc ho hi hh x]
 constructor<;>split<;>rfl
theorem zh(ho:WOk w)(I:Inv (vw w)){i:Int}(hi:isH i):Inv (vw (setHouse w i (bU (houseAt w i)))):=by
 obtain⟨_,hho,_⟩:=ho.houseAt hi
 obtain⟨e1,e2⟩:=hs_force (h:=houseAt w i)
 have hF:∀ h t,isH h->(vw (setHouse w i (bU (houseAt w i)))).hF h t=(vw w).hF h t\/(vw (setHouse w i (bU (houseAt w i)))).hF h t=(vw w).hA h t:=fun h t hh=>by
  rw[(dB ho hi _ hh).1]
  by_cases e:h=i
  ·subst e
   rw[if_pos rfl]
   by_cases hu:(houseAt w h).up=true
   ·rw[e1 hu];exact .inr rfl
   ·have:bU (houseAt w h)=houseAt w h:=by unfold bU;rw[if_neg hu]
    rw[this];exact .inl rfl
  ·rw[if_neg e];exact .inl rfl
 refine I.fwd ⟨tpre.rfl' _,fun h t hh ht=>?_⟩ rfl rfl rfl (fun h t hh ht=>?_) I.pre (fun h t hh ht=>?_) (fun h t hh ht=>?_)
 ·rcases hF h t hh with e|e<;>rw[e]
  ·exact hle.rfl' _
  ·exact I.hle h t hh ht
 ·rw[(dB ho hi _ hh).2,e2]
  split
  ·rename_i e;subst e;rfl
  ·rfl
 ·rcases hF h t hh with e|e<;>rw[e]
  ·exact I.hle h t hh ht
  ·exact hle.rfl' _
 ·rcases hF h t hh with e|e<;>rw[e]
  ·exact I.okF h t hh ht
  ·exact I.okA h t hh ht
theorem CH(ho:WOk w)(I:Inv (vw w)){i:Int}(hi:isH i)(keep:Int):Inv (vw (setHouse w i (hfall (houseAt w i) keep))):=by
 obtain⟨_,hho,_⟩:=ho.houseAt hi
 obtain⟨e1,e2⟩:=Ha hho keep
 have hf:=hho.fall keep
 refine I.hfall rfl rfl rfl rfl (fun h t hh ht=>?_) (fun h t hh ht=>?_) (fun h t hh ht=>?_) (fun h t hh ht=>?_) (fun h t hh ht=>?_)
 ·rw[(dB ho hi _ hh).1]
  split
  ·rename_i e;subst e;exact(e2 ht.1).1
  ·exact hle.rfl' _
 ·rw[(dB ho hi _ hh).2,<-e1]
  split
  ·rename_i e;subst e;exact(e2 ht.1).2
  ·exact hle.rfl' _
 ·rw[(dB ho hi _ hh).1,(dB ho hi _ hh).2,<-e1]
  split
  ·exact hle.rfl' _
  ·exact I.hle h t hh ht
 ·rw[(dB ho hi _ hh).2]
  split
  ·exact qM hf false ht
  ·exact I.okA h t hh ht
 ·rw[(dB ho hi _ hh).1]
  split
  ·exact qM hf true ht
  ·exact I.okF h t hh ht
theorem CI(ho:WOk w)(I:Inv (vw w)){i:Int}(hi:isH i):Inv (vw (setHouse w i (fy (houseAt w i)))):=by
 refine I.hwrite rfl rfl rfl rfl (fun h t hh ht=>?_) (fun h t hh ht=>?_) (fun h t hh ht=>?_) (fun h t hh ht hs=>?_)
 ·rw[(dB ho hi _ hh).1];split
  ·rename_i e;subst e;rfl
  ·rfl
 all_goals
  have e:(vw (setHouse w i (fy (houseAt w i)))).hA h t=(vw w).hA h t:=by
   rw[(dB ho hi _ hh).2];split
   ·rename_i e;subst e;rfl
   ·rfl
 ·rw[e];exact I.hle h t hh ht
 ·rw[e];exact I.okA h t hh ht
 ·rw[e]at hs
  exact HoldFit.congr (v:=vw w) rfl e (I.hold h t hh ht hs)
theorem CJ(ho:WOk w)(I:Inv (vw w)){x:Word}(hx:WdOk x)(hn:NetOk (vw w) x) :
  Inv (vw (setHouse w x.h (cu (houseAt w x.h) x).1))/\∀ y,(cu (houseAt w x.h) x).2=some y->NetOk (vw (setHouse w x.h (cu (houseAt w x.h) x).1)) y:=by
 have hi:isH x.h:=hx.h
 obtain⟨_,hho,hid⟩:=ho.houseAt hi
 have same:setHouse w x.h (houseAt w x.h)=w:=by
  obtain⟨e,_,_⟩:=ho.houseAt hi
  have hl:=(List.getElem?_eq_some_iff.1 e).1
  have he:=(List.getElem?_eq_some_iff.1 e).2
  unfold setHouse
  rw[<-he,List.set_getElem_self]
 unfold cu
 split
 ·simp only[same];exact⟨I,by simp⟩
 rename_i hc
 simp only[Bool.or_eq_true,Bool.not_eq_true',decide_eq_true_eq,bne_iff_ne,not_or,Bool.not_eq_false]at hc
 have hk3:x.k<=3:=by omega
 split
 ·rename_i hm
  obtain⟨e1,e2⟩:=lr hho (cU hx) hm
  have hrt:=BC x
  have hl:=(hho.stOk false).len
  have hF:∀ h t,isH h->isT t->(vw (setHouse w x.h {houseAt w x.h with lg:=dW (houseAt w x.h).lg (bE x)})).hF h t=(vw w).hF h t:=fun h t hh ht=>by
   rw[(dB ho hi _ hh).1];split
   ·rename_i e;subst e;rw[e1];rfl
   ·rfl
  have hA:∀ h t,isH h->isT t->(vw (setHouse w x.h {houseAt w x.h with lg:=dW (houseAt w x.h).lg (bE x)})).hA h t=if h=x.h/\t=x.t then jc ((vw w).hA h t) (bE x) else(vw w).hA h t:=fun h t hh ht=>by
   rw[(dB ho hi _ hh).2]
   by_cases e:h=x.h
   ·subst e
    rw[if_pos rfl,e2,AU hl (cU hx) ht.1,hrt]
    by_cases et:t=x.t
    ·subst et;rw[if_pos rfl,if_pos ⟨rfl,rfl⟩];rfl
    ·rw[if_neg et,if_neg (fun h=>et h.2)];rfl
   ·rw[if_neg e,if_neg (fun h=>e h.1)]
  have hhle:∀ h t,isH h->isT t->hle ((vw w).hA h t) ((vw (setHouse w x.h {houseAt w x.h with lg:=dW (houseAt w x.h).lg (bE x)})).hA h t):=fun h t hh ht=>by
   rw[(dB ho hi _ hh).2]
   split
   ·rename_i e;subst e;rw[e2];exact tY hl (cU hx) hm ht.1
   ·exact hle.rfl' _
  refine⟨I.hwrite rfl rfl rfl rfl hF (fun h t hh ht=>(I.hle h t hh ht).trans (hhle h t hh ht)) (fun h t hh ht=>?_) (fun h t hh ht hs=>?_),by simp⟩
  ·have:=qM (hho.write (cU hx) hm) false ht
   rw[(dB ho hi _ hh).2];split
   ·exact this
   ·exact I.okA h t hh ht
  ·by_cases e:h=x.h/\t=x.t
   ·obtain⟨rfl,rfl⟩:=e
    have ea:=hA x.h x.t hh ht
    rw[if_pos ⟨rfl,rfl⟩]at ea
    refine⟨hn.s,hn.w,?_,?_,?_,?_⟩<;>rw[ea]
    all_goals
     have hst:(vw w).hA x.h x.t=hAt (al (houseAt w x.h) false).hs x.t:=rfl
     have hmay:=hm
     simp only[may,fv,hrt]at hmay
     rw[<-hst]at hmay
     have hok:=I.okA x.h x.t hh ht
     have hmm:∀ {v':V},v'.F=(vw w).F->V.want v' x.t x.h=(vw w).want x.t x.h:=fun e=>by unfold V.want;rw[e]
     have hss:∀ {v':V},v'.F=(vw w).F->V.sF v' x.t=(vw w).sF x.t:=fun e=>by unfold V.sF;rw[e]
     try rw[hmm rfl]
     try rw[hss rfl]
     have f:=fun h=>I.hold x.h x.t hh ht h
     have k1:=hn.k1
     have k2:=hn.k2
     have k3:=hn.k3
     unfold bE at hmay ⊢
     unfold jc
     have hk1:=hx.k.1
     have hzero:((vw w).hA x.h x.t).s=0->((vw w).hA x.h x.t).m=0:=fun e=>by
      unfold bi at hok;rw[if_pos e]at hok;simpa using hok
     by_cases h1:x.k=1
     ·simp[h1]at hmay ⊢
      try exact k1 h1
     ·by_cases h2:x.k=2
      ·simp[h2]at hmay ⊢
       try exact(f (by omega)).m (by omega)
       try exact k2 h2
      ·simp[h1,h2]at hmay ⊢
       first
        | exact k3 (by omega)
        | (by_cases h0:((vw w).hA x.h x.t).s=0
           ·exact .inr (hzero h0)
           ·exact .inl ((f h0).m (by omega)))
        | skip
   ·have ea:=hA h t hh ht
    rw[if_neg e]at ea
    rw[ea]at hs
    exact HoldFit.congr (v:=vw w) rfl ea (I.hold h t hh ht hs)
 ·split
  ·rename_i h1
   simp only[same]
   refine⟨I,fun y hy=>?_⟩
   simp only[Option.some.injEq]at hy;subst hy
   rw[hid]
   exact⟨hn.s,hn.w,by simp,by simp,by simp,by simp,by simp,by simp⟩
  ·simp only[same]
   refine⟨I,fun y hy=>?_⟩
   unfold answer at hy
   rw[hid]at hy
   have hst:fv (al (houseAt w x.h) true) x.t=((vw w).hF x.h x.t).s:=rfl
   rw[hst]at hy
   split at hy
   ·rename_i hh;simp only[Option.some.injEq]at hy;subst hy
    exact⟨hn.s,hn.w,by simp,by simp,by simp,fun _=>by simp only;omega,by simp,by simp⟩
   ·split at hy
    ·simp only[Option.some.injEq]at hy;subst hy
     exact⟨hn.s,hn.w,by simp,by simp,by simp,by simp,by simp,by simp⟩
    ·split at hy
     ·rename_i hh;simp only[Option.some.injEq]at hy;subst hy
      exact⟨hn.s,hn.w,by simp,by simp,by simp,by simp,fun _=>hh.2,by simp⟩
     ·split at hy
      ·rename_i hh;simp only[Option.some.injEq]at hy;subst hy
       exact⟨hn.s,hn.w,by simp,by simp,by simp,by simp,by simp,fun _=>hh.2⟩
      ·cases hy
end
end Dx
namespace Dx
variable {w:Wd}
theorem DG(w:Wd)(ns:List Word):vw {w with ns:=ns}={vw w with ns:=ns}:=rfl
theorem NetOk.ns{x:Word}{ns:List Word}(h:NetOk (vw w) x):NetOk (vw {w with ns:=ns}) x:=NetOk.congr (v:=vw w) rfl rfl h
theorem NetOk.ns'{x:Word}{ns:List Word}(h:NetOk (vw {w with ns:=ns}) x):NetOk (vw w) x:=NetOk.congr (v:=vw {w with ns:=ns}) rfl rfl h
theorem t6(I:Inv (vw w)){x:Word}(hx:WdOk x)(hn:NetOk (vw w) x):Inv (vw (oA w x)):=by
 unfold oA
 split
 ·rw[DG]
  refine I.nets fun y hy=>?_
  rcases List.mem_append.1 hy with hy|hy
  ·exact⟨I.nso y hy,I.net y hy⟩
  ·simp at hy;exact hy ▸ ⟨hx,hn⟩
 ·exact I
theorem wM(I:Inv (vw w))(i:Int):Inv (vw (iO w i)):=by
 unfold iO
 rw[DG]
 exact I.nets fun y hy=>⟨I.nso y (List.mem_of_mem_eraseIdx hy),I.net y (List.mem_of_mem_eraseIdx hy)⟩
theorem BD(ho:WOk w){x:Word}(hx:x∈aM w.dk):WdOk x/\NetOk (vw w) x:=by
 obtain⟨h1,h2,_,_,h5,n,h6,h7,h8⟩:=da ho.dk hx
 have hk:=h1.k.1
 have hs:(vw w).sF x.t=x.k:=h5
 have hl:=cr (l:=aj w.dk true) (t:=x.t) (by omega)
 have hm:=(tripOk_iff.1 ((ho.dk.trOk true).ok _ (gx hl))).1
 have hw:(vw w).want x.t x.h=n:=by
  unfold V.want mAt
  show ((tAt (aj w.dk true) x.t).m[(x.h-1).toNat]?).getD 0=n
  rw[h6];rfl
 have hn:=ip hm (List.mem_of_getElem? h6)
 refine⟨h1,by omega,by omega,fun e=>?_,fun e=>.inl (by omega),fun e=>.inl (by omega),fun e=>by omega,fun e=>by omega,fun e=>by omega⟩
 rw[hw]
 unfold gq at h8
 split at h8
 ·cases h8
 ·have h9:=congrArg Word.m (List.mem_singleton.1 h8)
  simp only[e,if_true]at h9
  exact h9
theorem mh(ho:WOk w)(I:Inv (vw w)){x:Word}(hx:WdOk x)(hn:NetOk (vw w) x):Inv (vw (bp w x).1)/\∀ y,(bp w x).2=some y->WdOk y/\NetOk (vw (bp w x).1) y:=by
 have hok:=ho.hear hx
 unfold bp at hok ⊢
 split
 ·exact⟨CE ho I hn,by simp⟩
 ·rename_i hk
  rw[if_neg hk]at hok
  have:=CJ ho I hx hn
  exact⟨this.1,fun y hy=>⟨(hok.2 y hy).1,this.2 y hy⟩⟩
theorem Ed(ho:WOk w)(I:Inv (vw w))(e:Ev):Inv (vw (nY w e)):=by
 unfold nY
 split
 ·exact I
 ·rename_i x hx
  have hx:x∈w.ns:=by
   split at hx
   ·exact List.mem_of_getElem? hx
   ·cases hx
  have hx1:=I.nso x hx
  have hx2:=I.net x hx
  split
  ·exact wM I _
  ·split
   ·exact t6 I hx1 hx2
   ·have k:=mh (ho.take e.a) (wM I e.a) hx1 (NetOk.ns (w:=w) hx2)
    cases hy:(bp (iO w e.a) x).2 with
    | none=>exact k.1
    | some y=>exact t6 k.1 (k.2 y hy).1 (k.2 y hy).2
theorem CL(ho:WOk w)(I:Inv (vw w))(e:Ev):Inv (vw (jZ w e)):=by
 unfold jZ
 split
 ·exact CD ho I _
 ·split
  ·exact Ec ho I _
  ·split
   ·split
    ·rename_i x hx
     split at hx
     ·have:=BD ho (List.mem_of_getElem? hx)
      exact t6 I this.1 this.2
     ·cases hx
    ·exact I
   ·exact I
theorem zi(ho:WOk w)(I:Inv (vw w))(i:Int):Inv (vw (cO w i)):=by
 unfold cO
 split
 ·exact zg ho I
 ·split
  ·rename_i h;exact zh ho I (in_iff.1 h)
  ·exact I
theorem CM(ho:WOk w)(I:Inv (vw w))(e:Ev):Inv (vw (cF w e)):=by
 unfold cF
 split
 case isFalse=>exact I
 rename_i ha
 have ha:=in_iff.1 ha
 split
 ·exact zi ho I _
 ·split
  ·split
   ·exact CF ho I _
   ·exact CH ho I ⟨by omega,by omega⟩ _
  ·split
   ·split
    ·exact CG I
    ·exact CI ho I ⟨by omega,by omega⟩
   ·exact I
theorem Hc(ho:WOk w)(I:Inv (vw w))(e:Ev):Inv (vw (wdo w e)):=by
 unfold wdo
 split
 ·exact CL ho I e
 ·split
  ·exact Ed ho I e
  ·split
   ·exact CM ho I e
   ·exact I
theorem wN(w:Wd)(ns:List Word)(x:Word):bp {w with ns:=ns} x=({(bp w x).1 with ns:=ns},(bp w x).2):=by unfold bp;split<;>rfl
theorem i6(w:Wd)(x:Word):(bp w x).1.ns=w.ns:=by unfold bp;split<;>rfl
theorem CN(w:Wd)(ns:List Word)(x:Word):bj {w with ns:=ns} x={bj w x with ns:=ns}:=by
 unfold bj
 rw[wN]
 dsimp only
 split
 ·rw[wN]
 ·rfl
theorem tI(w:Wd)(x:Word):(bj w x).ns=w.ns:=by
 unfold bj
 split
 ·rw[i6,i6]
 ·exact i6 w x
theorem oH(ho:WOk w)(I:Inv (vw w)){x:Word}(hx:WdOk x)(hn:NetOk (vw w) x):Inv (vw (bj w x)):=by
 have k:=mh ho I hx hn
 have h:=ho.hear hx
 unfold bj
 split
 ·rename_i y hy
  exact(mh h.1 k.1 (h.2 y hy).1 (k.2 y hy).2).1
 ·exact k.1
theorem Hd{d:Desk}(h:DkOk d)(x:Word):aj (dU d x) true=aj d true:=by
 unfold dU
 split
 case isFalse=>rfl
 rename_i hc
 have hd1:=h.tell hc
 simp only[c7,Bool.and_eq_true,decide_eq_true_eq,wordOk_iff]at hc
 have e:aj (b9 d x) true=aj d true:=by unfold aj;rw[(gU d x).2]
 unfold dA
 split
 ·rename_i hk
  have hr:=mf hc.2.1.t hk
  by_cases c:(b9 d x).up=true/\cG (aj (b9 d x) false) ⟨gG (b9 d x) x.t,x.t,[]⟩=true
  ·rw[(lq hd1 hr c).2.1,e]
  ·rw[mg c,e]
 ·exact e
theorem He{h:House}(ho:HsOk h){x:Word}(hx:WdOk x):al (cu h x).1 true=al h true:=by
 unfold cu
 split
 ·rfl
 ·split
  ·rename_i hm;exact(lr ho (cU hx) hm).1
  ·split<;>rfl
theorem t7(ho:WOk w){x:Word}(hx:WdOk x):(vw (bp w x).1).F=(vw w).F/\∀ h t,isH h->(vw (bp w x).1).hF h t=(vw w).hF h t:=by
 unfold bp
 split
 ·exact⟨Hd ho.dk x,fun _ _ _=>rfl⟩
 ·refine⟨rfl,fun h t hh=>?_⟩
  rw[(dB ho hx.h _ hh).1]
  split
  ·rename_i e;subst e
   rw[He (ho.houseAt hx.h).2.1 hx];rfl
  ·rfl
theorem Ee(ho:WOk w){x:Word}(hx:WdOk x):(vw (bj w x)).F=(vw w).F/\∀ h t,isH h->(vw (bj w x)).hF h t=(vw w).hF h t:=by
 have h1:=t7 ho hx
 have h:=ho.hear hx
 unfold bj
 split
 ·rename_i y hy
  have h2:=t7 h.1 (h.2 y hy).1
  exact⟨h2.1.trans h1.1,fun a t ha=>(h2.2 a t ha).trans (h1.2 a t ha)⟩
 ·exact h1
theorem iq:∀ {xs:List Word} {w:Wd},WOk w->Inv (vw w)->(∀ x∈xs,WdOk x/\NetOk (vw w) x)->Inv (vw (cE w xs))
 | [],_,_,I,_=>I
 | x::xs,w,ho,I,hx=>by
  have h0:=hx x (by simp)
  have hF:=Ee ho h0.1
  refine iq (xs:=xs) (ho.hear2 h0.1) (oH ho I h0.1 h0.2) fun y hy=>?_
  have h1:=hx y (by simp[hy])
  exact⟨h1.1,NetOk.congr (v:=vw w) (by rw[hF.1]) (hF.2 _ _ h1.1.h) h1.2⟩
theorem ga(w:Wd)(d:Desk)(ns:List Word)(f:House->House){i:Int}(ho:WOk w)(hi:isH i):houseAt ⟨d,w.hs.map f,ns⟩ i=f (houseAt w i):=by
 have hl:(i-1).toNat<w.hs.length:=by rw[ho.len];have:=hi.1;have:=hi.2;omega
 unfold houseAt
 simp only[List.getElem?_map,List.getElem?_eq_getElem hl,Option.map_some,Option.getD_some]
theorem mj(ho:WOk w)(I:Inv (vw w)):Inv (vw (cN w)):=by
 have e:∀ h,isH h->houseAt (cN w) h=fy (houseAt w h):=fun h hh=>ga w _ _ _ ho hh
 have eF:∀ h t,isH h->(vw (cN w)).hF h t=(vw w).hF h t:=fun h t hh=>by show hAt (al (houseAt (cN w) h) true).hs t=_;rw[e h hh];rfl
 have eA:∀ h t,isH h->(vw (cN w)).hA h t=(vw w).hA h t:=fun h t hh=>by show hAt (al (houseAt (cN w) h) false).hs t=_;rw[e h hh];rfl
 exact I.hwrite rfl rfl rfl rfl (fun h t hh _=>eF h t hh) (fun h t hh ht=>by rw[eA h t hh];exact I.hle h t hh ht) (fun h t hh ht=>by rw[eA h t hh];exact I.okA h t hh ht)
  (fun h t hh ht hs=>by rw[eA h t hh]at hs;exact HoldFit.congr (v:=vw w) rfl (eA h t hh) (I.hold h t hh ht hs))
theorem mM(ho:WOk w)(I:Inv (vw w)):Inv (vw (aX w)):=by
 have e:∀ h,isH h->houseAt (aX w) h=bU (houseAt w h):=fun h hh=>ga w _ _ _ ho hh
 have eA:∀ h t,isH h->(vw (aX w)).hA h t=(vw w).hA h t:=fun h t hh=>by
  show hAt (al (houseAt (aX w) h) false).hs t=_
  rw[e h hh,hs_force.2];rfl
 have eF:∀ h t,isH h->(vw (aX w)).hF h t=(vw w).hF h t\/(vw (aX w)).hF h t=(vw w).hA h t:=fun h t hh=>by
  show hAt (al (houseAt (aX w) h) true).hs t=_\/hAt (al (houseAt (aX w) h) true).hs t=_
  rw[e h hh]
  by_cases hu:(houseAt w h).up=true
  ·rw[hs_force.1 hu];exact .inr rfl
  ·have:bU (houseAt w h)=houseAt w h:=by unfold bU;rw[if_neg hu]
   rw[this];exact .inl rfl
 have dF:aj (bq w.dk) true=aj w.dk true\/aj (bq w.dk) true=aj w.dk false:=by
  by_cases hu:w.dk.up=true
  ·exact .inr (dk_force.1 hu)
  ·have:bq w.dk=w.dk:=by unfold bq;rw[if_neg hu]
   rw[this];exact .inl rfl
 have etd:(bq w.dk).td=w.dk.td:=by unfold bq;split<;>rfl
 refine I.fwd (v':=vw (aX w)) ⟨?_,fun h t hh ht=>?_⟩ dk_force.2 etd rfl (fun h t hh _=>eA h t hh) ?_ (fun h t hh ht=>?_) (fun h t hh ht=>?_)
 ·show tpre (aj w.dk true) (aj (bq w.dk) true)
  rcases dF with e|e<;>rw[e]
  ·exact tpre.rfl' _
  ·exact vv ho.dk
 ·rcases eF h t hh with e|e<;>rw[e]
  ·exact hle.rfl' _
  ·exact I.hle h t hh ht
 ·show tpre (aj (bq w.dk) true) (aj w.dk false)
  rcases dF with e|e<;>rw[e]
  ·exact vv ho.dk
  ·exact tpre.rfl' _
 ·rcases eF h t hh with e|e<;>rw[e]
  ·exact I.hle h t hh ht
  ·exact hle.rfl' _
 ·rcases eF h t hh with e|e<;>rw[e]
  ·exact I.okF h t hh ht
  ·exact I.okA h t hh ht
theorem lu(ho:WOk w):WOk (cN w):=ho.map ho.dk.rise fun _ hx=>⟨hx.rise,rfl⟩
theorem gc(ho:WOk w)(I:Inv (vw w)):∀ x∈w.ns++aM (ev w.dk),WdOk x/\NetOk (vw {cN w with ns:=[]}) x:=by
 intro x hx
 rcases List.mem_append.1 hx with hx|hx
 ·exact⟨I.nso x hx,NetOk.ns (w:=cN w) ((mj ho I).net x hx)⟩
 ·have:=BD (lu ho) (x:=x) hx
  exact⟨this.1,NetOk.ns (w:=cN w) this.2⟩
theorem zj(ho:WOk w)(I:Inv (vw w)):Inv (vw (aY w)):=by
 have h1:=lu ho
 have h2:WOk {cN w with ns:=[]}:=⟨h1.dk,h1.len,h1.hs,by simp,by simp⟩
 have I2:Inv (vw {cN w with ns:=[]}):=by rw[DG];exact(mj ho I).nets (by simp)
 have hx:=gc ho I
 exact mM (h2.hears fun x h=>(hx x h).1) (iq h2 I2 hx)
theorem CO(ho:WOk w)(I:Inv (vw w))(n:Nat):Inv (vw (cH w n)):=by
 induction n generalizing w with
 | zero=>exact I
 | succ n ih=>exact ih ho.round (zj ho I)
theorem Hf{rooms:List Int}{w:Wd}(h:bb rooms=some w):Inv (vw w):=by
 have ho:=eV h
 unfold bb at h
 split at h
 case isFalse=>cases h
 rename_i hc
 simp only[Option.some.injEq]at h
 have e0:∀ i,isH i->(houseAt w i).lg=⟨[],0⟩:=fun i hi=>by
  obtain⟨e,_,_⟩:=ho.houseAt hi
  have hh:w.hs=cT rooms:=by rw[<-h]
  rw[hh]at e
  simp only[cT,List.getElem?_map,Option.map_eq_some_iff]at e
  obtain⟨p,_,e⟩:=e
  rw[<-e]
 have hz:∀ i t b,isH i->isT t->hAt (al (houseAt w i) b).hs t=⟨0,0⟩:=fun i t b hi ht=>by
  have hs:=(ho.houseAt hi).2.1.stock b
  have:aW (houseAt w i).lg b=[]:=by rw[e0 i hi];cases b<;>rfl
  rw[this]at hs
  have:=(stockOf_some.1 hs).2
  simp only[bX,Option.some.injEq]at this
  rw[<-this]
  unfold hAt cq
  simp only[List.getElem?_replicate]
  split<;>rfl
 have dt:∀ b,aj w.dk b=[]:=fun b=>by rw[<-h];cases b<;>rfl
 have dtd:w.dk.td=[]:=by rw[<-h];rfl
 have dns:w.ns=[]:=by rw[<-h]
 have t0:∀ t,(tAt ([]:List Trip) t).s=0:=fun t=>by simp[tAt]
 have sA:∀ t,(vw w).sA t=0:=fun t=>by unfold V.sA;show (tAt (aj w.dk false) t).s=0;rw[dt];exact t0 t
 refine⟨⟨vv ho.dk,ho.dk.trOk false,fun i t hi ht=>G9 (ho.houseAt hi).2.1 ht.1,fun i t hi ht=>qM (ho.houseAt hi).2.1 false ht,fun i t hi ht=>qM (ho.houseAt hi).2.1 true ht,?_,?_,?_,?_,fun i t hi ht hs=>?_⟩,fun t ht=>?_⟩
 ·intro x hx;rw[show (vw w).td=[] from dtd]at hx;cases hx
 ·intro x hx;rw[show (vw w).ns=[] from dns]at hx;cases hx
 ·intro x hx;rw[show (vw w).ns=[] from dns]at hx;cases hx
 ·intro x hx;rw[show (vw w).td=[] from dtd]at hx;cases hx
 ·have:=hz i t false hi ht
  rw[show (vw w).hA i t=⟨0,0⟩ from this]at hs
  exact absurd rfl hs
 ·exact⟨fun h=>by rw[sA]at h;omega,fun h=>by rw[sA]at h;omega,fun h=>by rw[sA]at h;omega,fun h=>by rw[sA]at h;omega,fun h=>by rw[sA]at h;omega,fun h=>by rw[sA]at h;omega⟩
end Dx
namespace Dx
theorem kS:∀ {rs:List Rec} {l l':List Trip},ch rs l=some l'->(∀ r∈rs,r.k=4\/r.k=6)->(∀ t∈l,t.s=1\/t.s=3)->∀ t∈l',t.s=1\/t.s=3
 | [],l,l',h,_,hl=>by simp only[ch,Option.some.injEq]at h;subst h;exact hl
 | r::rs,l,l',h,hr,hl=>by
  simp only[ch]at h
  split at h
  case isFalse=>cases h
  rename_i hc
  refine kS h (fun x hx=>hr x (by simp[hx])) fun t ht=>?_
  unfold cM at ht
  rcases hr r (by simp)with e|e
  ·rw[if_pos e]at ht
   rcases List.mem_append.1 ht with ht|ht
   ·exact hl t ht
   ·simp at ht;subst ht;exact .inl rfl
  ·rw[if_neg (by omega),if_neg (by omega),if_pos e]at ht
   rcases List.mem_or_eq_of_mem_set ht with ht|ht
   ·exact hl t ht
   ·subst ht;exact .inr rfl
structure Quiet (w:Wd):Prop where
 ns:w.ns=[]
 hs:∀ h∈w.hs,h.lg.rs=[]
 rs:∀ r∈w.dk.lg.rs,r.k=4\/r.k=6
 td:w.dk.td=[]
theorem Quiet.set{w:Wd}(q:Quiet w){i:Int}{h:House}(hh:h.lg.rs=[]):Quiet (setHouse w i h) :=
 ⟨q.ns,fun x hx=>by
  rcases List.mem_or_eq_of_mem_set hx with hx|hx
  ·exact q.hs x hx
  ·exact hx ▸ hh,q.rs,q.td⟩
theorem Quiet.at{w:Wd}(q:Quiet w)(i:Int):(houseAt w i).lg.rs=[]:=by
 unfold houseAt
 cases e:w.hs[(i-1).toNat]? with
 | none=>rfl
 | some h=>exact q.hs h (List.mem_of_getElem? e)
theorem Quiet.write{w:Wd}(q:Quiet w){r:Rec}(hr:r.k=4\/r.k=6):Quiet {w with dk:=bh w.dk r}:=by
 refine⟨q.ns,q.hs,fun x hx=>?_,by rw[show ({w with dk:=bh w.dk r}:Wd).dk=bh w.dk r from rfl,(fF _ _).1];exact q.td⟩
 have hx:x∈(bh w.dk r).lg.rs:=hx
 unfold bh at hx
 split at hx
 ·unfold dW at hx
  split at hx
  ·exact q.rs x hx
  ·rcases List.mem_append.1 hx with hx|hx
   ·exact q.rs x hx
   ·simp at hx;exact hx ▸ hr
 ·exact q.rs x hx
theorem Quiet.do_{w:Wd}(q:Quiet w){e:Ev}(he:e.k≠3):Quiet (wdo w e):=by
 unfold wdo
 split
 ·unfold jZ
  split
  ·unfold gT;split
   ·exact q.write (.inl rfl)
   ·exact q
  ·split
   ·unfold ln;split
    ·exact q.write (.inr rfl)
    ·exact q
   ·exact q
 ·split
  ·unfold nY
   rw[q.ns]
   simp only[List.getElem?_nil,ite_self]
   exact q
  ·split
   ·unfold cF
    split
    case isFalse=>exact q
    split
    ·unfold cO
     split
     ·refine⟨q.ns,q.hs,?_,?_⟩
      ·have:(bq w.dk).lg.rs=w.dk.lg.rs:=by unfold bq;split<;>rfl
       intro r hr;exact q.rs r (this ▸ hr)
      ·have:(bq w.dk).td=w.dk.td:=by unfold bq;split<;>rfl
       exact this.trans q.td
     ·split
      ·refine q.set ?_
       have:(bU (houseAt w e.a)).lg.rs=(houseAt w e.a).lg.rs:=by unfold bU;split<;>rfl
       rw[this];exact q.at _
      ·exact q
    ·split
     ·split
      ·exact⟨q.ns,q.hs,fun r hr=>q.rs r (List.mem_of_mem_take hr),rfl⟩
      ·refine q.set ?_
       show (gF (houseAt w e.a).lg e.b).rs=[]
       unfold gF
       rw[q.at];simp
     ·split
      ·split
       ·exact⟨q.ns,q.hs,q.rs,q.td⟩
       ·exact q.set (q.at _)
      ·exact q
   ·exact q
theorem Quiet.new{rooms:List Int}{w:Wd}(h:bb rooms=some w):Quiet w:=by
 unfold bb at h
 split at h
 case isFalse=>cases h
 simp only[Option.some.injEq]at h;subst h
 refine⟨rfl,fun x hx=>?_,by simp[deskNew],rfl⟩
 simp only[cT,List.mem_map]at hx
 obtain⟨p,_,rfl⟩:=hx
 rfl
theorem Quiet.trips{w:Wd}(q:Quiet w)(ho:WOk w):∀ t∈aj w.dk false,t.s=1\/t.s=3 :=
 kS ho.dk.tr q.rs (by simp)
structure Loose (w:Wd):Prop where
 ns:w.ns=[]
 hs:∀ h∈w.hs,h.lg.rs=[]
 f:w.dk.lg.f=0
theorem Loose.words{w:Wd}(q:Loose w):aM w.dk=[]:=by
 unfold aM aj aF aW
 simp[q.f,bc,ch,c8]
theorem Loose.set{w:Wd}(q:Loose w){i:Int}{h:House}(hh:h.lg.rs=[]):Loose (setHouse w i h) :=
 ⟨q.ns,fun x hx=>by
  rcases List.mem_or_eq_of_mem_set hx with hx|hx
  ·exact q.hs x hx
  ·exact hx ▸ hh,q.f⟩
theorem Loose.at{w:Wd}(q:Loose w)(i:Int):(houseAt w i).lg.rs=[]:=by
 unfold houseAt
 cases e:w.hs[(i-1).toNat]? with
 | none=>rfl
 | some h=>exact q.hs h (List.mem_of_getElem? e)
theorem Loose.write{w:Wd}(q:Loose w)(r:Rec):Loose {w with dk:=bh w.dk r} :=
 ⟨q.ns,q.hs,(fF _ _).2.2.trans q.f⟩
theorem Loose.do_{w:Wd}(q:Loose w){e:Ev}(h7:e.k≠7)(h8:e.k≠8):Loose (wdo w e):=by
 unfold wdo
 split
 ·unfold jZ
  split
  ·unfold gT;split
   ·exact q.write _
   ·exact q
  ·split
   ·unfold ln;split
    ·exact q.write _
    ·exact q
   ·split
    ·rw[q.words]
     simp only[List.getElem?_nil,ite_self]
     exact q
    ·exact q
 ·split
  ·unfold nY
   rw[q.ns]
   simp only[List.getElem?_nil,ite_self]
   exact q
  ·split
   ·unfold cF
    split
    case isFalse=>exact q
    split
    ·split
     ·exact⟨q.ns,q.hs,q.f⟩
     ·exact q.set (q.at _)
    ·exact q
   ·exact q
theorem Loose.new{rooms:List Int}{w:Wd}(h:bb rooms=some w):Loose w:=by
 have q:=Quiet.new h
 unfold bb at h
 split at h
 case isFalse=>cases h
 simp only[Option.some.injEq]at h;subst h
 exact⟨rfl,q.hs,rfl⟩
theorem Loose.trips{w:Wd}(q:Loose w):aj w.dk true=[]:=by
 unfold aj aF aW
 simp[q.f,bc,ch]
end Dx
namespace Dx
variable {w:Wd}
theorem Fwd.rfl'(v:V):Fwd v v:=⟨tpre.rfl' _,fun _ _ _ _=>hle.rfl' _⟩
theorem Fwd.trans{a b c:V}(h1:Fwd a b)(h2:Fwd b c):Fwd a c:=⟨h1.F.trans h2.F,fun h t hh ht=>(h1.h h t hh ht).trans (h2.h h t hh ht)⟩
theorem Fwd.same{a b:V}(hF:b.F=a.F)(hh:∀ h t,isH h->b.hF h t=a.hF h t):Fwd a b:=⟨by rw[hF];exact tpre.rfl' _,fun h t hi _=>by rw[hh h t hi];exact hle.rfl' _⟩
def ec(w:Wd):List Int:=w.hs.map (·.room)
theorem CP{i:Int}{x:House}(hx:x.room=(houseAt w i).room):ec (setHouse w i x)=ec w:=by
 unfold ec setHouse
 rw[List.map_set,hx]
 unfold houseAt
 by_cases h:(i-1).toNat<w.hs.length
 ·rw[List.getElem?_eq_getElem h]
  simp only[Option.getD_some]
  rw[<-List.getElem_map (f:=fun x:House=>x.room) (h:=by simpa using h),List.set_getElem_self]
 ·rw[List.set_eq_of_length_le (by simp;omega)]
theorem zk(x:Word):ec (bp w x).1=ec w:=by
 unfold bp
 split
 ·rfl
 ·exact CP (pW _ _).2.2
end Dx
namespace Dx
variable {w:Wd}
structure AllUp (w:Wd):Prop where
 dk:w.dk.up=true
 hs:∀ h∈w.hs,h.up=true
theorem AllUp.at(u:AllUp w)(ho:WOk w){i:Int}(hi:isH i):(houseAt w i).up=true:=u.hs _ (List.mem_of_getElem? (ho.houseAt hi).1)
structure Hrd (a b:Wd):Prop where
 td:∀ z∈a.dk.td,z∈b.dk.td
 h:∀ h t,isH h->isT t->hle ((vw a).hA h t) ((vw b).hA h t)
 A:tpre (vw a).A (vw b).A
 len:(vw b).A.length=(vw a).A.length
 F:(vw b).F=(vw a).F
 hF:∀ h t,isH h->(vw b).hF h t=(vw a).hF h t
 up:AllUp a->AllUp b
 rooms:ec b=ec a
theorem Hrd.rfl'(a:Wd):Hrd a a:=⟨fun _ h=>h,fun _ _ _ _=>hle.rfl' _,tpre.rfl' _,rfl,rfl,fun _ _ _=>rfl,id,rfl⟩
theorem Hrd.trans{a b c:Wd}(h1:Hrd a b)(h2:Hrd b c):Hrd a c :=
 ⟨fun z h=>h2.td z (h1.td z h),fun h t hh ht=>(h1.h h t hh ht).trans (h2.h h t hh ht),h1.A.trans h2.A,h2.len.trans h1.len,h2.F.trans h1.F,fun h t hh=>(h2.hF h t hh).trans (h1.hF h t hh),fun u=>h2.up (h1.up u),h2.rooms.trans h1.rooms⟩
theorem CQ{d:Desk}{x z:Word}(h:z∈d.td):z∈(b9 d x).td:=by
 unfold b9;split
 ·exact h
 ·simp[h]
theorem zm(d:Desk)(x:Word):x∈(b9 d x).td:=by
 unfold b9;split
 ·rename_i h;simpa using h
 ·simp
theorem oI(d:Desk)(t:Int):(dA d t).td=d.td:=by
 unfold dA;split
 ·exact(fF _ _).1
 ·rfl
theorem Ef{d:Desk}{x z:Word}(h:z∈d.td):z∈(dU d x).td:=by
 unfold dU;split
 ·rw[oI];exact CQ h
 ·exact h
theorem zn{d:Desk}{x:Word}(h:c7 d x=true):x∈(dU d x).td:=by
 unfold dU;rw[if_pos h,oI];exact zm d x
theorem CR(d:Desk)(t:Int):gG d t≠4:=by
 unfold gG
 dsimp only
 split
 ·decide
 ·split
  ·decide
  ·split
   ·decide
   ·split<;>decide
theorem Hg{d:Desk}(h:DkOk d)(x:Word):tpre (aj d false) (aj (dU d x) false)/\(aj (dU d x) false).length=(aj d false).length:=by
 unfold dU
 split
 case isFalse=>exact⟨tpre.rfl' _,rfl⟩
 rename_i hc
 have hd1:=h.tell hc
 simp only[c7,Bool.and_eq_true,decide_eq_true_eq,wordOk_iff]at hc
 have e:aj (b9 d x) false=aj d false:=by unfold aj;rw[(gU d x).2]
 unfold dA
 split
 ·rename_i hk
  have hr:=mf hc.2.1.t hk
  by_cases c:(b9 d x).up=true/\cG (aj (b9 d x) false) ⟨gG (b9 d x) x.t,x.t,[]⟩=true
  ·have c2:=c.2
   rw[(lq hd1 hr c).2.2,e]
   rw[e]at c2
   refine⟨wL hr c2,?_⟩
   rw[fU,if_neg (CR _ _)]
  ·rw[mg c,e];exact⟨tpre.rfl' _,rfl⟩
 ·rw[e];exact⟨tpre.rfl' _,rfl⟩
theorem CS{h:House}(ho:HsOk h){x:Word}(hx:WdOk x){t:Int}(ht:1<=t):hle (hAt (al h false).hs t) (hAt (al (cu h x).1 false).hs t):=by
 unfold cu
 split
 ·exact hle.rfl' _
 ·split
  ·rename_i hm
   rw[(lr ho (cU hx) hm).2]
   exact tY (ho.stOk false).len (cU hx) hm ht
  ·split<;>exact hle.rfl' _
theorem jt{y:Word}(h:y.k>=4):(bp w y).1={w with dk:=dU w.dk y}:=by unfold bp;rw[if_pos h]
theorem ml{x:Word}(h:¬ x.k>=4):bp w x=(setHouse w x.h (cu (houseAt w x.h) x).1,(cu (houseAt w x.h) x).2):=by unfold bp;rw[if_neg h]
theorem wO(ho:WOk w){x:Word}(hx:WdOk x):Hrd w (bp w x).1:=by
 have hF:=t7 ho hx
 have hr:=zk (w:=w) x
 by_cases hk:x.k>=4
 ·rw[jt hk]at hF hr ⊢
  have a:=Hg ho.dk x
  exact⟨fun z hz=>Ef hz,fun _ _ _ _=>hle.rfl' _,a.1,a.2,hF.1,hF.2,fun u=>⟨(ho.dk.hear x).2.1.trans u.dk,u.hs⟩,hr⟩
 ·rw[ml hk]at hF hr ⊢
  have hi:isH x.h:=hx.h
  have hho:=(ho.houseAt hi).2.1
  refine⟨fun z hz=>hz,fun h t hh ht=>?_,tpre.rfl' _,rfl,hF.1,hF.2,fun u=>⟨u.dk,fun y hy=>?_⟩,hr⟩
  ·rw[(dB ho hi _ hh).2];split
   ·rename_i e;subst e;exact CS hho hx ht.1
   ·exact hle.rfl' _
  ·rcases List.mem_or_eq_of_mem_set hy with hy|hy
   ·exact u.hs y hy
   ·rw[hy,(pW _ _).2.1];exact u.at ho hi
theorem sq(ho:WOk w){x:Word}(hx:WdOk x):Hrd w (bj w x):=by
 have h:=ho.hear hx
 have h1:=wO ho hx
 unfold bj
 split
 ·rename_i y hy;exact h1.trans (wO h.1 (h.2 y hy).1)
 ·exact h1
theorem ju:∀ {xs:List Word} {w:Wd},WOk w->(∀ x∈xs,WdOk x)->Hrd w (cE w xs)
 | [],w,_,_=>Hrd.rfl' w
 | x::xs,w,ho,hx=>(sq ho (hx x (by simp))).trans (ju (xs:=xs) (ho.hear2 (hx x (by simp))) (fun y hy=>hx y (by simp[hy])))
theorem oJ:∀ {xs:List Word} {w:Wd} {x:Word},WOk w->Inv (vw w)->AllUp w->(∀ x∈xs,WdOk x/\NetOk (vw w) x)->x∈xs ->
  ∃ m,WOk m/\Inv (vw m)/\AllUp m/\WdOk x/\NetOk (vw m) x/\Hrd w m/\Hrd (bj m x) (cE w xs)
 | [],_,_,_,_,_,_,hm=>by cases hm
 | y::ys,w,x,ho,I,u,hx,hm=>by
  have hy:=hx y (by simp)
  have h1:=sq ho hy.1
  have ho1:=ho.hear2 hy.1
  rcases List.mem_cons.1 hm with e|hm'
  ·subst e
   exact⟨w,ho,I,u,hy.1,hy.2,Hrd.rfl' w,ju (xs:=ys) ho1 (fun z hz=>(hx z (by simp[hz])).1)⟩
  ·have hn:∀ z∈ys,WdOk z/\NetOk (vw (bj w y)) z:=fun z hz=>by
    have h2:=hx z (by simp[hz])
    exact⟨h2.1,NetOk.congr (v:=vw w) (by rw[h1.F]) (h1.hF _ _ h2.1.h) h2.2⟩
   obtain⟨m,a1,a2,a3,a4,a5,a6,a7⟩:=oJ (xs:=ys) ho1 (oH ho I hy.1 hy.2) (h1.up u) hn hm'
   exact⟨m,a1,a2,a3,a4,a5,h1.trans a6,a7⟩
theorem ir(ho:WOk w)(I:Inv (vw w))(u:AllUp w){x y:Word}(hx:WdOk x)(hk:x.k<=3)(hn:NetOk (vw w) x)(hy:(bp w x).2=some y)(ht:y.t=x.t):y∈(bj w x).dk.td:=by
 have h2:=(ho.hear hx).2 y hy
 have ed:(bp w x).1.dk=w.dk:=by rw[ml (by omega)];rfl
 unfold bj
 rw[hy]
 dsimp only
 rw[jt h2.2]
 show y∈(dU (bp w x).1.dk y).td
 rw[ed]
 refine zn ?_
 have hl:=cr hn.s
 have hp:=I.pre.len
 have hx1:=hx.t.1
 have hlen:y.t<=((aj w.dk false).length:Int):=by
  show y.t<=((vw w).A.length:Int)
  omega
 simp[c7,u.dk,wordOk_iff.2 h2.1,h2.2,hlen]
theorem CT(ho:WOk w){x:Word}(hx:WdOk x)(h t:Int):(vw (bj w x)).hA h t=(vw (bp w x).1).hA h t:=by
 have h:=ho.hear hx
 unfold bj
 split
 ·rename_i y hy;rw[jt (h.2 y hy).2];rfl
 ·rfl
theorem kc(ho:WOk w)(u:AllUp w){x:Word}(hx:WdOk x)(hk:x.k<=3) :
  (may (al (houseAt w x.h) false) (bE x)=true/\(vw (bj w x)).hA x.h x.t=jc ((vw w).hA x.h x.t) (bE x)) ∨
  (may (al (houseAt w x.h) false) (bE x)=false/\(vw (bj w x)).hA x.h x.t=(vw w).hA x.h x.t ∧
   (bp w x).2=if x.k=1/\((vw w).hA x.h x.t).s=0 then some ⟨5,x.h,x.t,0⟩ else answer x.h x ((vw w).hF x.h x.t).s):=by
 have hi:isH x.h:=hx.h
 obtain⟨_,hho,hid⟩:=ho.houseAt hi
 have same:setHouse w x.h (houseAt w x.h)=w:=by
  obtain⟨e,_,_⟩:=ho.houseAt hi
  have hl:=(List.getElem?_eq_some_iff.1 e).1
  have he:=(List.getElem?_eq_some_iff.1 e).2
  unfold setHouse
  rw[<-he,List.set_getElem_self]
 have e:=ml (w:=w) (x:=x) (by omega)
 have hu:=u.at ho hi
 have c0:(!(houseAt w x.h).up || !bJ x || x.h != (houseAt w x.h).id || decide (x.k>3))=false:=by
  rw[hid,hu,wordOk_iff.2 hx];simp;omega
 rw[CT ho hx]
 by_cases hm:may (al (houseAt w x.h) false) (bE x)=true
 ·left
  refine⟨hm,?_⟩
  have eh:(cu (houseAt w x.h) x).1={houseAt w x.h with lg:=dW (houseAt w x.h).lg (bE x)}:=by unfold cu;rw[c0];simp only[Bool.false_eq_true,if_false];rw[if_pos hm]
  rw[e]
  dsimp only
  rw[(dB ho hi _ hi).2,if_pos rfl,eh,(lr hho (cU hx) hm).2,AU (hho.stOk false).len (cU hx) hx.t.1,BC,if_pos rfl]
  rfl
 ·right
  refine⟨by simpa using hm,?_⟩
  rw[e]
  dsimp only
  have eh:cu (houseAt w x.h) x=if x.k=1/\fv (al (houseAt w x.h) false) x.t=0 then(houseAt w x.h,some ⟨5,(houseAt w x.h).id,x.t,0⟩) else(houseAt w x.h,answer (houseAt w x.h).id x (fv (al (houseAt w x.h) true) x.t)):=by
   unfold cu;rw[c0];simp only[Bool.false_eq_true,if_false];rw[if_neg hm]
  have eh1:(cu (houseAt w x.h) x).1=houseAt w x.h:=by rw[eh];split<;>rfl
  rw[eh1,same]
  refine⟨rfl,?_⟩
  rw[eh,hid]
  have hst:fv (al (houseAt w x.h) false) x.t=((vw w).hA x.h x.t).s:=rfl
  have hst2:fv (al (houseAt w x.h) true) x.t=((vw w).hF x.h x.t).s:=rfl
  rw[hst,hst2]
  split<;>rfl
theorem qN(x:Word):may (al (houseAt w x.h) false) (bE x)=if x.k=1 then(((vw w).hA x.h x.t).s==0) && decide (x.m<=free (al (houseAt w x.h) false)) else if x.k=2 then((vw w).hA x.h x.t).s==1 else(((vw w).hA x.h x.t).s==1) || (((vw w).hA x.h x.t).s==0):=by
 have hst:fv (al (houseAt w x.h) false) x.t=((vw w).hA x.h x.t).s:=rfl
 unfold bE may
 by_cases h1:x.k=1
 ·simp[h1,hst]
 ·by_cases h2:x.k=2
  ·simp[h2,hst]
  ·simp[h1,h2,hst]
theorem sr(ho:WOk w)(I:Inv (vw w))(u:AllUp w){x:Word}(hx:WdOk x)(hn:NetOk (vw w) x)(hk:x.k=1) :
  (((vw (bj w x)).hA x.h x.t).s≠0\/(⟨5,x.h,x.t,0⟩:Word)∈(bj w x).dk.td)/\(((vw w).hF x.h x.t).s=1->(⟨4,x.h,x.t,0⟩:Word)∈(bj w x).dk.td):=by
 have hh:=I.hle x.h x.t hx.h hx.t
 rcases kc ho u hx (by omega)with ⟨hm,e⟩|⟨hm,e,ea⟩
 ·rw[qN,if_pos hk]at hm
  simp only[Bool.and_eq_true,beq_iff_eq]at hm
  refine⟨.inl ?_,fun h1=>?_⟩
  ·rw[e];simp[jc,bE,hk]
  ·unfold hle at hh;omega
 ·refine⟨?_,fun h1=>?_⟩
  ·by_cases h0:((vw w).hA x.h x.t).s=0
   ·rw[if_pos ⟨hk,h0⟩]at ea
    exact .inr (ir ho I u hx (by omega) hn ea rfl)
   ·rw[e];exact .inl h0
  ·rw[if_neg (by unfold hle at hh;omega)]at ea
   refine ir ho I u hx (by omega) hn (y:=⟨4,x.h,x.t,0⟩) ?_ rfl
   rw[ea];unfold answer;rw[if_pos ⟨hk,.inl h1⟩]
theorem oK(ho:WOk w)(I:Inv (vw w))(u:AllUp w){x:Word}(hx:WdOk x)(hn:NetOk (vw w) x)(hk:x.k=2) :
  (((vw w).hA x.h x.t).s=1\/((vw w).hA x.h x.t).s=2->((vw (bj w x)).hA x.h x.t).s=2)/\(((vw w).hF x.h x.t).s=2->(⟨6,x.h,x.t,0⟩:Word)∈(bj w x).dk.td):=by
 have hh:=I.hle x.h x.t hx.h hx.t
 rcases kc ho u hx (by omega)with ⟨hm,e⟩|⟨hm,e,ea⟩
 ·rw[qN,if_neg (by omega),if_pos hk]at hm
  simp only[beq_iff_eq]at hm
  refine⟨fun _=>?_,fun h1=>?_⟩
  ·rw[e];simp[jc,bE,hk]
  ·unfold hle at hh;omega
 ·rw[qN,if_neg (by omega),if_pos hk]at hm
  simp only[beq_eq_false_iff_ne]at hm
  refine⟨fun h1=>by rw[e];omega,fun h1=>?_⟩
  rw[if_neg (by omega)]at ea
  refine ir ho I u hx (by omega) hn (y:=⟨6,x.h,x.t,0⟩) ?_ rfl
  rw[ea];unfold answer;rw[if_neg (by omega),if_neg (by omega),if_pos ⟨hk,h1⟩]
theorem ss(ho:WOk w)(I:Inv (vw w))(u:AllUp w){x:Word}(hx:WdOk x)(hn:NetOk (vw w) x)(hk:x.k=3) :
  (((vw w).hA x.h x.t).s≠2->((vw (bj w x)).hA x.h x.t).s=3)/\(((vw w).hF x.h x.t).s=3->(⟨7,x.h,x.t,0⟩:Word)∈(bj w x).dk.td):=by
 have hh:=I.hle x.h x.t hx.h hx.t
 have hr:=pY (I.okA x.h x.t hx.h hx.t)
 rcases kc ho u hx (by omega)with ⟨hm,e⟩|⟨hm,e,ea⟩
 ·rw[qN,if_neg (by omega),if_neg (by omega)]at hm
  simp only[Bool.or_eq_true,beq_iff_eq]at hm
  refine⟨fun _=>?_,fun h1=>?_⟩
  ·rw[e];simp[jc,bE,hk]
  ·unfold hle at hh;omega
 ·rw[qN,if_neg (by omega),if_neg (by omega)]at hm
  simp only[Bool.or_eq_false_iff,beq_eq_false_iff_ne]at hm
  refine⟨fun h1=>by rw[e];omega,fun h1=>?_⟩
  rw[if_neg (by omega)]at ea
  refine ir ho I u hx (by omega) hn (y:=⟨7,x.h,x.t,0⟩) ?_ rfl
  rw[ea];unfold answer;rw[if_neg (by omega),if_neg (by omega),if_neg (by omega),if_pos ⟨hk,h1⟩]
structure Cm (w:Wd):Prop where
 ok:WOk w
 I:Inv (vw w)
 up:AllUp w
 ns:w.ns=[]
 df:w.dk.lg.f=w.dk.lg.rs.length
 hf:∀ h∈w.hs,h.lg.f=h.lg.rs.length
theorem su{l:Log}(h:l.f=l.rs.length):aW l true=aW l false:=by
 unfold aW;simp[h]
theorem Cm.F(c:Cm w):(vw w).F=(vw w).A:=by
 show aj w.dk true=aj w.dk false
 unfold aj aF;rw[su c.df]
theorem Cm.hF(c:Cm w){h:Int}(hh:isH h)(t:Int):(vw w).hF h t=(vw w).hA h t:=by
 have e:=su (c.hf _ (List.mem_of_getElem? (c.ok.houseAt hh).1))
 show hAt (al (houseAt w h) true).hs t=hAt (al (houseAt w h) false).hs t
 unfold al;rw[e]
theorem fP{d:Desk}(h:d.up=true):ev d=d:=by cases d;simp only at h;subst h;rfl
theorem zo{h:House}(u:h.up=true):fy h=h:=by cases h;simp only at u;subst u;rfl
theorem mm(u:AllUp w):cN w=w:=by
 have h2:w.hs.map fy=w.hs:=by
  conv=>rhs;rw[<-List.map_id w.hs]
  exact List.map_congr_left fun h hh=>zo (u.hs h hh)
 unfold cN;rw[fP u.dk,h2]
theorem mN{l:Log}(h:l.f=l.rs.length):gp l=l:=by cases l;simp only at h;subst h;rfl
theorem wd{d:Desk}(h:d.lg.f=d.lg.rs.length):bq d=d:=by
 unfold bq;split
 ·rw[mN h]
 ·rfl
theorem we{h:House}(e:h.lg.f=h.lg.rs.length):bU h=h:=by
 unfold bU;split
 ·rw[mN e]
 ·rfl
theorem ia:∀(xs:List Word) (w:Wd),(cE w xs).ns=w.ns
 | [],_=>rfl
 | x::xs,w=>(ia xs (bj w x)).trans (tI w x)
theorem Eg(w:Wd)(ns:List Word):AllUp {cN w with ns:=ns}:=⟨rfl,fun h hh=>by
 simp only[cN,List.mem_map]at hh
 obtain⟨y,_,rfl⟩:=hh;rfl⟩
theorem sw{f:House->House}(hf:∀ h,(f h).room=h.room)(d:Desk)(ns:List Word):ec ⟨d,w.hs.map f,ns⟩=ec w:=by
 unfold ec
 rw[List.map_map]
 exact List.map_congr_left fun h _=>hf h
theorem sx(ho:WOk w)(I:Inv (vw w))(u:AllUp w)(hns:w.ns=[]):Cm (aX w)/\(vw (aX w)).A=(vw w).A/\(∀ h t,isH h->(vw (aX w)).hA h t=(vw w).hA h t):=by
 have ho':WOk (aX w):=ho.map ho.dk.force fun x hx=>⟨hx.force,(gI x).1⟩
 have e:∀ h,isH h->houseAt (aX w) h=bU (houseAt w h):=fun h hh=>ga w _ _ _ ho hh
 refine⟨⟨ho',mM ho I,⟨?_,fun h hh=>?_⟩,hns,?_,fun h hh=>?_⟩,dk_force.2,fun h t hh=>?_⟩
 ·show (bq w.dk).up=true
  unfold bq;split<;>exact u.dk
 ·simp only[aX,List.mem_map]at hh
  obtain⟨y,hy,rfl⟩:=hh
  rw[(gI y).2.2];exact u.hs y hy
 ·show (bq w.dk).lg.f=(bq w.dk).lg.rs.length
  unfold bq;rw[if_pos u.dk];rfl
 ·simp only[aX,List.mem_map]at hh
  obtain⟨y,hy,rfl⟩:=hh
  unfold bU;rw[if_pos (u.hs y hy)];rfl
 ·show hAt (al (houseAt (aX w) h) false).hs t=_
  rw[e h hh,hs_force.2];rfl
theorem CU(ho:WOk w):WOk {cN w with ns:=[]}/\(∀ h t,isH h->isT t->hle ((vw w).hA h t) ((vw {cN w with ns:=[]}).hA h t))/\(vw {cN w with ns:=[]}).A=(vw w).A/\ec {cN w with ns:=[]}=ec w:=by
 have h1:=lu ho
 have e:∀ h,isH h->houseAt (cN w) h=fy (houseAt w h):=fun h hh=>ga w _ _ _ ho hh
 refine⟨⟨h1.dk,h1.len,h1.hs,by simp,by simp⟩,fun h t hh ht=>?_,rfl,sw (f:=fy) (fun _=>rfl) (ev w.dk) []⟩
 show hle _ (hAt (al (houseAt (cN w) h) false).hs t)
 rw[e h hh];exact hle.rfl' _
theorem Eh(ho:WOk w)(I:Inv (vw w)):Cm (aY w)/\tpre (vw w).A (vw (aY w)).A/\(vw (aY w)).A.length=(vw w).A.length/\ec (aY w)=ec w/\(∀ h t,isH h->isT t->hle ((vw w).hA h t) ((vw (aY w)).hA h t)):=by
 obtain⟨h2,hs,hA,hr⟩:=CU ho
 have I2:Inv (vw {cN w with ns:=[]}):=by rw[DG];exact(mj ho I).nets (by simp)
 have hx:=gc ho I
 have hh:=ju h2 fun x h=>(hx x h).1
 obtain⟨c,eA,eh⟩:=sx (h2.hears fun x h=>(hx x h).1) (iq h2 I2 hx) (hh.up (Eg w [])) (ia _ _)
 refine⟨c,?_,?_,?_,fun h t hi ht=>?_⟩
 ·show tpre _ (vw (aX _)).A
  rw[eA,<-hA];exact hh.A
 ·show (vw (aX _)).A.length=_
  rw[eA,<-hA];exact hh.len
 ·show ec (aX _)=_
  rw[<-hr,<-hh.rooms];exact sw (fun h=>(gI h).2.1) _ _
 ·show hle _ ((vw (aX _)).hA h t)
  rw[eh h t hi]
  exact(hs h t hi ht).trans (hh.h h t hi ht)
structure Rnd (w m w':Wd):Prop where
 c:Cm w
 em:m=cE w (aM w.dk)
 okm:WOk m
 Im:Inv (vw m)
 hm:Hrd w m
 c':Cm w'
 A:(vw w').A=(vw m).A
 hA:∀ h t,isH h->(vw w').hA h t=(vw m).hA h t
theorem Cm.rnd(c:Cm w):Rnd w (cE w (aM w.dk)) (aY w):=by
 have e0:({cN w with ns:=[]}:Wd)=w:=by
  rw[mm c.up]
  obtain⟨d,hs,ns⟩:=w
  have:=c.ns
  simp only at this;subst this;rfl
 have e1:aY w=aX (cE w (aM w.dk)):=by
  unfold aY
  rw[e0,c.ns,fP c.up.dk];rfl
 have hx:=gc c.ok c.I
 rw[e0,c.ns,fP c.up.dk,List.nil_append]at hx
 have hh:=ju c.ok fun x h=>(hx x h).1
 have hok:=c.ok.hears fun x h=>(hx x h).1
 have Im:=iq c.ok c.I hx
 obtain⟨c',eA,eh⟩:=sx hok Im (hh.up c.up) ((ia _ _).trans c.ns)
 rw[<-e1]at c' eA eh
 exact⟨c,rfl,hok,Im,hh,c',eA,eh⟩
theorem mO{td:List Word}{s t:Int}:∀ {ns:List Int} {h:Int} {j:Nat} {n:Int} {x:Word},ns[j]?=some n->x∈gq td s t (h+j) n->x∈bf td s t h ns
 | [],_,_,_,_,e,_=>by simp at e
 | a::ns,h,0,n,x,e,hx=>by
  simp at e;subst e;simp only[bf,List.mem_append];left;simpa using hx
 | a::ns,h,j+1,n,x,e,hx=>by
  simp only[bf,List.mem_append];right
  refine mO (j:=j) (by simpa using e) ?_
  rwa [show h+1+(j:Int)=h+((j+1:Nat):Int) by omega]
theorem sy{td:List Word}:∀ {l:List Trip} {t:Int} {j:Nat} {y:Trip} {x:Word},l[j]?=some y->y.s<=3->x∈bf td y.s (t+j) 1 y.m->x∈c8 td t l
 | [],_,_,_,_,e,_,_=>by simp at e
 | a::l,t,0,y,x,e,hs,hx=>by
  simp at e;subst e;simp only[c8,List.mem_append];left;rw[if_neg (by omega)];simpa using hx
 | a::l,t,j+1,y,x,e,hs,hx=>by
  simp only[c8,List.mem_append];right
  refine sy (j:=j) (by simpa using e) hs ?_
  rwa [show t+1+(j:Int)=t+((j+1:Nat):Int) by omega]
theorem Cm.said(c:Cm w){t h:Int}(ht:isT t)(hh:isH h)(hs:1<=(vw w).sF t/\(vw w).sF t<=3)(hw:0<(vw w).want t h) :
  (⟨nE ((vw w).sF t),h,t,0⟩:Word)∈(vw w).td\/∃ x∈aM w.dk,x.k=(vw w).sF t/\x.h=h/\x.t=t:=by
 by_cases hm:(⟨nE ((vw w).sF t),h,t,0⟩:Word)∈(vw w).td
 ·exact .inl hm
 right
 have hl:=cr (l:=(vw w).F) (t:=t) (by have:=hs.1;unfold V.sF at this;omega)
 have ht1:=ht.1
 have hh1:=hh.1
 refine⟨⟨(vw w).sF t,h,t,if(vw w).sF t=1 then(vw w).want t h else 0⟩,?_,rfl,rfl,rfl⟩
 unfold aM
 rw[if_pos c.up.dk]
 refine sy (j:=(t-1).toNat) (y:=tAt (vw w).F t) ?_ hs.2 ?_
 ·show (vw w).F[(t-1).toNat]?=_
  rw[vu hl,List.getElem?_eq_getElem hl]
 ·rw[show (1:Int)+((t-1).toNat:Nat)=t by omega]
  refine mO (j:=(h-1).toNat) (n:=(vw w).want t h) ?_ ?_
  ·have:=hw
   unfold V.want mAt at this ⊢
   cases e:(tAt (vw w).F t).m[(h-1).toNat]? with
   | none=>rw[e]at this;simp at this
   | some n=>rfl
  ·rw[show (1:Int)+((h-1).toNat:Nat)=h by omega]
   unfold gq
   have:¬ ((vw w).want t h=0\/w.dk.td.contains ⟨nE (tAt (vw w).F t).s,h,t,0⟩=true):=by
    rw[not_or]
    exact⟨by omega,fun h=>hm (by simp only[List.contains_eq_mem,decide_eq_true_eq]at h;exact h)⟩
   rw[if_neg this]
   exact List.mem_singleton.2 rfl
section
variable {m w':Wd}
theorem Rnd.sF(R:Rnd w m w')(t:Int):(vw m).sA t=(vw w').sF t:=by unfold V.sA V.sF;rw[R.c'.F,R.A]
theorem Rnd.mF(R:Rnd w m w')(t:Int):(vw m).sF t=(vw w).sF t:=by unfold V.sF;rw[R.hm.F]
theorem Rnd.want(R:Rnd w m w')(t h:Int):(vw m).want t h=(vw w).want t h:=by unfold V.want;rw[R.hm.F]
theorem Rnd.hF(R:Rnd w m w'){h:Int}(hh:isH h)(t:Int):(vw w').hF h t=(vw m).hA h t:=by rw[R.c'.hF hh,R.hA h t hh]
theorem Rnd.hle(R:Rnd w m w'){h t:Int}(hh:isH h)(ht:isT t):hle ((vw w).hF h t) ((vw w').hF h t):=by rw[R.hF hh,R.c.hF hh];exact R.hm.h h t hh ht
theorem Rnd.pre(R:Rnd w m w'):tpre (vw w).F (vw w').F:=by rw[R.c.F,R.c'.F,R.A];exact R.hm.A
theorem Rnd.len(R:Rnd w m w'):(vw w').F.length=(vw w).F.length:=by rw[R.c.F,R.c'.F,R.A];exact R.hm.len
theorem Rnd.step(R:Rnd w m w'){t:Int}(ht:isT t)(hs:(vw w).sF t≠0) :
  ((vw w').sF t=(vw w).sF t\/((vw w).sF t=1/\2<=(vw w').sF t/\(vw w').sF t<=5)\/((vw w).sF t=2/\(vw w').sF t=4)\/((vw w).sF t=3/\(vw w').sF t=5))/\∀ h,(vw w').want t h=(vw w).want t h:=by
 have h:=R.pre.le t ht.1 (by have:=cr hs;have:=ht.1;omega)
 exact⟨h.2,fun x=>by unfold V.want;rw[h.1]⟩
theorem Rnd.word(R:Rnd w m w'){x:Word}(hx:x∈aM w.dk):∃ a,WOk a/\Inv (vw a)/\AllUp a/\WdOk x/\NetOk (vw a) x/\Hrd w a/\Hrd (bj a x) m:=by
 have hw:=gc R.c.ok R.c.I
 rw[mm R.c.up,R.c.ns,fP R.c.up.dk,List.nil_append]at hw
 rw[R.em]
 exact oJ R.c.ok R.c.I R.c.up (fun x hx=>⟨(hw x hx).1,NetOk.ns' (hw x hx).2⟩) hx
theorem Rnd.m3(R:Rnd w m w'){t:Int}(hs:(vw m).sA t≠0):(tAt (vw m).A t).m.length=3:=bP (R.Im.A_ok hs).1
theorem Rnd.mAt(R:Rnd w m w'){t:Int}(ht:isT t)(hs:(vw w).sF t≠0)(h:Int):mAt (tAt (vw m).A t).m h=(vw w).want t h:=by
 rw[R.Im.FA_m ht.1 (by rw[R.mF];exact hs),R.want]
theorem Rnd.asked(R:Rnd w m w'){t:Int}(ht:isT t)(h1:(vw w).sF t=1)(h1':(vw w').sF t=1):∀ h,isH h->0<(vw w').want t h->((vw w').hF h t).s=1:=by
 intro h hh hw
 rw[(R.step ht (by omega)).2]at hw
 have hsm:(vw m).sA t=1:=(R.sF t).trans h1'
 obtain⟨d1,d2⟩:=(R.Im.trip t ht).d1 hsm
 have h0:((vw m).hA h t).s≠0:=by
  rcases R.c.said ht hh (by omega) hw with hm|⟨x,hx,e1,rfl,rfl⟩
  ·rw[h1]at hm
   have k:=(R.c.I.told _ hm).k4 rfl
   have:=R.hm.h h t hh ht
   rw[<-R.c.hF hh]at this
   unfold Dx.hle at this
   simp only at k;omega
  ·obtain⟨a,oa,Ia,ua,wx,nx,g1,g2⟩:=R.word hx
   rcases (sr oa Ia ua wx nx (by omega)).1 with k|k
   ·have:=g2.h x.h x.t hh ht
    unfold Dx.hle at this;omega
   ·exfalso
    have:bl (vw m).td x.t 5 1 (tAt (vw m).A x.t).m=true:=(sm (R.m3 (by omega))).2 ⟨x.h,hh,by rw[R.mAt ht (by omega)];exact hw,g2.td _ k⟩
    rw[this]at d1;cases d1
 have f:=R.Im.hold h t hh ht h0
 have hr:=pY (R.Im.okA h t hh ht)
 have e:=R.mF t
 rw[R.hF hh]
 by_cases h2:((vw m).hA h t).s=2
 ·have:=f.c h2;omega
 ·by_cases h3:((vw m).hA h t).s=3
  ·have:=f.u h3;omega
  ·omega
theorem Rnd.asked2(R:Rnd w m w'){t:Int}(ht:isT t)(h1:(vw w).sF t=1)(ha:∀ h,isH h->0<(vw w).want t h->((vw w).hF h t).s=1):(vw w').sF t≠1:=by
 intro h1'
 have hsm:(vw m).sA t=1:=(R.sF t).trans h1'
 obtain⟨d1,d2⟩:=(R.Im.trip t ht).d1 hsm
 have:aD (vw m).td t 4 1 (tAt (vw m).A t).m=true:=(fG (R.m3 (by omega))).2 fun h hh hw=>by
  rw[R.mAt ht (by omega)]at hw
  rcases R.c.said ht hh (by omega) hw with hm|⟨x,hx,e1,rfl,rfl⟩
  ·rw[h1]at hm;exact R.hm.td _ hm
  ·obtain⟨a,oa,Ia,ua,wx,nx,g1,g2⟩:=R.word hx
   exact g2.td _ ((sr oa Ia ua wx nx (by omega)).2 (by rw[g1.hF _ _ hh];exact ha _ hh hw))
 rw[this]at d2;cases d2
theorem Rnd.yes(R:Rnd w m w'){t:Int}(ht:isT t)(h1:(vw w).sF t=2)(h1':(vw w').sF t=2):∀ h,isH h->0<(vw w').want t h->((vw w').hF h t).s=2:=by
 intro h hh hw
 rw[(R.step ht (by omega)).2]at hw
 rw[R.hF hh]
 have hy:=((R.c.I.trip t ht).yes (by left;unfold V.sA;rw[<-R.c.F];exact h1)).2 h hh hw
 have hwm:=R.hm.h h t hh ht
 rw[<-R.c.hF hh]at hwm
 rcases R.c.said ht hh (by omega) hw with hm|⟨x,hx,e1,rfl,rfl⟩
 ·rw[h1]at hm
  have k:=(R.c.I.told _ hm).k6 rfl
  unfold Dx.hle at hwm
  simp only at k;omega
 ·obtain⟨a,oa,Ia,ua,wx,nx,g1,g2⟩:=R.word hx
  have hwa:=g1.h x.h x.t hh ht
  rw[<-R.c.hF hh]at hwa
  have n3:((vw a).hA x.h x.t).s≠3:=fun e=>by
   have:=(Ia.hold x.h x.t hh ht (by omega)).u e
   unfold V.sF at this h1
   rw[g1.F]at this;omega
  have k:=(oK oa Ia ua wx nx (by omega)).1 (by unfold Dx.hle at hwa;omega)
  have:=g2.h x.h x.t hh ht
  unfold Dx.hle at this;omega
theorem Rnd.yes2(R:Rnd w m w'){t:Int}(ht:isT t)(h1:(vw w).sF t=2)(ha:∀ h,isH h->0<(vw w).want t h->((vw w).hF h t).s=2):(vw w').sF t≠2:=by
 intro h1'
 have hsm:(vw m).sA t=2:=(R.sF t).trans h1'
 have d2:=(R.Im.trip t ht).d2 hsm
 have:aD (vw m).td t 6 1 (tAt (vw m).A t).m=true:=(fG (R.m3 (by omega))).2 fun h hh hw=>by
  rw[R.mAt ht (by omega)]at hw
  rcases R.c.said ht hh (by omega) hw with hm|⟨x,hx,e1,rfl,rfl⟩
  ·rw[h1]at hm;exact R.hm.td _ hm
  ·obtain⟨a,oa,Ia,ua,wx,nx,g1,g2⟩:=R.word hx
   exact g2.td _ ((oK oa Ia ua wx nx (by omega)).2 (by rw[g1.hF _ _ hh];exact ha _ hh hw))
 rw[this]at d2;cases d2
theorem Rnd.no(R:Rnd w m w'){t:Int}(ht:isT t)(h1:(vw w).sF t=3):∀ h,isH h->0<(vw w').want t h->((vw w').hF h t).s=3:=by
 intro h hh hw
 rw[(R.step ht (by omega)).2]at hw
 rw[R.hF hh]
 have hwm:=R.hm.h h t hh ht
 rw[<-R.c.hF hh]at hwm
 rcases R.c.said ht hh (by omega) hw with hm|⟨x,hx,e1,rfl,rfl⟩
 ·rw[h1]at hm
  have k:=(R.c.I.told _ hm).k7 rfl
  unfold Dx.hle at hwm
  simp only at k;omega
 ·obtain⟨a,oa,Ia,ua,wx,nx,g1,g2⟩:=R.word hx
  have n2:((vw a).hA x.h x.t).s≠2:=fun e=>by
   have:=(Ia.hold x.h x.t hh ht (by omega)).c e
   unfold V.sF at this h1
   rw[g1.F]at this;omega
  have k:=(ss oa Ia ua wx nx (by omega)).1 n2
  have:=g2.h x.h x.t hh ht
  unfold Dx.hle at this;omega
theorem Rnd.no2(R:Rnd w m w'){t:Int}(ht:isT t)(h1:(vw w).sF t=3)(ha:∀ h,isH h->0<(vw w).want t h->((vw w).hF h t).s=3):(vw w').sF t≠3:=by
 intro h1'
 have hsm:(vw m).sA t=3:=(R.sF t).trans h1'
 have d2:=(R.Im.trip t ht).d3 hsm
 have:aD (vw m).td t 7 1 (tAt (vw m).A t).m=true:=(fG (R.m3 (by omega))).2 fun h hh hw=>by
  rw[R.mAt ht (by omega)]at hw
  rcases R.c.said ht hh (by omega) hw with hm|⟨x,hx,e1,rfl,rfl⟩
  ·rw[h1]at hm;exact R.hm.td _ hm
  ·obtain⟨a,oa,Ia,ua,wx,nx,g1,g2⟩:=R.word hx
   exact g2.td _ ((ss oa Ia ua wx nx (by omega)).2 (by rw[g1.hF _ _ hh];exact ha _ hh hw))
 rw[this]at d2;cases d2
end
theorem Cm.two(c:Cm w){t:Int}(ht:isT t)(hs:1<=(vw w).sF t/\(vw w).sF t<=3):(vw (aY (aY w))).sF t≠(vw w).sF t:=by
 have R1:=c.rnd
 have R2:=R1.c'.rnd
 have s1:=(R1.step ht (by omega)).1
 have s2:=(R2.step ht (by omega)).1
 intro e
 have e1:(vw (aY w)).sF t=(vw w).sF t:=by omega
 rcases (show (vw w).sF t=1\/(vw w).sF t=2\/(vw w).sF t=3 by omega)with h|h|h
 ·exact R2.asked2 ht (e1.trans h) (R1.asked ht h (e1.trans h)) (e.trans h)
 ·exact R2.yes2 ht (e1.trans h) (R1.yes ht h (e1.trans h)) (e.trans h)
 ·exact R2.no2 ht (e1.trans h) (R1.no ht h) (e.trans h)
structure Fin (w:Wd):Prop extends Cm w where
 fin:∀ t:Int,1<=t->t<=(vw w).F.length->(vw w).sF t=4\/(vw w).sF t=5
theorem F_pos(ho:WOk w){t:Int}(h1:1<=t)(hl:t<=(vw w).F.length):isT t/\1<=(vw w).sF t/\(vw w).sF t<=5:=by
 have hT:=ho.dk.trOk true
 have h6:(vw w).F.length<=6:=hT.len
 have:=tripOk_iff.1 (hT.ok _ (gx (l:=(vw w).F) (t:=t) (by omega)))
 exact⟨⟨h1,by omega⟩,this.2⟩
theorem Cm.fin4(c:Cm w):Fin (cH w 4):=by
 have R1:=c.rnd
 have R2:=R1.c'.rnd
 have R3:=R2.c'.rnd
 have R4:=R3.c'.rnd
 refine⟨R4.c',fun t h1 hl=>?_⟩
 change t<=((vw (aY (aY (aY (aY w))))).F.length:Int)at hl
 show (vw (aY (aY (aY (aY w))))).sF t=4\/(vw (aY (aY (aY (aY w))))).sF t=5
 rw[R4.len,R3.len,R2.len,R1.len]at hl
 obtain⟨ht,hs⟩:=F_pos c.ok h1 hl
 have s1:=(R1.step ht (by omega)).1
 have s2:=(R2.step ht (by omega)).1
 have s3:=(R3.step ht (by omega)).1
 have s4:=(R4.step ht (by omega)).1
 have t1:=fun h=>c.two ht h
 have t2:=fun h=>R2.c'.two ht h
 generalize (vw w).sF t=a at *
 generalize (vw (aY w)).sF t=b at *
 generalize (vw (aY (aY w))).sF t=c2 at *
 generalize (vw (aY (aY (aY w)))).sF t=d at *
 generalize (vw (aY (aY (aY (aY w))))).sF t=e at *
 have q1:a=1->c2≠1:=fun h h2=>t1 (by omega) (by omega)
 have q2:c2=2->e≠2:=fun h h2=>t2 (by omega) (by omega)
 have q3:c2=3->e≠3:=fun h h2=>t2 (by omega) (by omega)
 omega
theorem Fin.words(f:Fin w):aM w.dk=[]:=by
 refine List.eq_nil_iff_forall_not_mem.2 fun x hx=>?_
 obtain⟨h1,h2,_,h4,h5,_⟩:=da f.ok.dk hx
 have:=f.fin x.t h1.t.1 h4
 have e:(vw w).sF x.t=x.k:=h5
 omega
theorem Fin.round(f:Fin w):aY w=w:=by
 have h:aY w=aX (cE w (aM w.dk)):=by
  have e0:({cN w with ns:=[]}:Wd)=w:=by
   rw[mm f.up]
   obtain⟨d,hs,ns⟩:=w
   have:=f.ns
   simp only at this;subst this;rfl
  unfold aY
  rw[e0,f.ns,fP f.up.dk];rfl
 rw[h,f.words]
 show aX w=w
 have h2:w.hs.map bU=w.hs:=by
  conv=>rhs;rw[<-List.map_id w.hs]
  exact List.map_congr_left fun h hh=>we (f.hf h hh)
 unfold aX
 rw[wd f.df,h2]
theorem Fin.calm(f:Fin w):∀ n:Nat,cH w n=w
 | 0=>rfl
 | n+1=>by
  show cH (aY w) n=w
  rw[f.round];exact f.calm n
theorem mn:∀(a b:Nat) (w:Wd),cH w (a+b)=cH (cH w a) b
 | 0,b,w=>by rw[Nat.zero_add];rfl
 | a+1,b,w=>by rw[Nat.add_right_comm];exact mn a b (aY w)
theorem Ei(ho:WOk w)(I:Inv (vw w)):Fin (cH w 9):=by
 have f:=(Eh ho I).1.fin4
 have e:cH w 9=cH w (1+(4+4)):=rfl
 rw[e,mn,mn]
 have e1:cH w 1=aY w:=rfl
 rw[e1,f.calm];exact f
theorem Fin.hold(f:Fin w){h t:Int}(hh:isH h)(ht:isT t):(((vw w).hA h t).s=0/\((vw w).hA h t).m=0/\((vw w).sF t=0\/(vw w).want t h=0))\/(((vw w).hA h t).s=2/\(vw w).sF t=4/\((vw w).hA h t).m=(vw w).want t h)\/(((vw w).hA h t).s=3/\(vw w).sF t=5):=by
 have hF:=f.hF hh t
 have sAF:(vw w).sA t=(vw w).sF t:=by unfold V.sA V.sF;rw[f.F]
 by_cases h0:((vw w).hA h t).s=0
 ·left
  refine⟨h0,?_,?_⟩
  ·have:=f.I.okA h t hh ht
   unfold bi at this;rw[if_pos h0]at this;simpa using this
  by_cases hs:(vw w).sF t=0
  ·exact .inl hs
  ·right
   have hl:=cr hs
   have h1:=ht.1
   have:=f.fin t ht.1 (by omega)
   have tf:=f.I.trip t ht
   have hmem:=(tripOk_iff.1 ((f.ok.dk.trOk true).ok _ (gx hl))).1
   have hge:0<=(vw w).want t h:=by
    unfold V.want Dx.mAt
    cases e:(tAt (vw w).F t).m[(h-1).toNat]? with
    | none=>simp
    | some n=>exact(ip hmem (List.mem_of_getElem? e)).1
   by_cases hw:0<(vw w).want t h
   ·rcases this with e|e
    ·have:=tf.kept (sAF.trans e) h hh hw;rw[hF]at this;omega
    ·have:=(tf.left (sAF.trans e)).2 h hh hw;rw[hF]at this;omega
   ·omega
 ·right
  have g:=f.I.hold h t hh ht h0
  have hl:=cr g.s
  have h1:=ht.1
  have:=f.fin t ht.1 (by omega)
  have tf:=f.I.trip t ht
  rcases this with e|e
  ·left
   have k:=tf.kept (sAF.trans e) h hh g.w
   rw[hF]at k
   exact⟨k,e,g.m (by omega)⟩
  ·right
   have k:=(tf.left (sAF.trans e)).2 h hh g.w
   rw[hF]at k
   exact⟨k,e⟩
end Dx
namespace Dx
variable {w:Wd}
def gy(l:List Trip)(h:Int):Int:=(l.map fun x=>if x.s=4 then mAt x.m h else 0).sum
theorem sum6(l:List Trip)(hl:l.length<=6)(h:Int):gy l h=(([1,2,3,4,5,6]:List Int).map fun t=>if(tAt l t).s=4 then mAt (tAt l t).m h else 0).sum:=by
 match l,hl with
 | [],_=>rfl
 | [a],_=>simp[gy,tAt]
 | [a,b],_=>simp[gy,tAt]
 | [a,b,c],_=>simp[gy,tAt]
 | [a,b,c,d],_=>simp[gy,tAt]
 | [a,b,c,d,e],_=>simp[gy,tAt]
 | [a,b,c,d,e,f],_=>simp[gy,tAt]
theorem had6{hs:List Hold}(hl:hs.length=6):(hs.map had).sum=(([1,2,3,4,5,6]:List Int).map fun t=>had (hAt hs t)).sum:=by
 match hs,hl with
 | [a,b,c,d,e,f],_=>simp[hAt]
theorem map6{f g:Int->Int}(h:∀ t:Int,isT t->f t=g t):(([1,2,3,4,5,6]:List Int).map f).sum=(([1,2,3,4,5,6]:List Int).map g).sum:=by
 have e:([1,2,3,4,5,6]:List Int).map f=([1,2,3,4,5,6]:List Int).map g:=List.map_congr_left fun t ht=>h t (by simp at ht;unfold isT;omega)
 rw[e]
theorem Fin.free(f:Fin w){h:Int}(hh:isH h):Dx.free (al (houseAt w h) true)+gy (vw w).F h=(houseAt w h).room:=by
 have hho:=(f.ok.houseAt hh).2.1
 have hs:=hho.stOk true
 have hr:=hho.room true
 unfold Dx.free
 rw[hr,had6 hs.len,sum6 (vw w).F (f.ok.dk.trOk true).len,map6 (f:=fun t=>had (hAt (al (houseAt w h) true).hs t)) (g:=fun t=>if(tAt (vw w).F t).s=4 then mAt (tAt (vw w).F t).m h else 0)]
 ·omega
 ·intro t ht
  have e:hAt (al (houseAt w h) true).hs t=(vw w).hA h t:=f.hF hh t
  rw[e]
  unfold had
  rcases f.hold hh ht with ⟨h1,h2,h3⟩|⟨h1,h2,h3⟩|⟨h1,h2⟩
  ·rw[if_neg (by omega)]
   split
   ·rename_i h4
    rcases h3 with h3|h3
    ·unfold V.sF at h3;omega
    ·exact h3.symm
   ·rfl
  ·have h2':(tAt (vw w).F t).s=4:=h2
   rw[if_pos (.inr h1),if_pos h2',h3];rfl
  ·rw[if_neg (by omega),if_neg (by unfold V.sF at h2;omega)]
end Dx
