import Derived.KernelRfl
set_option linter.all false
namespace Dx
structure Rec where
 k:Int
 t:Int
 m:List Int
 deriving DecidableEq
structure Log where
 rs:List Rec
 f:Int
 deriving DecidableEq
structure Hold where
 m:Int
 s:Int
 deriving DecidableEq
structure Stock where
 room:Int
 hs:List Hold
 deriving DecidableEq
structure Word where
 k:Int
 h:Int
 t:Int
 m:Int
 deriving DecidableEq
structure House where
 id:Int
 up:Bool
 room:Int
 lg:Log
 deriving DecidableEq
structure Trip where
 m:List Int
 s:Int
 deriving DecidableEq
structure Desk where
 up:Bool
 lg:Log
 td:List Word
 deriving DecidableEq
structure Wd where
 dk:Desk
 hs:List House
 ns:List Word
 deriving DecidableEq
structure Ev where
 k:Int
 a:Int
 b:Int
 m:List Int
 deriving DecidableEq
def in_(n lo hi:Int):Bool:=decide (lo<=n) && decide (n<=hi)
theorem in_iff{n lo hi:Int}:in_ n lo hi=true↔lo<=n/\n<=hi:=by simp[in_]
theorem in_false{n lo hi:Int}:in_ n lo hi=false↔¬ (lo<=n/\n<=hi):=by simp[in_]
def cZ(m:List Int):Bool:=m.all (fun n=>in_ n 0 3) && (m.length==3 && decide (m.sum>0))
def aL(r:Rec):Bool:=in_ r.t 1 6 && (if r.k=1 then(match r.m with|[n]=>in_ n 1 3|_=>false) else if r.k=4 then cZ r.m else in_ r.k 2 7 && r.m.isEmpty)
def gv(l:Log):Bool:=l.rs.all aL && (decide (l.rs.length<=40) && in_ l.f 0 l.rs.length)
def dJ(l:Log)(r:Rec):Log:=if l.rs.length>=40 then l else⟨l.rs++[r],l.f⟩
def nO(l:Log):Bool:=!decide (l.rs.length>=40)
def fv(l:Log):Log:=⟨l.rs,l.rs.length⟩
def eO(l:Log)(keep:Int):Int:=if keep>0 then l.f+min keep (l.rs.length-l.f) else l.f
def fL(l:Log)(keep:Int):Log:=⟨l.rs.take (eO l keep).toNat,eO l keep⟩
def aW(l:Log)(forced:Bool):List Rec:=if forced then l.rs.take l.f.toNat else l.rs
def bz(h:Hold):Bool:=if h.s=0 then h.m==0 else if h.s=1\/h.s=2 then in_ h.m 1 3 else if h.s=3 then in_ h.m 0 3 else false
def had(h:Hold):Int:=if h.s=1\/h.s=2 then h.m else 0
def free(s:Stock):Int:=s.room-(s.hs.map had).sum
def cq(room:Int):Stock:=⟨room,List.replicate 6 ⟨0,0⟩⟩
def hAt(hs:List Hold)(t:Int):Hold:=(hs[(t-1).toNat]?).getD ⟨0,0⟩
def fe(s:Stock)(t:Int):Int:=(hAt s.hs t).s
def may(s:Stock)(r:Rec):Bool :=
 if r.k=1 then(fe s r.t==0) && decide (r.m.headD 0<=free s)
 else if r.k=2 then fe s r.t==1
 else if r.k=3 then(fe s r.t==1) || (fe s r.t==0)
 else false
def i7(h:Hold)(r:Rec):Hold:=if r.k=1 then⟨r.m.headD 0,1⟩ else if r.k=2 then⟨h.m,2⟩ else if r.k=3 then⟨h.m,3⟩ else h
def act(s:Stock)(r:Rec):Stock:=⟨s.room,s.hs.set (r.t-1).toNat (i7 (hAt s.hs r.t) r)⟩
def b9:List Rec->Stock->Option Stock
 | [],s=>some s
 | r::rs,s=>if aL r && may s r then b9 rs (act s r) else none
def co(room:Int)(rs:List Rec):Option Stock:=if in_ room 0 9 then b9 rs (cq room) else none
def bG(w:Word):Bool:=in_ w.h 1 3 && (in_ w.t 1 6 && (in_ w.k 1 7 && (if w.k=1 then in_ w.m 1 3 else w.m==0)))
def cN(h:House):Bool:=in_ h.id 1 3 && (gv h.lg && (co h.room h.lg.rs).isSome)
def am(h:House)(forced:Bool):Stock:=(co h.room (aW h.lg forced)).getD ⟨0,[]⟩
def bI(w:Word):Rec:=if w.k=1 then⟨1,w.t,[w.m]⟩ else if w.k=2 then⟨2,w.t,[]⟩ else⟨3,w.t,[]⟩
def answer(id:Int)(w:Word)(st:Int):Option Word :=
 if w.k=1/\(st=1\/st=2) then some ⟨4,id,w.t,0⟩
 else if w.k=1/\st=3 then some ⟨5,id,w.t,0⟩
 else if w.k=2/\st=2 then some ⟨6,id,w.t,0⟩
 else if w.k=3/\st=3 then some ⟨7,id,w.t,0⟩
 else none
def hhear(h:House)(w:Word):House×Option Word :=
 if !h.up || !bG w || w.h != h.id || decide (w.k>3) then(h,none)
 else if may (am h false) (bI w) then({h with lg:=dJ h.lg (bI w)},none)
 else if w.k=1/\fe (am h false) w.t=0 then(h,some ⟨5,h.id,w.t,0⟩)
 else(h,answer h.id w (fe (am h true) w.t))
def bY(h:House):House:=if h.up then {h with lg:=fv h.lg} else h
def hfall(h:House)(keep:Int):House:={h with up:=false,lg:=fL h.lg keep}
def fj(h:House):House:={h with up:=true}
def ei(t:Trip):Bool:=cZ t.m && in_ t.s 1 5
def eQ(l:List Trip):Bool:=l.all ei && decide (l.length<=6)
def tAt(l:List Trip)(t:Int):Trip:=(l[(t-1).toNat]?).getD ⟨[],0⟩
def cG(l:List Trip)(r:Rec):Bool :=
 if r.k=4 then r.t==(l.length:Int)+1
 else if r.t>l.length then false
 else if r.k=5\/r.k=6 then(tAt l r.t).s==1
 else if r.k=7 then(tAt l r.t).s==2 || (tAt l r.t).s==3
 else false
def cQ(l:List Trip)(r:Rec):List Trip :=
 if r.k=4 then l++[⟨r.m,1⟩]
 else if r.k=5 then l.set (r.t-1).toNat ⟨(tAt l r.t).m,2⟩
 else if r.k=6 then l.set (r.t-1).toNat ⟨(tAt l r.t).m,3⟩
 else if r.k=7 then l.set (r.t-1).toNat ⟨(tAt l r.t).m,(tAt l r.t).s+2⟩
 else l
def cj:List Rec->List Trip->Option (List Trip)
 | [],l=>some l
 | r::rs,l=>if aL r && cG l r then cj rs (cQ l r) else none
def bj(rs:List Rec):Option (List Trip):=cj rs []
def deskNew:Desk:=⟨true,⟨[],0⟩,[]⟩
def dY(n:Nat):List Word->List Word->Bool
 | _,[]=>true
 | before,w::ws=>bG w && decide (w.k>=4) && decide (w.t<=n) && !before.contains w && dY n (before++[w]) ws
def bH(d:Desk):Bool:=gv d.lg && (match bj d.lg.rs with
 | some l=>dY l.length [] d.td && (d.up || d.td.isEmpty)
 | none=>false)
def ai(l:Log)(forced:Bool):List Trip:=(bj (aW l forced)).getD []
def ak(d:Desk)(forced:Bool):List Trip:=ai d.lg forced
def eS(d:Desk)(r:Rec):Bool:=d.up && (cG (ak d false) r && nO d.lg)
def bh(d:Desk)(r:Rec):Desk:=if d.up && cG (ak d false) r then {d with lg:=dJ d.lg r} else d
def aH(td:List Word)(t k:Int):Int->List Int->Bool
 | _,[]=>true
 | h,n::ns=>(!decide (n>0) || td.contains ⟨k,h,t,0⟩) && aH td t k (h+1) ns
def br(td:List Word)(t k:Int):Int->List Int->Bool
 | _,[]=>false
 | h,n::ns=>(decide (n>0) && td.contains ⟨k,h,t,0⟩) || br td t k (h+1) ns
def mS(d:Desk)(t:Int):Bool:=decide (t<=(ak d true).length) && (tAt (ak d true) t).s==(tAt (ak d false) t).s
def gw(d:Desk)(t:Int):Int :=
 let x:=tAt (ak d false) t
 if x.s=1/\br d.td t 5 1 x.m then 6
 else if x.s=1/\aH d.td t 4 1 x.m then 5
 else if x.s=2/\mS d t/\aH d.td t 6 1 x.m then 7
 else if x.s=3/\mS d t/\aH d.td t 7 1 x.m then 7
 else 0
def dd(d:Desk)(t:Int):Desk:=if gw d t>0 then bh d ⟨gw d t,t,[]⟩ else d
def ce(d:Desk)(w:Word):Desk:=if d.td.contains w then d else {d with td:=d.td++[w]}
def c7(d:Desk)(w:Word):Bool:=d.up && (bG w && (decide (w.k>=4) && decide (w.t<=(ak d false).length)))
def dhear(d:Desk)(w:Word):Desk:=if c7 d w then dd (ce d w) w.t else d
def mT(s:Int):Int:=if s=1 then 4 else if s=2 then 6 else 7
def gl(td:List Word)(s t h n:Int):List Word:=if n=0\/td.contains ⟨mT s,h,t,0⟩ then [] else [⟨s,h,t,if s=1 then n else 0⟩]
def bl(td:List Word)(s t:Int):Int->List Int->List Word
 | _,[]=>[]
 | h,n::ns=>gl td s t h n++bl td s t (h+1) ns
def c8(td:List Word):Int->List Trip->List Word
 | _,[]=>[]
 | t,x::xs=>(if x.s>3 then [] else bl td x.s t 1 x.m)++c8 td (t+1) xs
def aV(d:Desk):List Word:=if d.up then c8 d.td 1 (ak d true) else []
def eg(d:Desk)(m:List Int):Rec:=⟨4,(ak d false).length+1,m⟩
def fw(d:Desk)(m:List Int):Desk:=if aL (eg d m) then bh d (eg d m) else d
def hU(d:Desk)(t:Int):Desk:=if in_ t 1 6 then bh d ⟨6,t,[]⟩ else d
def bv(d:Desk):Desk:=if d.up then {d with lg:=fv d.lg} else d
def dfall(d:Desk)(keep:Int):Desk:=⟨false,fL d.lg keep,[]⟩
def ej(d:Desk):Desk:={d with up:=true}
def cJ(rooms:List Int):List House:=(rooms.zipIdx 1).map fun p=>⟨p.2,true,p.1,⟨[],0⟩⟩
def aT(rooms:List Int):Option Wd:=if rooms.length=3/\rooms.all (fun n=>in_ n 0 9) then some ⟨deskNew,cJ rooms,[]⟩ else none
def bZ(w:Wd):Bool:=bH w.dk && (w.hs.length==3 && (decide (w.ns.length<=14) && (w.hs.all cN && ((w.hs.zipIdx 1).all (fun p=>p.1.id==(p.2:Int)) && w.ns.all bG))))
def kx(w:Wd)(x:Word):Wd:=if w.ns.length<14 then {w with ns:=w.ns++[x]} else w
def Fb(w:Wd):Option Word->Wd
 | some x=>kx w x
 | none=>w
def fY(w:Wd)(i:Int):Wd:={w with ns:=w.ns.eraseIdx i.toNat}
def houseAt(w:Wd)(i:Int):House:=(w.hs[(i-1).toNat]?).getD ⟨0,false,0,⟨[],0⟩⟩
def setHouse(w:Wd)(i:Int)(h:House):Wd:={w with hs:=w.hs.set (i-1).toNat h}
def bo(w:Wd)(x:Word):Wd×Option Word :=
 if x.k>=4 then({w with dk:=dhear w.dk x},none)
 else(setHouse w x.h (hhear (houseAt w x.h) x).1,(hhear (houseAt w x.h) x).2)
def jA(w:Wd)(e:Ev):Wd:=match if 0<=e.a then w.ns[e.a.toNat]? else none with
 | none=>w
 | some x=>if e.k=5 then fY w e.a else if e.k=6 then kx w x else Fb (bo (fY w e.a) x).1 (bo (fY w e.a) x).2
def ia(w:Wd)(e:Ev):Wd :=
 if e.k=1 then {w with dk:=fw w.dk e.m}
 else if e.k=2 then {w with dk:=hU w.dk e.a}
 else if e.k=3 then(match if 0<=e.a then(aV w.dk)[e.a.toNat]? else none with
  | some x=>kx w x
  | none=>w)
 else w
def cH(w:Wd)(i:Int):Wd:=if i=0 then {w with dk:=bv w.dk} else if in_ i 1 3 then setHouse w i (bY (houseAt w i)) else w
def cw(w:Wd)(e:Ev):Wd :=
 if in_ e.a 0 3 then
  if e.k=7 then cH w e.a
  else if e.k=8 then(if e.a=0 then {w with dk:=dfall w.dk e.b} else setHouse w e.a (hfall (houseAt w e.a) e.b))
  else if e.k=9 then(if e.a=0 then {w with dk:=ej w.dk} else setHouse w e.a (fj (houseAt w e.a)))
  else w
 else w
def wdo(w:Wd)(e:Ev):Wd :=
 if e.k=1\/e.k=2\/e.k=3 then ia w e
 else if e.k=4\/e.k=5\/e.k=6 then jA w e
 else if e.k=7\/e.k=8\/e.k=9 then cw w e
 else w
def cK(w:Wd):List Ev->Wd
 | []=>w
 | e::es=>cK (wdo w e) es
def bM(rooms:List Int)(es:List Ev):Option Wd:=if es.length>80 then none else(aT rooms).map (fun w=>cK w es)
def bq(w:Wd)(x:Word):Wd:=match (bo w x).2 with
 | some y=>(bo (bo w x).1 y).1
 | none=>(bo w x).1
def cI(w:Wd):List Word->Wd
 | []=>w
 | x::xs=>cI (bq w x) xs
def c9(w:Wd):Wd:=⟨ej w.dk,w.hs.map fj,w.ns⟩
def aY(w:Wd):Wd:=⟨bv w.dk,w.hs.map bY,w.ns⟩
def bb(w:Wd):Wd:=aY (cI {c9 w with ns:=[]} (w.ns++aV (ej w.dk)))
def bu(w:Wd):Nat->Wd
 | 0=>w
 | n+1=>bu (bb w) n
end Dx
namespace Dx
structure StOk (s:Stock):Prop where
 len:s.hs.length=6
 hold:∀ h∈s.hs,bz h=true
 room:0<=s.room/\s.room<=9
 free:0<=free s
theorem cU{r:Rec}(h:aL r=true):1<=r.t/\r.t<=6:=by
 simp only[aL,Bool.and_eq_true,in_iff]at h;exact h.1
theorem Fy{r:Rec}(h:aL r=true):1<=r.k/\r.k<=7:=by
 simp only[aL,Bool.and_eq_true]at h
 have h:=h.2
 split at h
 ·omega
 ·split at h
  ·omega
  ·simp only[Bool.and_eq_true,in_iff]at h;omega
theorem el{r:Rec}(h:aL r=true)(hk:r.k=1):∃ n,r.m=[n]/\1<=n/\n<=3:=by
 simp only[aL,Bool.and_eq_true,hk,if_true]at h
 have h:=h.2
 split at h
 ·rename_i n he;exact⟨n,he,in_iff.1 h⟩
 ·cases h
theorem iT{r:Rec}(h:aL r=true)(hk:r.k=4):cZ r.m=true:=by
 simp only[aL,Bool.and_eq_true,hk]at h
 simpa using h.2
theorem vi{r:Rec}(h:aL r=true)(h1:r.k≠1)(h4:r.k≠4):r.m=[]:=by
 simp only[aL,Bool.and_eq_true,h1,h4,if_false]at h
 simpa using h.2.2
theorem bt{m:List Int}(h:cZ m=true):m.length=3:=by
 simp only[cZ,Bool.and_eq_true,beq_iff_eq]at h;exact h.2.1
theorem fM{m:List Int}(h:cZ m=true){n:Int}(hn:n∈m):0<=n/\n<=3:=by
 simp only[cZ,Bool.and_eq_true,List.all_eq_true]at h
 exact in_iff.1 (h.1 n hn)
theorem fN{r:Rec}(h:aL r=true):r.m.length<=3:=by
 by_cases h1:r.k=1
 ·obtain⟨n,e,_⟩:=el h h1;simp[e]
 ·by_cases h4:r.k=4
  ·have:=bt (iT h h4);omega
  ·simp[vi h h1 h4]
theorem Fz{l:List Hold}{i:Nat}{a:Hold}(f:Hold->Int)(hi:i<l.length):((l.set i a).map f).sum=(l.map f).sum-f l[i]+f a:=by
 induction l generalizing i with
 | nil=>simp at hi
 | cons x xs ih=>cases i with
  | zero=>simp;omega
  | succ i=>simp only[List.length_cons]at hi;simp only[List.set_cons_succ,List.map_cons,List.sum_cons,List.getElem_cons_succ];rw[ih (by omega)];omega
theorem uD{hs:List Hold}{t:Int}(h:(t-1).toNat<hs.length):hAt hs t=hs[(t-1).toNat]:=by unfold hAt;rw[List.getElem?_eq_getElem h];rfl
theorem Ay{hs:List Hold}{t:Int}(h:(t-1).toNat<hs.length):hAt hs t∈hs:=by rw[uD h];exact List.getElem_mem h
theorem FB(s:Stock)(r:Rec):(act s r).hs.length=s.hs.length:=by simp[act]
theorem CN{s:Stock}{r:Rec}(h:(r.t-1).toNat<s.hs.length):free (act s r)=free s+had (hAt s.hs r.t)-had (i7 (hAt s.hs r.t) r):=by
 simp only[free,act]
 rw[Fz had h,uD h];omega
theorem qe{s:Stock}{r:Rec}(hs:StOk s)(hr:aL r=true)(hm:may s r=true):StOk (act s r):=by
 have ht:=cU hr
 have hi:(r.t-1).toNat<s.hs.length:=by rw[hs.len];omega
 have ho:=hs.hold _ (Ay hi)
 have hf:=hs.free
 have key:bz (i7 (hAt s.hs r.t) r)=true/\had (i7 (hAt s.hs r.t) r)<=had (hAt s.hs r.t)+free s:=by
  simp only[may,fe]at hm
  by_cases h1:r.k=1
  ·obtain⟨n,e,hn⟩:=el hr h1
   simp only[h1,if_true,e,List.headD_cons,Bool.and_eq_true,beq_iff_eq,decide_eq_true_eq]at hm
   simp[i7,h1,e,bz,had,in_iff,hn,hm]
  ·simp only[h1,if_false]at hm
   by_cases h2:r.k=2
   ·simp only[h2,if_true,beq_iff_eq]at hm
    simp only[bz,hm]at ho
    have:(hAt s.hs r.t).m=(hAt s.hs r.t).m:=rfl
    simp[i7,h2,bz,had,hm]at ho ⊢
    exact⟨ho,by omega⟩
   ·simp only[h2,if_false]at hm
    by_cases h3:r.k=3
    ·simp only[h3,if_true,Bool.or_eq_true,beq_iff_eq]at hm
     rcases hm with hm|hm
     ·simp only[bz,hm]at ho
      simp[i7,h3,bz,had,hm,in_iff]at ho ⊢
      omega
     ·simp only[bz,hm]at ho
      simp[i7,h3,bz,had,hm,in_iff]at ho ⊢
      omega
    ·simp[h3]at hm
 refine⟨by rw[FB];exact hs.len,?_,hs.room,?_⟩
 ·intro h hh
  rcases List.mem_or_eq_of_mem_set hh with hh|rfl
  ·exact hs.hold _ hh
  ·exact key.1
 ·rw[CN hi];omega
theorem fZ{room:Int}(h:0<=room/\room<=9):StOk (cq room):=by
 refine⟨by simp[cq],?_,h,?_⟩
 ·intro x hx;simp[cq,List.mem_replicate]at hx;subst hx;rfl
 ·simp[cq,free,List.replicate,had];exact h.1
theorem gQ:∀(a b:List Rec) (s:Stock),b9 (a++b) s=(b9 a s).bind (b9 b)
 | [],b,s=>rfl
 | r::a,b,s=>by
  simp only[List.cons_append,b9]
  split
  ·exact gQ a b _
  ·rfl
theorem vH:∀ {rs:List Rec} {s s':Stock},StOk s->b9 rs s=some s'->StOk s'
 | [],s,s',h,e=>by simp only[b9,Option.some.injEq]at e;exact e ▸ h
 | r::rs,s,s',h,e=>by
  simp only[b9]at e
  split at e
  ·rename_i hc;simp only[Bool.and_eq_true]at hc;exact vH (qe h hc.1 hc.2) e
  ·cases e
theorem nP:∀ {rs:List Rec} {s s':Stock},b9 rs s=some s'->s'.room=s.room
 | [],s,s',e=>by simp only[b9,Option.some.injEq]at e;rw[e]
 | r::rs,s,s',e=>by
  simp only[b9]at e
  split at e
  ·exact(nP e).trans rfl
  ·cases e
theorem yj{rs:List Rec}{s s':Stock}(h:b9 rs s=some s')(n:Nat):∃ s1,b9 (rs.take n) s=some s1/\b9 (rs.drop n) s1=some s':=by
 rw[<-List.take_append_drop n rs,gQ]at h
 cases h1:b9 (rs.take n) s with
 | none=>rw[h1]at h;cases h
 | some s1=>rw[h1]at h;exact⟨s1,rfl,h⟩
theorem stockOf_some{room:Int}{rs:List Rec}{s:Stock}:co room rs=some s↔(0<=room/\room<=9)/\b9 rs (cq room)=some s:=by
 simp only[co]
 split
 ·rename_i h;simp[in_iff.1 h]
 ·rename_i h;simp only[reduceCtorEq,false_iff];intro ⟨h1,_⟩;exact h (in_iff.2 h1)
theorem jV{room:Int}{rs:List Rec}{s:Stock}(h:co room rs=some s):StOk s/\s.room=room:=by
 obtain⟨h1,h2⟩:=stockOf_some.1 h
 exact⟨vH (fZ h1) h2,nP h2⟩
theorem dV{room:Int}{rs:List Rec}{s:Stock}(h:co room rs=some s)(n:Nat):∃ s1,co room (rs.take n)=some s1/\b9 (rs.drop n) s1=some s:=by
 obtain⟨h1,h2⟩:=stockOf_some.1 h
 obtain⟨s1,h3,h4⟩:=yj h2 n
 exact⟨s1,stockOf_some.2 ⟨h1,h3⟩,h4⟩
theorem yk{rs:List Rec}{r:Rec}{s s1:Stock}(h:b9 rs s=some s1)(hr:aL r=true)(hm:may s1 r=true):b9 (rs++[r]) s=some (act s1 r):=by
 rw[gQ,h];simp[b9,hr,hm]
theorem ky{room:Int}{rs:List Rec}{r:Rec}{s:Stock}(h:co room rs=some s)(hr:aL r=true)(hm:may s r=true):co room (rs++[r])=some (act s r):=by
 obtain⟨h1,h2⟩:=stockOf_some.1 h
 exact stockOf_some.2 ⟨h1,yk h2 hr hm⟩
structure LgOk (l:Log):Prop where
 ok:∀ r∈l.rs,aL r=true
 len:l.rs.length<=40
 lo:0<=l.f
 hi:l.f<=l.rs.length
theorem logOk_iff{l:Log}:gv l=true↔LgOk l:=by
 simp only[gv,Bool.and_eq_true,List.all_eq_true,decide_eq_true_eq,in_iff]
 exact⟨fun⟨h1,h2,h3,h4⟩=>⟨h1,h2,h3,h4⟩,fun h=>⟨h.ok,h.len,h.lo,h.hi⟩⟩
theorem LgOk.add{l:Log}(h:LgOk l){r:Rec}(hr:aL r=true):LgOk (dJ l r):=by
 unfold dJ
 split
 ·exact h
 ·rename_i hl
  refine⟨fun x hx=>?_,by simp;omega,h.lo,?_⟩
  ·rcases List.mem_append.1 hx with hx|hx
   ·exact h.ok x hx
   ·simp at hx;exact hx ▸ hr
  ·have:=h.hi;simp;omega
theorem LgOk.force{l:Log}(h:LgOk l):LgOk (fv l):=⟨h.ok,h.len,by simp[fv],by simp[fv]⟩
theorem LgOk.keep{l:Log}(h:LgOk l)(keep:Int):l.f<=eO l keep/\eO l keep<=l.rs.length:=by
 have:=h.hi
 unfold eO
 split<;>omega
theorem LgOk.fall{l:Log}(h:LgOk l)(keep:Int):LgOk (fL l keep):=by
 have hk:=h.keep keep
 have:=h.lo
 refine⟨fun x hx=>h.ok x (List.mem_of_mem_take hx),?_,by simp only[fL];omega,?_⟩
 ·simp only[fL,List.length_take];have:=h.len;omega
 ·simp only[fL,List.length_take];omega
structure HsOk (h:House):Prop where
 id:1<=h.id/\h.id<=3
 lg:LgOk h.lg
 st:∃ s,co h.room h.lg.rs=some s
theorem houseOk_iff{h:House}:cN h=true↔HsOk h:=by
 simp only[cN,Bool.and_eq_true,in_iff,logOk_iff,Option.isSome_iff_exists]
 exact⟨fun⟨h1,h2,h3⟩=>⟨h1,h2,h3⟩,fun h=>⟨h.id,h.lg,h.st⟩⟩
theorem HsOk.stock{h:House}(ho:HsOk h)(forced:Bool):co h.room (aW h.lg forced)=some (am h forced):=by
 obtain⟨s,e⟩:=ho.st
 cases forced with
 | false=>simp[am,aW,e]
 | true =>
  obtain⟨s1,e1,_⟩:=dV e h.lg.f.toNat
  simp[am,aW,e1]
theorem HsOk.stOk{h:House}(ho:HsOk h)(forced:Bool):StOk (am h forced):=(jV (ho.stock forced)).1
theorem HsOk.room{h:House}(ho:HsOk h)(forced:Bool):(am h forced).room=h.room:=(jV (ho.stock forced)).2
theorem HsOk.write{h:House}(ho:HsOk h){r:Rec}(hr:aL r=true)(hm:may (am h false) r=true):HsOk {h with lg:=dJ h.lg r}:=by
 refine⟨ho.id,ho.lg.add hr,?_⟩
 have e:=ho.stock false
 simp only[aW,Bool.false_eq_true,if_false]at e
 unfold dJ
 split
 ·exact⟨_,e⟩
 ·exact⟨_,ky e hr hm⟩
theorem HsOk.force{h:House}(ho:HsOk h):HsOk (bY h):=by
 unfold bY
 split
 ·exact⟨ho.id,ho.lg.force,ho.st⟩
 ·exact ho
theorem HsOk.fall{h:House}(ho:HsOk h)(keep:Int):HsOk (hfall h keep):=by
 obtain⟨s,e⟩:=ho.st
 obtain⟨s1,e1,_⟩:=dV e (eO h.lg keep).toNat
 exact⟨ho.id,ho.lg.fall keep,s1,e1⟩
theorem HsOk.rise{h:House}(ho:HsOk h):HsOk (fj h):=⟨ho.id,ho.lg,ho.st⟩
structure WdOk (w:Word):Prop where
 h:1<=w.h/\w.h<=3
 t:1<=w.t/\w.t<=6
 k:1<=w.k/\w.k<=7
 m1:w.k=1->1<=w.m/\w.m<=3
 m0:w.k≠1->w.m=0
theorem wordOk_iff{w:Word}:bG w=true↔WdOk w:=by
 simp only[bG,Bool.and_eq_true,in_iff]
 constructor
 ·intro ⟨h1,h2,h3,h4⟩
  refine⟨h1,h2,h3,fun hk=>?_,fun hk=>?_⟩
  ·simp only[hk,if_true,in_iff]at h4;exact h4
  ·simpa [hk] using h4
 ·intro h
  refine⟨h.h,h.t,h.k,?_⟩
  split
  ·rename_i hk;exact in_iff.2 (h.m1 hk)
  ·rename_i hk;simp[h.m0 hk]
theorem cW{w:Word}(h:WdOk w):aL (bI w)=true:=by
 unfold bI aL
 have ht:=in_iff.2 h.t
 split
 ·rename_i hk;simp[ht,in_iff,h.m1 hk]
 ·split<;>simp[in_,h.t]
theorem Az(w:Word):(bI w).t=w.t:=by
 unfold bI
 split
 ·rfl
 ·split<;>rfl
theorem pq(h:House)(w:Word):(hhear h w).1.id=h.id/\(hhear h w).1.up=h.up/\(hhear h w).1.room=h.room:=by
 unfold hhear
 split
 ·simp
 ·split
  ·simp
  ·split<;>simp
theorem HsOk.hear{h:House}(ho:HsOk h)(w:Word):HsOk (hhear h w).1:=by
 unfold hhear
 split
 ·exact ho
 ·rename_i hc
  simp only[Bool.or_eq_true,not_or,Bool.not_eq_true,Bool.not_eq_false',Bool.not_eq_eq_eq_not,Bool.not_true,Bool.not_false]at hc
  split
  ·rename_i hm
   exact ho.write (cW (wordOk_iff.1 (by simpa using hc.1.1.2))) hm
  ·split<;>exact ho
theorem Bp{id:Int}{w x:Word}{st:Int}(hi:1<=id/\id<=3)(hw:1<=w.t/\w.t<=6)(h:answer id w st=some x):WdOk x/\4<=x.k/\x.h=id/\x.t=w.t/\x.m=0:=by
 unfold answer at h
 have key:∀ k:Int,4<=k->k<=7->some (⟨k,id,w.t,0⟩:Word)=some x->WdOk x/\4<=x.k/\x.h=id/\x.t=w.t/\x.m=0:=by
  intro k h1 h2 e
  simp only[Option.some.injEq]at e;subst e
  exact⟨⟨hi,hw,⟨by simp only;omega,h2⟩,fun e=>by simp only at e;omega,fun _=>rfl⟩,h1,rfl,rfl,rfl⟩
 split at h
 ·exact key _ (by omega) (by omega) h
 ·split at h
  ·exact key _ (by omega) (by omega) h
  ·split at h
   ·exact key _ (by omega) (by omega) h
   ·split at h
    ·exact key _ (by omega) (by omega) h
    ·cases h
theorem Bq{h:House}(ho:HsOk h){w x:Word}(e:(hhear h w).2=some x):WdOk x/\4<=x.k/\x.h=h.id/\x.t=w.t/\x.m=0:=by
 unfold hhear at e
 split at e
 ·cases e
 ·rename_i hc
  simp only[Bool.or_eq_true,not_or,Bool.not_eq_true,Bool.not_eq_false',Bool.not_eq_eq_eq_not,Bool.not_true,Bool.not_false]at hc
  have hw:=wordOk_iff.1 (show bG w=true by simpa using hc.1.1.2)
  split at e
  ·cases e
  ·split at e
   ·simp only[Option.some.injEq]at e;subst e
    exact⟨⟨ho.id,hw.t,by simp,by simp,by simp⟩,by simp,rfl,rfl,rfl⟩
   ·exact Bp ho.id hw.t e
structure TrOk (l:List Trip):Prop where
 ok:∀ t∈l,ei t=true
 len:l.length<=6
theorem tripsOk_iff{l:List Trip}:eQ l=true↔TrOk l:=by
 simp only[eQ,Bool.and_eq_true,List.all_eq_true,decide_eq_true_eq]
 exact⟨fun⟨a,b⟩=>⟨a,b⟩,fun h=>⟨h.ok,h.len⟩⟩
theorem tripOk_iff{t:Trip}:ei t=true↔cZ t.m=true/\1<=t.s/\t.s<=5:=by simp[ei,in_iff]
theorem qf{l:List Trip}{t:Int}(h:(t-1).toNat<l.length):tAt l t=l[(t-1).toNat]:=by unfold tAt;rw[List.getElem?_eq_getElem h];rfl
theorem eT{l:List Trip}{t:Int}(h:(t-1).toNat<l.length):tAt l t∈l:=by rw[qf h];exact List.getElem_mem h
theorem eU{l:List Trip}(r:Rec):(cQ l r).length=if r.k=4 then l.length+1 else l.length:=by
 unfold cQ
 split
 ·simp
 ·split
  ·simp
  ·split
   ·simp
   ·split<;>simp
theorem nQ{l:List Trip}{r:Rec}(hl:TrOk l)(hr:aL r=true)(hm:cG l r=true):TrOk (cQ l r):=by
 have ht:=cU hr
 by_cases h4:r.k=4
 ·simp only[cG,h4,if_true,beq_iff_eq]at hm
  refine⟨fun x hx=>?_,by rw[eU,if_pos h4];omega⟩
  simp only[cQ,h4,if_true,List.mem_append,List.mem_singleton]at hx
  rcases hx with hx|rfl
  ·exact hl.ok x hx
  ·exact tripOk_iff.2 ⟨iT hr h4,by simp,by simp⟩
 ·refine⟨fun x hx=>?_,by rw[eU,if_neg h4];exact hl.len⟩
  simp only[cG,h4,if_false]at hm
  split at hm
  ·cases hm
  rename_i hlt
  have hi:(r.t-1).toNat<l.length:=by omega
  have ho:=tripOk_iff.1 (hl.ok _ (eT hi))
  unfold cQ at hx
  simp only[h4,if_false]at hx
  split at hx
  ·rcases List.mem_or_eq_of_mem_set hx with hx|rfl
   ·exact hl.ok x hx
   ·exact tripOk_iff.2 ⟨ho.1,by simp,by simp⟩
  ·split at hx
   ·rcases List.mem_or_eq_of_mem_set hx with hx|rfl
    ·exact hl.ok x hx
    ·exact tripOk_iff.2 ⟨ho.1,by simp,by simp⟩
   ·split at hx
    ·rename_i h5 h6 h7
     rcases List.mem_or_eq_of_mem_set hx with hx|rfl
     ·exact hl.ok x hx
     ·rw[if_neg (by omega),if_pos h7]at hm
      simp only[Bool.or_eq_true,beq_iff_eq]at hm
      exact tripOk_iff.2 ⟨ho.1,by simp only;omega,by simp only;omega⟩
    ·exact hl.ok x hx
theorem gR:∀(a b:List Rec) (l:List Trip),cj (a++b) l=(cj a l).bind (cj b)
 | [],b,l=>rfl
 | r::a,b,l=>by
  simp only[List.cons_append,cj]
  split
  ·exact gR a b _
  ·rfl
theorem pr:∀ {rs:List Rec} {l l':List Trip},TrOk l->cj rs l=some l'->TrOk l'/\l.length<=l'.length
 | [],l,l',h,e=>by simp only[cj,Option.some.injEq]at e;exact e ▸ ⟨h,Nat.le_refl _⟩
 | r::rs,l,l',h,e=>by
  simp only[cj]at e
  split at e
  ·rename_i hc;simp only[Bool.and_eq_true]at hc
   have:=pr (nQ h hc.1 hc.2) e
   refine⟨this.1,Nat.le_trans ?_ this.2⟩
   rw[eU];split<;>omega
  ·cases e
theorem yl{rs:List Rec}{l l':List Trip}(h:cj rs l=some l')(n:Nat):∃ l1,cj (rs.take n) l=some l1/\cj (rs.drop n) l1=some l':=by
 rw[<-List.take_append_drop n rs,gR]at h
 cases h1:cj (rs.take n) l with
 | none=>rw[h1]at h;cases h
 | some s1=>rw[h1]at h;exact⟨s1,rfl,h⟩
theorem TrOk.nil:TrOk []:=⟨by simp,by simp⟩
theorem jW{rs:List Rec}{l:List Trip}(h:bj rs=some l):TrOk l:=(pr TrOk.nil h).1
theorem dm{rs:List Rec}{l:List Trip}(h:bj rs=some l)(n:Nat):∃ l1,bj (rs.take n)=some l1/\cj (rs.drop n) l1=some l/\l1.length<=l.length:=by
 obtain⟨l1,h1,h2⟩:=yl h n
 exact⟨l1,h1,h2,(pr (jW h1) h2).2⟩
theorem kz{rs:List Rec}{r:Rec}{l:List Trip}(h:bj rs=some l)(hr:aL r=true)(hm:cG l r=true):bj (rs++[r])=some (cQ l r):=by
 unfold bj at h ⊢
 rw[gR,h];simp[cj,hr,hm]
theorem jX(n:Nat):∀(ws before:List Word),dY n before ws=true↔(∀ w∈ws,WdOk w/\4<=w.k/\w.t<=n)/\ws.Nodup/\∀ w∈ws,w∉before
 | [],before=>by simp[dY]
 | w::ws,before=>by
  simp only[dY,Bool.and_eq_true,jX n ws,wordOk_iff,decide_eq_true_eq,Bool.not_eq_true',List.mem_cons,List.nodup_cons,List.mem_append,List.mem_singleton,not_or,forall_eq_or_imp,List.contains_eq_mem,decide_eq_false_iff_not,ge_iff_le]
  constructor
  ·rintro⟨⟨⟨⟨h1,h2⟩,h3⟩,h4⟩,h5,h6,h7⟩
   exact⟨⟨⟨h1,h2,h3⟩,h5⟩,⟨fun hw=>(h7 w hw).2.1 rfl,h6⟩,h4,fun x hx=>(h7 x hx).1⟩
  ·rintro⟨⟨⟨h1,h2,h3⟩,h5⟩,⟨h6,h7⟩,h8,h9⟩
   exact⟨⟨⟨⟨h1,h2⟩,h3⟩,h8⟩,h5,h7,fun x hx=>⟨h9 x hx,fun e=>h6 (e ▸ hx),by simp⟩⟩
structure DkOk (d:Desk):Prop where
 lg:LgOk d.lg
 tr:bj d.lg.rs=some (ak d false)
 td:∀ w∈d.td,WdOk w/\4<=w.k/\w.t<=(ak d false).length
 nd:d.td.Nodup
 up:d.up=true\/d.td=[]
theorem jY{d:Desk}{l:List Trip}(e:bj d.lg.rs=some l):ak d false=l:=by simp[ak,ai,aW,e]
theorem deskOk_iff{d:Desk}:bH d=true↔DkOk d:=by
 simp only[bH,Bool.and_eq_true,logOk_iff]
 constructor
 ·rintro⟨h1,h2⟩
  split at h2
  ·rename_i l e
   have hl:=jY e
   simp only[Bool.and_eq_true,jX,Bool.or_eq_true,List.isEmpty_iff]at h2
   exact⟨h1,by rw[hl];exact e,by rw[hl];exact h2.1.1,h2.1.2.1,h2.2⟩
  ·cases h2
 ·intro h
  refine⟨h.lg,?_⟩
  rw[h.tr]
  simp only[Bool.and_eq_true,jX,Bool.or_eq_true,List.isEmpty_iff]
  exact⟨⟨h.td,h.nd,by simp⟩,h.up⟩
theorem DkOk.trips{d:Desk}(h:DkOk d)(forced:Bool):bj (aW d.lg forced)=some (ak d forced):=by
 cases forced with
 | false=>simpa [aW] using h.tr
 | true =>
  obtain⟨l1,e,_⟩:=dm h.tr d.lg.f.toNat
  simp[ak,ai,aW,e]
theorem DkOk.trOk{d:Desk}(h:DkOk d)(forced:Bool):TrOk (ak d forced):=jW (h.trips forced)
theorem DkOk.sub{d:Desk}(h:DkOk d):(ak d true).length<=(ak d false).length:=by
 obtain⟨l1,e,_,h3⟩:=dm h.tr d.lg.f.toNat
 have:=h.trips true
 simp only[aW,if_true]at this
 rw[this]at e;simp only[Option.some.injEq]at e;rw[e];exact h3
theorem fx(d:Desk)(r:Rec):(bh d r).td=d.td/\(bh d r).up=d.up/\(bh d r).lg.f=d.lg.f:=by
 unfold bh dJ
 split
 ·split<;>exact⟨rfl,rfl,rfl⟩
 ·exact⟨rfl,rfl,rfl⟩
theorem DkOk.write{d:Desk}(h:DkOk d){r:Rec}(hr:aL r=true):DkOk (bh d r)/\(ak d false).length<=(ak (bh d r) false).length:=by
 unfold bh
 split
 case isFalse=>exact⟨h,Nat.le_refl _⟩
 rename_i hc
 simp only[Bool.and_eq_true]at hc
 by_cases hl:d.lg.rs.length>=40
 ·have e:dJ d.lg r=d.lg:=by simp[dJ,hl]
  rw[e];exact⟨h,Nat.le_refl _⟩
 ·have e:dJ d.lg r=⟨d.lg.rs++[r],d.lg.f⟩:=by simp[dJ,hl]
  have e2:=kz h.tr hr hc.2
  have e3:ak {d with lg:=dJ d.lg r} false=cQ (ak d false) r:=jY (by rw[e];exact e2)
  have hlen:(ak d false).length<=(cQ (ak d false) r).length:=by rw[eU];split<;>omega
  refine⟨⟨h.lg.add hr,by rw[e3,e];exact e2,?_,h.nd,h.up⟩,by rw[e3];exact hlen⟩
  intro w hw
  obtain⟨a,b,c⟩:=h.td w hw
  rw[e3];exact⟨a,b,by omega⟩
theorem DkOk.tell{d:Desk}(h:DkOk d){w:Word}(hw:c7 d w=true):DkOk (ce d w):=by
 simp only[c7,Bool.and_eq_true,decide_eq_true_eq,wordOk_iff]at hw
 unfold ce
 split
 ·exact h
 ·rename_i hc
  refine⟨h.lg,h.tr,fun x hx=>?_,?_,.inl hw.1⟩
  ·rcases List.mem_append.1 hx with hx|hx
   ·exact h.td x hx
   ·simp at hx;subst hx;exact⟨hw.2.1,hw.2.2.1,hw.2.2.2⟩
  ·rw[List.nodup_append]
   refine⟨h.nd,by simp,fun a ha b hb e=>?_⟩
   simp at hb;subst hb;subst e
   simp at hc;exact hc ha
theorem lL{d:Desk}{t:Int}(ht:1<=t/\t<=6)(hk:gw d t>0):aL ⟨gw d t,t,[]⟩=true:=by
 have:gw d t=5\/gw d t=6\/gw d t=7:=by
  revert hk;unfold gw;dsimp only
  split
  ·simp
  ·split
   ·simp
   ·split
    ·simp
    ·split<;>simp
 rcases this with e|e|e<;>rw[e]<;>simp[aL,in_iff,ht]
theorem fT(d:Desk)(w:Word):(ce d w).up=d.up/\(ce d w).lg=d.lg:=by unfold ce;split<;>exact⟨rfl,rfl⟩
theorem DkOk.hear{d:Desk}(h:DkOk d)(w:Word):DkOk (dhear d w)/\(dhear d w).up=d.up/\(ak d false).length<=(ak (dhear d w) false).length:=by
 unfold dhear
 split
 case isFalse=>exact⟨h,rfl,Nat.le_refl _⟩
 rename_i hc
 have h1:=h.tell hc
 have ht:(ak (ce d w) false)=ak d false:=by simp[ak,ai,fT]
 unfold dd
 split
 ·rename_i hk
  simp only[c7,Bool.and_eq_true,decide_eq_true_eq,wordOk_iff]at hc
  have:=h1.write (lL hc.2.1.t hk)
  exact⟨this.1,by rw[(fx _ _).2.1,(fT d w).1],by rw[<-ht];exact this.2⟩
 ·exact⟨h1,(fT d w).1,by rw[ht];exact Nat.le_refl _⟩
theorem DkOk.force{d:Desk}(h:DkOk d):DkOk (bv d):=by
 unfold bv
 split
 ·exact⟨h.lg.force,h.tr,h.td,h.nd,h.up⟩
 ·exact h
theorem DkOk.fall{d:Desk}(h:DkOk d)(keep:Int):DkOk (dfall d keep):=by
 obtain⟨l1,e,_,_⟩:=dm h.tr (eO d.lg keep).toNat
 exact⟨h.lg.fall keep,by rw[jY (d:=dfall d keep) e];exact e,by simp[dfall],by simp[dfall],.inr rfl⟩
theorem DkOk.rise{d:Desk}(h:DkOk d):DkOk (ej d):=⟨h.lg,h.tr,h.td,h.nd,.inl rfl⟩
theorem DkOk.begin{d:Desk}(h:DkOk d)(m:List Int):DkOk (fw d m):=by
 unfold fw
 split
 ·rename_i hr;exact(h.write hr).1
 ·exact h
theorem DkOk.give{d:Desk}(h:DkOk d)(t:Int):DkOk (hU d t):=by
 unfold hU
 split
 ·rename_i hr;exact(h.write (by simp[aL,in_iff,in_iff.1 hr])).1
 ·exact h
theorem ym:DkOk deskNew:=⟨⟨by simp[deskNew],by simp[deskNew],by simp[deskNew],by simp[deskNew]⟩,rfl,by simp[deskNew],by simp[deskNew],.inl rfl⟩
structure WOk (w:Wd):Prop where
 dk:DkOk w.dk
 len:w.hs.length=3
 hs:∀(i:Nat) (h:House),w.hs[i]?=some h->HsOk h/\h.id=i+1
 nlen:w.ns.length<=14
 ns:∀ x∈w.ns,WdOk x
theorem worldOk_iff{w:Wd}:bZ w=true↔WOk w:=by
 simp only[bZ,Bool.and_eq_true,deskOk_iff,beq_iff_eq,decide_eq_true_eq,List.all_eq_true,houseOk_iff,wordOk_iff]
 constructor
 ·rintro⟨h1,h2,h3,h4,h5,h6⟩
  refine⟨h1,h2,fun i h e=>⟨h4 h (List.mem_of_getElem? e),?_⟩,h3,h6⟩
  have:=h5 (h,1+i) (by rw[List.mem_zipIdx_iff_le_and_getElem?_sub];exact⟨by omega,by simpa using e⟩)
  simp only at this;omega
 ·intro h
  refine⟨h.dk,h.len,h.nlen,fun x hx=>?_,fun p hp=>?_,h.ns⟩
  ·obtain⟨i,hi⟩:=List.mem_iff_getElem?.1 hx;exact(h.hs i x hi).1
  ·rw[List.mem_zipIdx_iff_le_and_getElem?_sub]at hp
   have:=(h.hs _ _ hp.2).2;omega
theorem WOk.houseAt{w:Wd}(h:WOk w){i:Int}(hi:1<=i/\i<=3):w.hs[(i-1).toNat]?=some (houseAt w i)/\HsOk (houseAt w i)/\(houseAt w i).id=i:=by
 have hl:(i-1).toNat<w.hs.length:=by rw[h.len];omega
 have e:w.hs[(i-1).toNat]?=some (Dx.houseAt w i):=by unfold Dx.houseAt;rw[List.getElem?_eq_getElem hl];rfl
 have:=h.hs _ _ e
 exact⟨e,this.1,by rw[this.2];omega⟩
theorem WOk.setHouse{w:Wd}(h:WOk w){i:Int}(hi:1<=i/\i<=3){x:House}(hx:HsOk x)(hid:x.id=i):WOk (setHouse w i x):=by
 refine⟨h.dk,by simp[Dx.setHouse,h.len],fun j y e=>?_,h.nlen,h.ns⟩
 simp only[Dx.setHouse,List.getElem?_set]at e
 split at e
 ·rename_i hj
  split at e
  ·simp only[Option.some.injEq]at e;subst e;exact⟨hx,by omega⟩
  ·cases e
 ·exact h.hs j y e
theorem WOk.desk{w:Wd}(h:WOk w){d:Desk}(hd:DkOk d):WOk {w with dk:=d}:=⟨hd,h.len,h.hs,h.nlen,h.ns⟩
theorem WOk.put{w:Wd}(h:WOk w){x:Word}(hx:WdOk x):WOk (kx w x):=by
 unfold kx
 split
 ·refine⟨h.dk,h.len,h.hs,by simp;omega,fun y hy=>?_⟩
  rcases List.mem_append.1 hy with hy|hy
  ·exact h.ns y hy
  ·simp at hy;exact hy ▸ hx
 ·exact h
theorem WOk.take{w:Wd}(h:WOk w)(i:Int):WOk (fY w i):=by
 refine⟨h.dk,h.len,h.hs,?_,fun y hy=>h.ns y (List.mem_of_mem_eraseIdx hy)⟩
 have:=List.length_eraseIdx_le w.ns i.toNat
 have:=h.nlen
 simp only[fY];omega
theorem WOk.hear{w:Wd}(h:WOk w){x:Word}(hx:WdOk x):WOk (bo w x).1/\∀ y,(bo w x).2=some y->WdOk y/\4<=y.k:=by
 unfold bo
 split
 ·exact⟨h.desk (h.dk.hear x).1,by simp⟩
 ·have:=h.houseAt hx.h
  refine⟨h.setHouse hx.h (this.2.1.hear x) (by rw[(pq _ _).1];exact this.2.2),fun y hy=>?_⟩
  have:=Bq this.2.1 hy
  exact⟨this.1,this.2.1⟩
theorem WOk.net{w:Wd}(h:WOk w)(e:Ev):WOk (jA w e):=by
 unfold jA
 split
 ·exact h
 ·rename_i x hx
  have hx:WdOk x:=by
   split at hx
   ·exact h.ns x (List.mem_of_getElem? hx)
   ·cases hx
  split
  ·exact h.take _
  ·split
   ·exact h.put hx
   ·have:=(h.take e.a).hear hx
    cases hy:(bo (fY w e.a) x).2 with
    | none=>exact this.1
    | some y=>exact this.1.put (this.2 y hy).1
theorem Br{td:List Word}{s t h n:Int}(ht:1<=t/\t<=6)(hs:1<=s/\s<=3)(hh:1<=h/\h<=3)(hn:0<=n/\n<=3){x:Word}(hx:x∈gl td s t h n):WdOk x/\x.k=s/\x.t=t/\x.h=h/\x.k<=3/\n≠0:=by
 unfold gl at hx
 split at hx
 ·cases hx
 ·rename_i hc
  simp only[not_or]at hc
  simp at hx;subst hx
  refine⟨⟨hh,ht,by simp only;omega,fun hk=>?_,fun hk=>?_⟩,rfl,rfl,rfl,hs.2,hc.1⟩
  ·simp only at hk;simp only[hk,if_true];omega
  ·simp only at hk;simp[hk]
theorem kA{td:List Word}{s t:Int}:∀ {ns:List Int} {h:Int} {x:Word},x∈bl td s t h ns->∃(j:Nat) (n:Int),ns[j]?=some n/\x∈gl td s t (h+j) n
 | [],h,x,hx=>by simp[bl]at hx
 | n::ns,h,x,hx=>by
  simp only[bl,List.mem_append]at hx
  rcases hx with hx|hx
  ·exact⟨0,n,rfl,by simpa using hx⟩
  ·obtain⟨j,m,e,hm⟩:=kA hx
   refine⟨j+1,m,by simpa using e,?_⟩
   have:h+((j+1:Nat):Int)=h+1+j:=by omega
   rw[this];exact hm
theorem nR{td:List Word}:∀ {l:List Trip} {t:Int} {x:Word},x∈c8 td t l->∃(i:Nat) (y:Trip),l[i]?=some y/\y.s<=3/\x∈bl td y.s (t+i) 1 y.m
 | [],t,x,hx=>by simp[c8]at hx
 | y::ys,t,x,hx=>by
  simp only[c8,List.mem_append]at hx
  rcases hx with hx|hx
  ·split at hx
   ·cases hx
   ·exact⟨0,y,rfl,by omega,by simpa using hx⟩
  ·obtain⟨i,z,e,h1,h2⟩:=nR hx
   refine⟨i+1,z,by simpa using e,h1,?_⟩
   have:t+((i+1:Nat):Int)=t+1+i:=by omega
   rw[this];exact h2
theorem ep{d:Desk}(h:DkOk d){x:Word}(hx:x∈aV d):WdOk x/\x.k<=3/\d.up=true/\x.t<=(ak d true).length/\(tAt (ak d true) x.t).s=x.k/\∃ n,(tAt (ak d true) x.t).m[(x.h-1).toNat]?=some n/\n≠0/\x∈gl d.td x.k x.t x.h n:=by
 unfold aV at hx
 split at hx
 case isFalse=>cases hx
 rename_i hup
 obtain⟨i,y,e,h1,h2⟩:=nR hx
 obtain⟨j,n,e2,h3⟩:=kA h2
 have hi:=(List.getElem?_eq_some_iff.1 e).1
 have hj:=(List.getElem?_eq_some_iff.1 e2).1
 have tr:=h.trOk true
 have hy:=tripOk_iff.1 (tr.ok y (List.mem_of_getElem? e))
 have hm:=bt hy.1
 have hn:=fM hy.1 (List.mem_of_getElem? e2)
 have hlen:=tr.len
 have key:=Br (t:=1+(i:Int)) (h:=1+(j:Int)) (by omega) ⟨hy.2.1,h1⟩ (by omega) hn h3
 obtain⟨k1,k2,k3,k4,k5,k6⟩:=key
 have et:(x.t-1).toNat=i:=by omega
 have eh:(x.h-1).toNat=j:=by omega
 have ey:tAt (ak d true) x.t=y:=by simp[tAt,et,e]
 refine⟨k1,k5,hup,by omega,by rw[ey,k2],n,by rw[ey,eh];exact e2,k6,?_⟩
 rw[k2,k3,k4];exact h3
theorem WOk.deskEv{w:Wd}(h:WOk w)(e:Ev):WOk (ia w e):=by
 unfold ia
 split
 ·exact h.desk (h.dk.begin _)
 ·split
  ·exact h.desk (h.dk.give _)
  ·split
   ·split
    ·rename_i x hx
     split at hx
     ·exact h.put (ep h.dk (List.mem_of_getElem? hx)).1
     ·cases hx
    ·exact h
   ·exact h
theorem fy(h:House):(bY h).id=h.id/\(bY h).room=h.room/\(bY h).up=h.up:=by unfold bY;split<;>exact⟨rfl,rfl,rfl⟩
theorem WOk.forceEv{w:Wd}(h:WOk w)(i:Int):WOk (cH w i):=by
 unfold cH
 split
 ·exact h.desk h.dk.force
 ·split
  ·rename_i hi
   have:=h.houseAt (in_iff.1 hi)
   exact h.setHouse (in_iff.1 hi) this.2.1.force (by rw[(fy _).1];exact this.2.2)
  ·exact h
theorem WOk.node{w:Wd}(h:WOk w)(e:Ev):WOk (cw w e):=by
 unfold cw
 split
 case isFalse=>exact h
 rename_i hi
 have hi:=in_iff.1 hi
 split
 ·exact h.forceEv _
 ·split
  ·split
   ·exact h.desk (h.dk.fall _)
   ·have:=h.houseAt (i:=e.a) (by omega)
    exact h.setHouse (by omega) (this.2.1.fall _) this.2.2
  ·split
   ·split
    ·exact h.desk h.dk.rise
    ·have:=h.houseAt (i:=e.a) (by omega)
     exact h.setHouse (by omega) this.2.1.rise this.2.2
   ·exact h
theorem WOk.do_{w:Wd}(h:WOk w)(e:Ev):WOk (wdo w e):=by
 unfold wdo
 split
 ·exact h.deskEv e
 ·split
  ·exact h.net e
  ·split
   ·exact h.node e
   ·exact h
theorem WOk.plays{w:Wd}(h:WOk w):∀ es:List Ev,WOk (cK w es)
 | []=>h
 | e::es=>(h.do_ e).plays es
theorem WOk.hear2{w:Wd}(h:WOk w){x:Word}(hx:WdOk x):WOk (bq w x):=by
 unfold bq
 have:=h.hear hx
 split
 ·rename_i y hy;exact(this.1.hear (this.2 y hy).1).1
 ·exact this.1
theorem WOk.hears{w:Wd}(h:WOk w):∀ {xs:List Word},(∀ x∈xs,WdOk x)->WOk (cI w xs)
 | [],_=>h
 | x::xs,hx=>(h.hear2 (hx x (by simp))).hears (fun y hy=>hx y (by simp[hy]))
theorem WOk.map{w:Wd}(h:WOk w){d:Desk}(hd:DkOk d){f:House->House}(hf:∀ x,HsOk x->HsOk (f x)/\(f x).id=x.id):WOk ⟨d,w.hs.map f,w.ns⟩:=by
 refine⟨hd,by simp[h.len],fun i x e=>?_,h.nlen,h.ns⟩
 simp only[List.getElem?_map,Option.map_eq_some_iff]at e
 obtain⟨y,e,rfl⟩:=e
 have:=h.hs i y e
 exact⟨(hf y this.1).1,by rw[(hf y this.1).2];exact this.2⟩
theorem WOk.round{w:Wd}(h:WOk w):WOk (bb w):=by
 have h1:WOk (c9 w):=h.map h.dk.rise fun x hx=>⟨hx.rise,rfl⟩
 have h2:WOk {c9 w with ns:=[]}:=⟨h1.dk,h1.len,h1.hs,by simp,by simp⟩
 have h3:=h2.hears (xs:=w.ns++aV (ej w.dk)) (fun x hx=>by
  rcases List.mem_append.1 hx with hx|hx
  ·exact h.ns x hx
  ·exact(ep h.dk.rise hx).1)
 exact h3.map h3.dk.force fun x hx=>⟨hx.force,(fy x).1⟩
theorem WOk.calm{w:Wd}(h:WOk w)(n:Nat):WOk (bu w n):=by
 induction n generalizing w with
 | zero=>exact h
 | succ n ih=>exact ih h.round
theorem bN{rooms:List Int}{w:Wd}(h:aT rooms=some w):WOk w:=by
 unfold aT at h
 split at h
 case isFalse=>cases h
 rename_i hc
 simp only[List.all_eq_true,in_iff]at hc
 simp only[Option.some.injEq]at h;subst h
 refine⟨ym,by simp[cJ,hc.1],fun i x e=>?_,by simp,by simp⟩
 simp only[cJ,List.getElem?_map,Option.map_eq_some_iff,List.getElem?_zipIdx]at e
 obtain⟨p,⟨q,e,rfl⟩,rfl⟩:=e
 have hi:=(List.getElem?_eq_some_iff.1 e).1
 refine⟨⟨by simp only;omega,⟨by simp,by simp,by simp,by simp⟩,_,stockOf_some.2 ⟨hc.2 _ (List.mem_of_getElem? e),rfl⟩⟩,by simp only;omega⟩
end Dx
namespace Dx
def hle(a b:Hold):Prop:=a.s=0\/(b.m=a.m/\(b.s=a.s\/(a.s=1/\(b.s=2\/b.s=3))))
def tle(a b:Trip):Prop:=b.m=a.m/\(b.s=a.s\/(a.s=1/\(2<=b.s/\b.s<=5))\/(a.s=2/\b.s=4)\/(a.s=3/\b.s=5))
theorem hle.rfl'(a:Hold):hle a a:=.inr ⟨rfl,.inl rfl⟩
theorem tle.rfl'(a:Trip):tle a a:=⟨rfl,.inl rfl⟩
theorem hle.trans{a b c:Hold}(h1:hle a b)(h2:hle b c):hle a c:=by
 unfold hle at *;rcases h1 with h1|⟨e1,h1⟩
 ·exact .inl h1
 ·rcases h2 with h2|⟨e2,h2⟩
  ·left;omega
  ·right;exact⟨e2.trans e1,by omega⟩
theorem tle.trans{a b c:Trip}(h1:tle a b)(h2:tle b c):tle a c:=by
 obtain⟨e1,h1⟩:=h1;obtain⟨e2,h2⟩:=h2
 exact⟨e2.trans e1,by omega⟩
theorem FC{hs:List Hold}{t u:Int}{x:Hold}(ht:1<=t/\(t-1).toNat<hs.length)(hu:1<=u):hAt (hs.set (t-1).toNat x) u=if u=t then x else hAt hs u:=by
 unfold hAt
 rw[List.getElem?_set]
 by_cases e:u=t
 ·subst e;rw[if_pos rfl,if_pos ht.2,if_pos rfl];rfl
 ·rw[if_neg (by omega),if_neg e]
theorem z0{s:Stock}{r:Rec}(hl:s.hs.length=6)(hr:aL r=true){u:Int}(hu:1<=u):hAt (act s r).hs u=if u=r.t then i7 (hAt s.hs r.t) r else hAt s.hs u:=by
 have:=cU hr
 exact FC (by rw[hl];omega) hu
theorem te{s:Stock}{r:Rec}(hl:s.hs.length=6)(hr:aL r=true)(hm:may s r=true){u:Int}(hu:1<=u):hle (hAt s.hs u) (hAt (act s r).hs u):=by
 rw[z0 hl hr hu]
 split
 case isFalse=>exact hle.rfl' _
 rename_i e;subst e
 simp only[may,fe]at hm
 unfold i7 hle
 split at hm
 ·rename_i h1;simp only[Bool.and_eq_true,beq_iff_eq]at hm;exact .inl hm.1
 ·split at hm
  ·rename_i h1 h2;simp only[beq_iff_eq]at hm;simp[h1,h2,hm]
  ·split at hm
   ·rename_i h1 h2 h3;simp only[Bool.or_eq_true,beq_iff_eq]at hm;simp[h1,h2,h3];omega
   ·cases hm
theorem jl:∀ {rs:List Rec} {s s':Stock},StOk s->b9 rs s=some s'->∀ {u:Int},1<=u->hle (hAt s.hs u) (hAt s'.hs u)
 | [],s,s',_,e,u,_=>by simp only[b9,Option.some.injEq]at e;rw[e];exact hle.rfl' _
 | r::rs,s,s',h,e,u,hu=>by
  simp only[b9]at e
  split at e
  ·rename_i hc;simp only[Bool.and_eq_true]at hc
   exact(te h.len hc.1 hc.2 hu).trans (jl (qe h hc.1 hc.2) e hu)
  ·cases e
theorem tg{l:List Trip}{t u:Int}{x:Trip}(ht:1<=t/\(t-1).toNat<l.length)(hu:1<=u):tAt (l.set (t-1).toNat x) u=if u=t then x else tAt l u:=by
 unfold tAt
 rw[List.getElem?_set]
 by_cases e:u=t
 ·subst e;rw[if_pos rfl,if_pos ht.2,if_pos rfl];rfl
 ·rw[if_neg (by omega),if_neg e]
theorem CO{l:List Trip}{t:Int}(h:(l.length:Int)<t):tAt l t=⟨[],0⟩:=by
 unfold tAt;rw[List.getElem?_eq_none (by omega)];rfl
theorem CP{l:List Trip}{x:Trip}{t:Int}(ht:1<=t):tAt (l++[x]) t=if t=l.length+1 then x else tAt l t:=by
 unfold tAt
 by_cases e:t=l.length+1
 ·subst e;simp
 ·rw[if_neg e]
  by_cases h:(t-1).toNat<l.length
  ·rw[List.getElem?_append_left h]
  ·rw[List.getElem?_eq_none (by simp;omega),List.getElem?_eq_none (by omega)]
theorem iu{l:List Trip}{r:Rec}(hr:aL r=true)(hm:cG l r=true){u:Int}(hu:1<=u) :
  tAt (cQ l r) u=if u=r.t then(if r.k=4 then⟨r.m,1⟩ else if r.k=5 then⟨(tAt l r.t).m,2⟩ else if r.k=6 then⟨(tAt l r.t).m,3⟩ else⟨(tAt l r.t).m,(tAt l r.t).s+2⟩) else tAt l u:=by
 have ht:=cU hr
 have hk:=Fy hr
 simp only[cG]at hm
 unfold cQ
 split at hm
 ·rename_i h4
  simp only[beq_iff_eq]at hm
  rw[if_pos h4,CP hu,hm]
  by_cases e:u=l.length+1
  ·simp[e,h4]
  ·simp[e]
 ·rename_i h4
  split at hm
  ·cases hm
  rename_i hlt
  have hi:1<=r.t/\(r.t-1).toNat<l.length:=by omega
  rw[if_neg h4];simp only[h4,if_false]
  split
  ·rename_i h5;rw[tg hi hu];try simp[*]
  ·split
   ·rename_i h5 h6;rw[tg hi hu];try simp[*]
   ·split
    ·rename_i h5 h6 h7;rw[tg hi hu];try simp[*]
    ·rename_i h5 h6 h7;exfalso
     simp only[h5,h6,h7,or_self,if_false]at hm;cases hm
theorem kU{l:List Trip}{r:Rec}(hr:aL r=true)(hm:cG l r=true) :
  (r.k=4/\r.t=l.length+1)\/(1<=r.t/\r.t<=l.length/\((r.k=5\/r.k=6)/\(tAt l r.t).s=1\/r.k=7/\((tAt l r.t).s=2\/(tAt l r.t).s=3))):=by
 have ht:=cU hr
 simp only[cG]at hm
 split at hm
 ·rename_i h4;simp only[beq_iff_eq]at hm;exact .inl ⟨h4,hm⟩
 ·split at hm
  ·cases hm
  rename_i hlt
  split at hm
  ·rename_i h;simp only[beq_iff_eq]at hm;exact .inr ⟨ht.1,by omega,.inl ⟨h,hm⟩⟩
  ·split at hm
   ·rename_i h;simp only[Bool.or_eq_true,beq_iff_eq]at hm;exact .inr ⟨ht.1,by omega,.inr ⟨h,hm⟩⟩
   ·cases hm
theorem vJ{l:List Trip}{r:Rec}(hr:aL r=true)(hm:cG l r=true){u:Int}(hu:1<=u)(hl:u<=l.length):tle (tAt l u) (tAt (cQ l r) u):=by
 rw[iu hr hm hu]
 split
 case isFalse=>exact tle.rfl' _
 rename_i e;subst e
 rcases kU hr hm with ⟨_,h⟩|⟨_,_,⟨h,h1⟩|⟨h,h1⟩⟩
 ·omega
 ·rw[if_neg (by omega)]
  rcases h with h|h
  ·rw[if_pos h];exact⟨rfl,.inr (.inl ⟨h1,by simp,by simp⟩)⟩
  ·rw[if_neg (by omega),if_pos h];exact⟨rfl,.inr (.inl ⟨h1,by simp,by simp⟩)⟩
 ·rw[if_neg (by omega),if_neg (by omega),if_neg (by omega)]
  refine⟨rfl,?_⟩
  simp only;omega
structure tpre (l l':List Trip):Prop where
 len:l.length<=l'.length
 le:∀ u:Int,1<=u->u<=l.length->tle (tAt l u) (tAt l' u)
theorem tpre.rfl'(l:List Trip):tpre l l:=⟨Nat.le_refl _,fun _ _ _=>tle.rfl' _⟩
theorem tpre.trans{a b c:List Trip}(h1:tpre a b)(h2:tpre b c):tpre a c :=
 ⟨Nat.le_trans h1.len h2.len,fun u hu hl=>(h1.le u hu hl).trans (h2.le u hu (by have:=h1.len;omega))⟩
theorem jm:∀ {rs:List Rec} {l l':List Trip},cj rs l=some l'->tpre l l'
 | [],l,l',e=>by simp only[cj,Option.some.injEq]at e;rw[e];exact tpre.rfl' _
 | r::rs,l,l',e=>by
  simp only[cj]at e
  split at e
  ·rename_i hc;simp only[Bool.and_eq_true]at hc
   exact tpre.trans ⟨by rw[eU];split<;>omega,fun u hu hl=>vJ hc.1 hc.2 hu hl⟩ (jm e)
  ·cases e
def rk(t:Trip):Nat:=if t.s=1 then 1 else if t.s=2\/t.s=3 then 2 else 3
theorem vK{α:Type}{l:List α}{i:Nat}{a:α}(f:α->Nat)(hi:i<l.length):((l.set i a).map f).sum+f l[i]=(l.map f).sum+f a:=by
 induction l generalizing i with
 | nil=>simp at hi
 | cons x xs ih=>cases i with
  | zero=>simp;omega
  | succ i=>simp only[List.length_cons]at hi;simp only[List.set_cons_succ,List.map_cons,List.sum_cons,List.getElem_cons_succ];have:=ih (i:=i) (by omega);omega
theorem FD{l:List Trip}{r:Rec}(hr:aL r=true)(hm:cG l r=true):((cQ l r).map rk).sum=(l.map rk).sum+1:=by
 rcases kU hr hm with ⟨h4,h⟩|⟨h1,h2,h⟩
 ·simp[cQ,h4,rk]
 ·have hi:(r.t-1).toNat<l.length:=by omega
  have key:∀ x:Trip,rk x=rk (tAt l r.t)+1->((l.set (r.t-1).toNat x).map rk).sum=(l.map rk).sum+1:=by
   intro x hx
   have:=vK rk hi (a:=x)
   rw[qf hi]at hx;omega
  have n4:r.k≠4:=by omega
  rcases h with ⟨h5|h6,h⟩|⟨h7,h⟩
  ·simp only[cQ,n4,h5,if_true,if_false];exact key _ (by simp[rk,h])
  ·simp only[cQ,n4,h6,if_true,if_false];exact key _ (by simp[rk,h])
  ·simp only[cQ,n4,h7,if_true,if_false]
   have:¬ ((7:Int)=5)/\¬ ((7:Int)=6)/\¬ ((7:Int)=4):=by omega
   simp only[this,if_false]
   refine key _ ?_
   rcases h with h|h<;>simp[rk,h]
theorem vM:∀ {rs:List Rec} {l l':List Trip},cj rs l=some l'->(l'.map rk).sum=(l.map rk).sum+rs.length
 | [],l,l',e=>by simp only[cj,Option.some.injEq]at e;rw[e];simp
 | r::rs,l,l',e=>by
  simp only[cj]at e
  split at e
  ·rename_i hc;simp only[Bool.and_eq_true]at hc
   rw[vM e,FD hc.1 hc.2];simp;omega
  ·cases e
theorem rk_le(t:Trip):rk t<=3:=by
 unfold rk
 split
 ·omega
 ·split<;>omega
theorem Bs(l:List Trip):(l.map rk).sum<=3*l.length:=by
 induction l with
 | nil=>simp
 | cons x xs ih=>have:=rk_le x;simp;omega
theorem vj{rs:List Rec}{l:List Trip}(h:bj rs=some l):rs.length<=3*l.length:=by
 have:=vM h
 have:=Bs l
 simp at *;omega
theorem DkOk.len{d:Desk}(h:DkOk d):d.lg.rs.length<=3*(ak d false).length:=vj h.tr
theorem DkOk.len18{d:Desk}(h:DkOk d):d.lg.rs.length<=18:=by have:=h.len;have:=(h.trOk false).len;omega
def hrk(h:Hold):Nat:=if h.s=0 then 0 else if h.s=1 then 1 else 2
theorem FE{s:Stock}{r:Rec}(hs:StOk s)(hr:aL r=true)(hm:may s r=true):(s.hs.map hrk).sum+1<=((act s r).hs.map hrk).sum:=by
 have ht:=cU hr
 have hi:(r.t-1).toNat<s.hs.length:=by rw[hs.len];omega
 have:=vK hrk hi (a:=i7 (hAt s.hs r.t) r)
 rw[<-uD hi]at this
 have key:hrk (hAt s.hs r.t)+1<=hrk (i7 (hAt s.hs r.t) r):=by
  simp only[may,fe]at hm
  unfold i7
  split at hm
  ·rename_i h1;simp only[Bool.and_eq_true,beq_iff_eq]at hm;simp[h1,hrk,hm]
  ·split at hm
   ·rename_i h1 h2;simp only[beq_iff_eq]at hm;simp[h1,h2,hrk,hm]
   ·split at hm
    ·rename_i h1 h2 h3;simp only[Bool.or_eq_true,beq_iff_eq]at hm
     rcases hm with hm|hm<;>simp[h1,h2,h3,hrk,hm]
    ·cases hm
 simp only[act];omega
theorem rH:∀ {rs:List Rec} {s s':Stock},StOk s->b9 rs s=some s'->(s.hs.map hrk).sum+rs.length<=(s'.hs.map hrk).sum
 | [],s,s',_,e=>by simp only[b9,Option.some.injEq]at e;rw[e];simp
 | r::rs,s,s',h,e=>by
  simp only[b9]at e
  split at e
  ·rename_i hc;simp only[Bool.and_eq_true]at hc
   have:=rH (qe h hc.1 hc.2) e
   have:=FE h hc.1 hc.2
   simp;omega
  ·cases e
theorem yn(l:List Hold):(l.map hrk).sum<=2*l.length:=by
 induction l with
 | nil=>simp
 | cons x xs ih =>
  have:hrk x<=2:=by
   unfold hrk
   split
   ·omega
   ·split<;>omega
  simp;omega
theorem HsOk.len{h:House}(ho:HsOk h):h.lg.rs.length<=12:=by
 obtain⟨s,e⟩:=ho.st
 obtain⟨h1,h2⟩:=stockOf_some.1 e
 have:=rH (fZ h1) h2
 have h3:=yn s.hs
 rw[(jV e).1.len]at h3
 omega
theorem vN:∀(n:Nat) (l:List Nat),l.Nodup->(∀ x∈l,x<n)->l.length<=n
 | 0,l,_,h=>by
  cases l with
  | nil=>simp
  | cons x xs=>have:=h x (by simp);omega
 | n+1,l,hn,h=>by
  have h1:=vN n (l.erase n) (hn.erase n) (fun x hx=>by
   have h2:=(hn.mem_erase_iff).1 hx
   have:=h x h2.2
   have:=h2.1
   omega)
  have h2:=List.length_erase (a:=n) (l:=l)
  split at h2<;>omega
theorem rI{α β:Type}{f:α->β}:∀ {l:List α},l.Nodup->(∀ x∈l,∀ y∈l,f x=f y->x=y)->(l.map f).Nodup
 | [],_,_=>by simp
 | a::l,hn,h=>by
  rw[List.nodup_cons]at hn
  rw[List.map_cons,List.nodup_cons]
  refine⟨fun hm=>?_,rI hn.2 (fun x hx y hy=>h x (by simp[hx]) y (by simp[hy]))⟩
  obtain⟨y,hy,e⟩:=List.mem_map.1 hm
  have:=h y (by simp[hy]) a (by simp) e
  exact hn.1 (this ▸ hy)
theorem DkOk.tdlen{d:Desk}(h:DkOk d):d.td.length<=72:=by
 have:=vN 72 (d.td.map fun w=>((w.k-4)*18+(w.h-1)*6+(w.t-1)).toNat) (rI h.nd (fun x hx y hy e=>by
  obtain⟨a,b,_⟩:=h.td x hx
  obtain⟨c,d,_⟩:=h.td y hy
  have:=a.h;have:=a.t;have:=a.k;have:=c.h;have:=c.t;have:=c.k
  have m1:=a.m0 (by omega)
  have m2:=c.m0 (by omega)
  obtain⟨k,hh,t,m⟩:=x
  obtain⟨k',hh',t',m'⟩:=y
  simp only at *
  subst m1;subst m2
  have:(k-4)*18+(hh-1)*6+(t-1)=(k'-4)*18+(hh'-1)*6+(t'-1):=by omega
  have:k=k'/\hh=hh'/\t=t':=by omega
  simp[this])) (fun x hx=>by
  obtain⟨y,hy,rfl⟩:=List.mem_map.1 hx
  obtain⟨a,b,_⟩:=h.td y hy
  have:=a.h;have:=a.t;have:=a.k
  omega)
 simpa using this
theorem fk(td:List Word)(s t:Int):∀(ns:List Int) (h:Int),(bl td s t h ns).length<=ns.length
 | [],h=>by simp[bl]
 | n::ns,h=>by
  have:=fk td s t ns (h+1)
  simp only[bl,gl,List.length_append,List.length_cons]
  split
  ·simp;omega
  ·simp only[List.length_cons,List.length_nil];omega
theorem jZ(td:List Word):∀(l:List Trip) (t:Int),(∀ x∈l,x.m.length<=3)->(c8 td t l).length<=3*l.length
 | [],t,_=>by simp[c8]
 | x::xs,t,hx=>by
  have h1:=jZ td xs (t+1) (fun y hy=>hx y (by simp[hy]))
  have h2:=hx x (by simp)
  have h3:=fk td x.s t x.m 1
  simp only[c8,List.length_append,List.length_cons]
  split
  ·simp;omega
  ·omega
theorem ib{d:Desk}(h:DkOk d):(aV d).length<=18:=by
 unfold aV
 split
 ·have tF:=h.trOk true
  have:=jZ d.td (ak d true) 1 (fun x hx=>by have:=bt (tripOk_iff.1 (tF.ok x hx)).1;omega)
  have:=tF.len
  omega
 ·simp
theorem FF{l:Log}{r:Rec}(h:l.rs.length<40):dJ l r=⟨l.rs++[r],l.f⟩:=by simp[dJ];omega
end Dx
namespace Dx
structure V where
 F:List Trip
 A:List Trip
 td:List Word
 ns:List Word
 hF:Int->Int->Hold
 hA:Int->Int->Hold
def V.sF(v:V)(t:Int):Int:=(tAt v.F t).s
def V.sA(v:V)(t:Int):Int:=(tAt v.A t).s
def mAt(m:List Int)(h:Int):Int:=(m[(h-1).toNat]?).getD 0
def V.want(v:V)(t h:Int):Int:=mAt (tAt v.F t).m h
structure NetOk (v:V) (x:Word):Prop where
 s:v.sF x.t≠0
 w:0<v.want x.t x.h
 k1:x.k=1->x.m=v.want x.t x.h
 k2:x.k=2->v.sF x.t=2\/v.sF x.t=4
 k3:x.k=3->v.sF x.t=3\/v.sF x.t=5
 k4:x.k=4->(v.hF x.h x.t).s≠0
 k6:x.k=6->(v.hF x.h x.t).s=2
 k7:x.k=7->(v.hF x.h x.t).s=3
structure HoldFit (v:V) (h t:Int):Prop where
 s:v.sF t≠0
 w:0<v.want t h
 m:(v.hA h t).s≠3->(v.hA h t).m=v.want t h
 m3:(v.hA h t).s=3->(v.hA h t).m=v.want t h\/(v.hA h t).m=0
 c:(v.hA h t).s=2->v.sF t=2\/v.sF t=4
 u:(v.hA h t).s=3->v.sF t=3\/v.sF t=5
def isH(h:Int):Prop:=1<=h/\h<=3
def isT(t:Int):Prop:=1<=t/\t<=6
structure TripFit (v:V) (t:Int):Prop where
 yes:v.sA t=2\/v.sA t=4->v.sF t≠0/\∀ h,isH h->0<v.want t h->(v.hF h t).s=1\/(v.hF h t).s=2
 kept:v.sA t=4->∀ h,isH h->0<v.want t h->(v.hF h t).s=2
 left:v.sA t=5->v.sF t≠0/\∀ h,isH h->0<v.want t h->(v.hF h t).s=3
 d1:v.sA t=1->br v.td t 5 1 (tAt v.A t).m=false/\aH v.td t 4 1 (tAt v.A t).m=false
 d2:v.sA t=2->aH v.td t 6 1 (tAt v.A t).m=false
 d3:v.sA t=3->aH v.td t 7 1 (tAt v.A t).m=false
structure Base (v:V):Prop where
 pre:tpre v.F v.A
 trA:TrOk v.A
 hle:∀ h t,isH h->isT t->hle (v.hF h t) (v.hA h t)
 okA:∀ h t,isH h->isT t->bz (v.hA h t)=true
 okF:∀ h t,isH h->isT t->bz (v.hF h t)=true
 tdo:∀ x∈v.td,WdOk x/\4<=x.k
 nso:∀ x∈v.ns,WdOk x
 net:∀ x∈v.ns,NetOk v x
 told:∀ x∈v.td,NetOk v x
 hold:∀ h t,isH h->isT t->(v.hA h t).s≠0->HoldFit v h t
structure Inv (v:V):Prop extends Base v where
 trip:∀ t,isT t->TripFit v t
theorem DN{m:List Int}{h:Int}(hl:(h-1).toNat<m.length):mAt m h=m[(h-1).toNat]:=by unfold mAt;rw[List.getElem?_eq_getElem hl];rfl
theorem f0{td:List Word}{t k:Int}:∀ {m:List Int} {h:Int},aH td t k h m=true↔∀(j:Nat) (n:Int),m[j]?=some n->0<n->(⟨k,h+j,t,0⟩:Word)∈td
 | [],h=>by simp[aH]
 | n::ns,h=>by
  simp only[aH,Bool.and_eq_true,f0 (m:=ns),Bool.or_eq_true,Bool.not_eq_true',decide_eq_false_iff_not,List.contains_eq_mem,decide_eq_true_eq]
  constructor
  ·rintro⟨h1,h2⟩ j x hj hx
   cases j with
   | zero=>simp at hj;subst hj;simpa using h1.resolve_left (by omega)
   | succ j =>
    have:=h2 j x (by simpa using hj) hx
    rwa [show h+1+(j:Int)=h+((j+1:Nat):Int) by omega]at this
  ·intro hh
   refine⟨?_,fun j x hj hx=>?_⟩
   ·by_cases hn:n>0
    ·right;have:=hh 0 n rfl hn;simpa using this
    ·left;exact hn
   ·have:=hh (j+1) x (by simpa using hj) hx
    rwa [show h+((j+1:Nat):Int)=h+1+(j:Int) by omega]at this
theorem toldAny_iff{td:List Word}{t k:Int}:∀ {m:List Int} {h:Int},br td t k h m=true↔∃(j:Nat) (n:Int),m[j]?=some n/\0<n/\(⟨k,h+j,t,0⟩:Word)∈td
 | [],h=>by simp[br]
 | n::ns,h=>by
  simp only[br,Bool.or_eq_true,toldAny_iff (m:=ns),Bool.and_eq_true,decide_eq_true_eq,List.contains_eq_mem]
  constructor
  ·rintro(⟨h1,h2⟩|⟨j,x,h1,h2,h3⟩)
   ·exact⟨0,n,rfl,h1,by simpa using h2⟩
   ·refine⟨j+1,x,by simpa using h1,h2,?_⟩
    rwa [show h+((j+1:Nat):Int)=h+1+(j:Int) by omega]
  ·rintro⟨j,x,h1,h2,h3⟩
   cases j with
   | zero=>simp at h1;subst h1;left;exact⟨h2,by simpa using h3⟩
   | succ j =>
    right;refine⟨j,x,by simpa using h1,h2,?_⟩
    rwa [show h+1+(j:Int)=h+((j+1:Nat):Int) by omega]
theorem fA{td:List Word}{t k:Int}{m:List Int}(hm:m.length=3):aH td t k 1 m=true↔∀ h,isH h->0<mAt m h->(⟨k,h,t,0⟩:Word)∈td:=by
 rw[f0]
 constructor
 ·intro hh h ⟨h1,h2⟩ hw
  have hl:(h-1).toNat<m.length:=by omega
  have:=hh (h-1).toNat m[(h-1).toNat] (by simp[hl]) (by rw[<-DN hl];exact hw)
  rwa [show 1+(((h-1).toNat:Nat):Int)=h by omega]at this
 ·intro hh j n hj hn
  have hl:=(List.getElem?_eq_some_iff.1 hj).1
  refine hh (1+j) ⟨by omega,by omega⟩ ?_
  have:(1+(j:Int)-1).toNat=j:=by omega
  simp[mAt,this,hj,hn]
theorem rJ{td:List Word}{t k:Int}{m:List Int}(hm:m.length=3):br td t k 1 m=true↔∃ h,isH h/\0<mAt m h/\(⟨k,h,t,0⟩:Word)∈td:=by
 rw[toldAny_iff]
 constructor
 ·rintro⟨j,n,hj,hn,h⟩
  have hl:=(List.getElem?_eq_some_iff.1 hj).1
  refine⟨1+j,⟨by omega,by omega⟩,?_,h⟩
  have:(1+(j:Int)-1).toNat=j:=by omega
  simp[mAt,this,hj,hn]
 ·rintro⟨h,⟨h1,h2⟩,hw,hh⟩
  have hl:(h-1).toNat<m.length:=by omega
  refine⟨(h-1).toNat,m[(h-1).toNat],by simp[hl],by rw[<-DN hl];exact hw,?_⟩
  rwa [show 1+(((h-1).toNat:Nat):Int)=h by omega]
theorem iU{m:List Int}(h:cZ m=true):∃ x,isH x/\0<mAt m x:=by
 have hl:=bt h
 match m,hl with
 | [a,b,c],_ =>
  simp only[cZ,Bool.and_eq_true,List.all_cons,in_iff,decide_eq_true_eq]at h
  obtain⟨⟨ha,hb,hc,_⟩,_,hs⟩:=h
  simp at hs
  by_cases h1:0<a
  ·exact⟨1,⟨by omega,by omega⟩,by simpa [mAt] using h1⟩
  ·by_cases h2:0<b
   ·exact⟨2,⟨by omega,by omega⟩,by simpa [mAt] using h2⟩
   ·exact⟨3,⟨by omega,by omega⟩,by simp[mAt];omega⟩
section
variable {v:V}
theorem cf{l:List Trip}{t:Int}(h:(tAt l t).s≠0):(t-1).toNat<l.length:=by
 unfold tAt at h
 by_cases e:(t-1).toNat<l.length
 ·exact e
 ·rw[List.getElem?_eq_none (by omega)]at h;exact absurd rfl h
theorem Base.A_ok(I:Base v){t:Int}(h:v.sA t≠0):cZ (tAt v.A t).m=true/\1<=v.sA t/\v.sA t<=5 :=
 tripOk_iff.1 (I.trA.ok _ (eT (cf h)))
theorem Base.FA(I:Base v){t:Int}(ht:1<=t)(h:v.sF t≠0):tle (tAt v.F t) (tAt v.A t):=I.pre.le t ht (by have:=cf h;omega)
theorem Base.FA_s(I:Base v){t:Int}(ht:1<=t)(h:v.sF t≠0):v.sA t=v.sF t\/(v.sF t=1/\2<=v.sA t/\v.sA t<=5)\/(v.sF t=2/\v.sA t=4)\/(v.sF t=3/\v.sA t=5):=(I.FA ht h).2
theorem Base.FA_m(I:Base v){t:Int}(ht:1<=t)(h:v.sF t≠0)(x:Int):mAt (tAt v.A t).m x=v.want t x:=by rw[V.want,(I.FA ht h).1]
theorem Base.F_rng(I:Base v){t:Int}(ht:1<=t)(h:v.sF t≠0):1<=v.sF t/\v.sF t<=5:=by
 have h1:=I.FA_s ht h
 have h2:v.sA t≠0:=by omega
 have:=(I.A_ok h2).2
 omega
theorem Base.mem_told(I:Base v){t h k:Int}(hm:(⟨k,h,t,0⟩:Word)∈v.td):NetOk v ⟨k,h,t,0⟩:=I.told _ hm
end
structure Fwd (v v':V):Prop where
 F:tpre v.F v'.F
 h:∀ h t,isH h->isT t->hle (v.hF h t) (v'.hF h t)
theorem Fwd.sF{v v':V}(g:Fwd v v'){t:Int}(ht:1<=t)(h:v.sF t≠0):v'.sF t≠0/\(v.sF t=2\/v.sF t=4->v'.sF t=2\/v'.sF t=4)/\(v.sF t=3\/v.sF t=5->v'.sF t=3\/v'.sF t=5)/\∀ x,v'.want t x=v.want t x:=by
 have:=g.F.le t ht (by have:=cf h;omega)
 obtain⟨h1,h2⟩:=this
 unfold V.sF at *
 refine⟨by omega,by omega,by omega,fun x=>by unfold V.want;rw[h1]⟩
theorem NetOk.fwd{v v':V}(g:Fwd v v'){x:Word}(hx:WdOk x)(h:NetOk v x):NetOk v' x:=by
 obtain⟨f1,f2,f3,f4⟩:=g.sF hx.t.1 h.s
 have hh:=g.h x.h x.t hx.h hx.t
 refine⟨f1,by rw[f4];exact h.w,fun e=>by rw[f4];exact h.k1 e,fun e=>f2 (h.k2 e),fun e=>f3 (h.k3 e),fun e=>?_,fun e=>?_,fun e=>?_⟩
 ·have:=h.k4 e;unfold hle at hh;omega
 ·have:=h.k6 e;unfold hle at hh;omega
 ·have:=h.k7 e;unfold hle at hh;omega
end Dx
namespace Dx
theorem NetOk.congr{v v':V}{x:Word}(hF:tAt v'.F x.t=tAt v.F x.t)(hh:v'.hF x.h x.t=v.hF x.h x.t)(h:NetOk v x):NetOk v' x:=by
 have e1:v'.sF x.t=v.sF x.t:=by unfold V.sF;rw[hF]
 have e2:v'.want x.t x.h=v.want x.t x.h:=by unfold V.want;rw[hF]
 exact⟨by rw[e1];exact h.s,by rw[e2];exact h.w,by rw[e2];exact h.k1,by rw[e1];exact h.k2,by rw[e1];exact h.k3,by rw[hh];exact h.k4,by rw[hh];exact h.k6,by rw[hh];exact h.k7⟩
theorem HoldFit.congr{v v':V}{h t:Int}(hF:tAt v'.F t=tAt v.F t)(hh:v'.hA h t=v.hA h t)(g:HoldFit v h t):HoldFit v' h t:=by
 have e1:v'.sF t=v.sF t:=by unfold V.sF;rw[hF]
 have e2:v'.want t h=v.want t h:=by unfold V.want;rw[hF]
 exact⟨by rw[e1];exact g.s,by rw[e2];exact g.w,by rw[e2,hh];exact g.m,by rw[e2,hh];exact g.m3,by rw[e1,hh];exact g.c,by rw[e1,hh];exact g.u⟩
theorem TripFit.congr{v v':V}{t:Int}(hA:tAt v'.A t=tAt v.A t)(hF:tAt v'.F t=tAt v.F t)(hh:∀ h,isH h->v'.hF h t=v.hF h t)
  (htd:∀ k h,(⟨k,h,t,0⟩:Word)∈v'.td↔(⟨k,h,t,0⟩:Word)∈v.td) (g:TripFit v t):TripFit v' t:=by
 have e1:v'.sF t=v.sF t:=by unfold V.sF;rw[hF]
 have e2:∀ h,v'.want t h=v.want t h:=fun h=>by unfold V.want;rw[hF]
 have e3:v'.sA t=v.sA t:=by unfold V.sA;rw[hA]
 have all:∀ k m,aH v'.td t k 1 m=aH v.td t k 1 m:=fun k m=>by
  rw[Bool.eq_iff_iff,f0,f0];simp only[htd]
 have any:∀ k m,br v'.td t k 1 m=br v.td t k 1 m:=fun k m=>by
  rw[Bool.eq_iff_iff,toldAny_iff,toldAny_iff];simp only[htd]
 refine⟨fun h=>?_,fun h x hx hw=>?_,fun h=>?_,fun h=>?_,fun h=>?_,fun h=>?_⟩
 ·have:=g.yes (by rwa [e3]at h)
  exact⟨by rw[e1];exact this.1,fun x hx hw=>by rw[hh x hx];exact this.2 x hx (by rwa [e2]at hw)⟩
 ·rw[hh x hx];exact g.kept (by rwa [e3]at h) x hx (by rwa [e2]at hw)
 ·have:=g.left (by rwa [e3]at h)
  exact⟨by rw[e1];exact this.1,fun x hx hw=>by rw[hh x hx];exact this.2 x hx (by rwa [e2]at hw)⟩
 ·rw[hA,all,any];exact g.d1 (by rwa [e3]at h)
 ·rw[hA,all];exact g.d2 (by rwa [e3]at h)
 ·rw[hA,all];exact g.d3 (by rwa [e3]at h)
section
variable {v:V}
theorem Base.all_told(I:Base v){t k:Int}(ht:isT t)(hs:v.sA t≠0)(h:aH v.td t k 1 (tAt v.A t).m=true) :
  v.sF t≠0/\(k=4->∀ h,isH h->0<v.want t h->(v.hF h t).s≠0)/\(k=6->(v.sF t=2\/v.sF t=4)/\∀ h,isH h->0<v.want t h->(v.hF h t).s=2)/\(k=7->(v.sF t=3\/v.sF t=5)/\∀ h,isH h->0<v.want t h->(v.hF h t).s=3):=by
 have hm:=(I.A_ok hs).1
 have hl:=bt hm
 rw[fA hl]at h
 obtain⟨x,hx,hw⟩:=iU hm
 have n0:=I.mem_told (h x hx hw)
 have hsF:v.sF t≠0:=n0.s
 have wm:=fun y=>I.FA_m ht.1 hsF y
 refine⟨hsF,fun hk y hy hwy=>?_,fun hk=>⟨?_,fun y hy hwy=>?_⟩,fun hk=>⟨?_,fun y hy hwy=>?_⟩⟩
 ·exact(I.mem_told (h y hy (by rw[wm];exact hwy))).k4 hk
 ·have h2:=n0.k6 hk
  have:=I.hle x t hx ht
  exact(I.hold x t hx ht (by unfold Dx.hle at this;simp only at h2;omega)).c (by unfold Dx.hle at this;simp only at h2;omega)
 ·exact(I.mem_told (h y hy (by rw[wm];exact hwy))).k6 hk
 ·have h2:=n0.k7 hk
  have:=I.hle x t hx ht
  exact(I.hold x t hx ht (by unfold Dx.hle at this;simp only at h2;omega)).u (by unfold Dx.hle at this;simp only at h2;omega)
 ·exact(I.mem_told (h y hy (by rw[wm];exact hwy))).k7 hk
theorem vO{l:List Trip}{r:Rec}(hr:aL r=true)(hm:cG l r=true):tpre l (cQ l r) :=
 ⟨by rw[eU];split<;>omega,fun _ hu hl=>vJ hr hm hu hl⟩
theorem Base.write(I:Base v){r:Rec}(hr:aL r=true)(hm:cG v.A r=true):Base {v with A:=cQ v.A r} :=
 ⟨I.pre.trans (vO hr hm),nQ I.trA hr hm,I.hle,I.okA,I.okF,I.tdo,I.nso,fun x hx=>NetOk.congr (v:=v) rfl rfl (I.net x hx),fun x hx=>NetOk.congr (v:=v) rfl rfl (I.told x hx),fun h t hh htt hs=>HoldFit.congr (v:=v) rfl rfl (I.hold h t hh htt hs)⟩
theorem TripFit.other{v:V}{r:Rec}(hr:aL r=true)(hm:cG v.A r=true){t:Int}(ht:isT t)(e:t≠r.t)(h:TripFit v t):TripFit {v with A:=cQ v.A r} t :=
 TripFit.congr (v:=v) (by simp only;rw[iu hr hm ht.1,if_neg e]) rfl (fun _ _=>rfl) (fun _ _=>Iff.rfl) h
theorem Base.no_told(I:Base v){t k:Int}(ht:isT t)(hk:k=6\/k=7)(hs:v.sA t=1):aH v.td t k 1 (tAt v.A t).m=false:=by
 cases e:aH v.td t k 1 (tAt v.A t).m with
 | false=>rfl
 | true =>
  exfalso
  obtain⟨h1,_,h6,h7⟩:=I.all_told ht (by omega) e
  have:=I.FA_s ht.1 h1
  rcases hk with hk|hk
  ·have:=(h6 hk).1;omega
  ·have:=(h7 hk).1;omega
theorem Base.begin_fit(I:Base v){r:Rec}(hr:aL r=true)(hm:cG v.A r=true)(h4:r.k=4):TripFit {v with A:=cQ v.A r} r.t:=by
 have hrt:=cU hr
 have hlen:r.t=v.A.length+1:=by simpa [cG,h4] using hm
 have ea:tAt (cQ v.A r) r.t=⟨r.m,1⟩:=by rw[iu hr hm hrt.1];simp[h4]
 have es:V.sA {v with A:=cQ v.A r} r.t=1:=by unfold V.sA;rw[ea]
 have non:∀ k h,(⟨k,h,r.t,0⟩:Word)∉v.td:=fun k h hx=>by
  have hs:=(I.mem_told hx).s
  have:=cf hs
  have:=I.pre.len
  simp only at *;omega
 refine⟨fun h=>by rw[es]at h;omega,fun h=>by rw[es]at h;omega,fun h=>by rw[es]at h;omega,fun _=>?_,fun h=>by rw[es]at h;omega,fun h=>by rw[es]at h;omega⟩
 simp only[ea]
 have hm:=iT hr h4
 have hl:=bt hm
 constructor
 ·cases e:br v.td r.t 5 1 r.m with
  | false=>rfl
  | true=>obtain⟨h,_,_,hx⟩:=(rJ hl).1 e;exact absurd hx (non _ _)
 ·cases e:aH v.td r.t 4 1 r.m with
  | false=>rfl
  | true =>
   obtain⟨h,hh,hw⟩:=iU hm
   exact absurd ((fA hl).1 e h hh hw) (non _ _)
theorem Base.no_fit(I:Base v){t:Int}(ht:isT t)(hs:v.sA t=1):cG v.A ⟨6,t,[]⟩=true/\TripFit {v with A:=cQ v.A ⟨6,t,[]⟩} t:=by
 have hr:aL ⟨6,t,[]⟩=true:=by simp[aL,in_iff,ht.1,ht.2]
 have hl:=cf (l:=v.A) (t:=t) (by unfold V.sA at hs;omega)
 have h1:=ht.1
 have hs':(tAt v.A t).s=1:=hs
 have hm:cG v.A ⟨6,t,[]⟩=true:=by simp only[cG];rw[if_neg (by omega),if_neg (by omega)];simp[hs']
 refine⟨hm,?_⟩
 have ea:tAt (cQ v.A ⟨6,t,[]⟩) t=⟨(tAt v.A t).m,3⟩:=by rw[iu hr hm ht.1];simp
 have es:V.sA {v with A:=cQ v.A ⟨6,t,[]⟩} t=3:=by unfold V.sA;rw[ea]
 refine⟨fun h=>by simp only[es]at h;omega,fun h=>by simp only[es]at h;omega,fun h=>by simp only[es]at h;omega,fun h=>by simp only[es]at h;omega,fun h=>by simp only[es]at h;omega,fun _=>?_⟩
 simp only[ea]
 exact I.no_told ht (.inr rfl) hs
theorem Base.not_undone(I:Base v){t h:Int}(ht:isT t)(hh:isH h)(hs:v.sA t=1\/v.sA t=2\/v.sA t=4):(v.hA h t).s≠3/\(v.hF h t).s≠3:=by
 have key:(v.hA h t).s≠3:=fun e=>by
  have g:=I.hold h t hh ht (by omega)
  have h1:=g.u e
  have h2:=I.FA_s ht.1 g.s
  omega
 refine⟨key,fun e=>?_⟩
 have:=I.hle h t hh ht
 unfold Dx.hle at this;omega
theorem kV{x:Hold}(h:bz x=true):0<=x.s/\x.s<=3:=by
 unfold bz at h
 split at h
 ·omega
 ·split at h
  ·omega
  ·split at h
   ·omega
   ·cases h
theorem Base.yes_fit(I:Base v){t:Int}(ht:isT t)(hs:v.sA t=1)(ha:aH v.td t 4 1 (tAt v.A t).m=true):cG v.A ⟨5,t,[]⟩=true/\TripFit {v with A:=cQ v.A ⟨5,t,[]⟩} t:=by
 have hr:aL ⟨5,t,[]⟩=true:=by simp[aL,in_iff,ht.1,ht.2]
 have hl:=cf (l:=v.A) (t:=t) (by unfold V.sA at hs;omega)
 have h1:=ht.1
 have hs':(tAt v.A t).s=1:=hs
 have hm:cG v.A ⟨5,t,[]⟩=true:=by simp only[cG];rw[if_neg (by omega),if_neg (by omega)];simp[hs']
 refine⟨hm,?_⟩
 have ea:tAt (cQ v.A ⟨5,t,[]⟩) t=⟨(tAt v.A t).m,2⟩:=by rw[iu hr hm ht.1];simp
 have es:V.sA {v with A:=cQ v.A ⟨5,t,[]⟩} t=2:=by unfold V.sA;rw[ea]
 obtain⟨k1,k2,_,_⟩:=I.all_told ht (by omega) ha
 refine⟨fun _=>⟨k1,fun h hh hw=>?_⟩,fun h=>by simp only[es]at h;omega,fun h=>by simp only[es]at h;omega,fun h=>by simp only[es]at h;omega,fun _=>?_,fun h=>by simp only[es]at h;omega⟩
 ·have g1:=k2 rfl h hh hw
  have g2:=(I.not_undone ht hh (.inl hs)).2
  have g3:=kV (I.okF h t hh ht)
  show (v.hF h t).s=1\/(v.hF h t).s=2
  omega
 ·simp only[ea]
  exact I.no_told ht (.inl rfl) hs
theorem Base.end_fit(I:Base v){t:Int}(ht:isT t)(h:v.sA t=2/\aH v.td t 6 1 (tAt v.A t).m=true\/v.sA t=3/\aH v.td t 7 1 (tAt v.A t).m=true):cG v.A ⟨7,t,[]⟩=true/\TripFit {v with A:=cQ v.A ⟨7,t,[]⟩} t:=by
 have hr:aL ⟨7,t,[]⟩=true:=by simp[aL,in_iff,ht.1,ht.2]
 have hn:v.sA t≠0:=by omega
 have hl:=cf (l:=v.A) (t:=t) hn
 have h1:=ht.1
 have hs':(tAt v.A t).s=2\/(tAt v.A t).s=3:=by unfold V.sA at h;omega
 have hm:cG v.A ⟨7,t,[]⟩=true:=by simp only[cG];rw[if_neg (by omega),if_neg (by omega),if_neg (by omega),if_pos trivial];simpa using hs'
 refine⟨hm,?_⟩
 have ea:tAt (cQ v.A ⟨7,t,[]⟩) t=⟨(tAt v.A t).m,(tAt v.A t).s+2⟩:=by rw[iu hr hm ht.1];simp
 have es:V.sA {v with A:=cQ v.A ⟨7,t,[]⟩} t=v.sA t+2:=by unfold V.sA;rw[ea]
 rcases h with ⟨hs,ha⟩|⟨hs,ha⟩
 ·obtain⟨k1,_,k6,_⟩:=I.all_told ht hn ha
  exact⟨fun _=>⟨k1,fun h hh hw=>.inr ((k6 rfl).2 h hh hw)⟩,fun _ h hh hw=>(k6 rfl).2 h hh hw,fun h=>by simp only[es]at h;omega,fun h=>by simp only[es]at h;omega,fun h=>by simp only[es]at h;omega,fun h=>by simp only[es]at h;omega⟩
 ·obtain⟨k1,_,_,k7⟩:=I.all_told ht hn ha
  exact⟨fun h=>by simp only[es]at h;omega,fun h=>by simp only[es]at h;omega,fun _=>⟨k1,(k7 rfl).2⟩,fun h=>by simp only[es]at h;omega,fun h=>by simp only[es]at h;omega,fun h=>by simp only[es]at h;omega⟩
theorem Inv.begin(I:Inv v){r:Rec}(hr:aL r=true)(hm:cG v.A r=true)(h4:r.k=4):Inv {v with A:=cQ v.A r} :=
 ⟨I.toBase.write hr hm,fun t ht=>if e:t=r.t then e ▸ I.begin_fit hr hm h4 else(I.trip t ht).other hr hm ht e⟩
theorem uE{k t:Int}(hk:k=5\/k=6\/k=7)(ht:isT t):aL ⟨k,t,[]⟩=true:=by
 rcases hk with e|e|e<;>subst e<;>simp[aL,in_iff,ht.1,ht.2]
theorem Inv.no(I:Inv v){t:Int}(ht:isT t)(hs:v.sA t=1):Inv {v with A:=cQ v.A ⟨6,t,[]⟩}:=by
 obtain⟨hm,hf⟩:=I.no_fit ht hs
 have hr:=uE (k:=6) (by omega) ht
 exact⟨I.toBase.write hr hm,fun u hu=>if e:u=t then e ▸ hf else(I.trip u hu).other hr hm hu e⟩
def V.kind(v:V)(t:Int):Int :=
 if v.sA t=1/\br v.td t 5 1 (tAt v.A t).m then 6
 else if v.sA t=1/\aH v.td t 4 1 (tAt v.A t).m then 5
 else if v.sA t=2/\(t<=v.F.length/\v.sF t=v.sA t)/\aH v.td t 6 1 (tAt v.A t).m then 7
 else if v.sA t=3/\(t<=v.F.length/\v.sF t=v.sA t)/\aH v.td t 7 1 (tAt v.A t).m then 7
 else 0
def V.decide(v:V)(t:Int):V:=if v.kind t>0 then {v with A:=cQ v.A ⟨v.kind t,t,[]⟩} else v
theorem Base.decide(I:Base v){t:Int}(ht:isT t)(hl:t<=v.A.length)(hy:v.sA t=2\/v.sA t=4->v.sF t≠0/\∀ h,isH h->0<v.want t h->(v.hF h t).s=1\/(v.hF h t).s=2)
  (hk:v.sA t=4->∀ h,isH h->0<v.want t h->(v.hF h t).s=2) (hf:v.sA t=5->v.sF t≠0/\∀ h,isH h->0<v.want t h->(v.hF h t).s=3)
  (ho:∀ u,isT u->u≠t->TripFit v u):Inv (v.decide t)/\(v.kind t>0->aL ⟨v.kind t,t,[]⟩=true/\cG v.A ⟨v.kind t,t,[]⟩=true):=by
 have done:∀ k,(k=5\/k=6\/k=7)->v.kind t=k->cG v.A ⟨k,t,[]⟩=true->TripFit {v with A:=cQ v.A ⟨k,t,[]⟩} t->Inv (v.decide t)/\(v.kind t>0->aL ⟨v.kind t,t,[]⟩=true/\cG v.A ⟨v.kind t,t,[]⟩=true):=by
  intro k hk3 ek hm hfit
  have hr:=uE hk3 ht
  refine⟨?_,fun _=>by rw[ek];exact⟨hr,hm⟩⟩
  unfold V.decide
  rw[if_pos (by omega),ek]
  exact⟨I.write hr hm,fun u hu=>if e:u=t then e ▸ hfit else(ho u hu e).other hr hm hu e⟩
 by_cases c1:v.sA t=1/\br v.td t 5 1 (tAt v.A t).m=true
 ·have:=I.no_fit ht c1.1
  exact done 6 (by omega) (by unfold V.kind;rw[if_pos c1]) this.1 this.2
 by_cases c2:v.sA t=1/\aH v.td t 4 1 (tAt v.A t).m=true
 ·have:=I.yes_fit ht c2.1 c2.2
  exact done 5 (by omega) (by unfold V.kind;rw[if_neg c1,if_pos c2]) this.1 this.2
 by_cases c3:v.sA t=2/\(t<=v.F.length/\v.sF t=v.sA t)/\aH v.td t 6 1 (tAt v.A t).m=true
 ·have:=I.end_fit ht (.inl ⟨c3.1,c3.2.2⟩)
  exact done 7 (by omega) (by unfold V.kind;rw[if_neg c1,if_neg c2,if_pos c3]) this.1 this.2
 by_cases c4:v.sA t=3/\(t<=v.F.length/\v.sF t=v.sA t)/\aH v.td t 7 1 (tAt v.A t).m=true
 ·have:=I.end_fit ht (.inr ⟨c4.1,c4.2.2⟩)
  exact done 7 (by omega) (by unfold V.kind;rw[if_neg c1,if_neg c2,if_neg c3,if_pos c4]) this.1 this.2
 have k0:v.kind t=0:=by unfold V.kind;rw[if_neg c1,if_neg c2,if_neg c3,if_neg c4]
 refine⟨?_,fun h=>by omega⟩
 unfold V.decide
 rw[if_neg (by omega)]
 refine⟨I,fun u hu=>if e:u=t then e ▸ ⟨hy,hk,hf,fun h=>?_,fun h=>?_,fun h=>?_⟩ else ho u hu e⟩
 ·constructor
  ·cases e:br v.td t 5 1 (tAt v.A t).m with
   | false=>rfl
   | true=>exact absurd ⟨h,e⟩ c1
  ·cases e:aH v.td t 4 1 (tAt v.A t).m with
   | false=>rfl
   | true=>exact absurd ⟨h,e⟩ c2
 ·cases e:aH v.td t 6 1 (tAt v.A t).m with
  | false=>rfl
  | true =>
   exfalso
   obtain⟨h1,_,h6,_⟩:=I.all_told ht (by omega) e
   have h2:=(h6 rfl).1
   have h3:=I.FA_s ht.1 h1
   have h4:=cf h1
   have:=ht.1
   exact c3 ⟨h,⟨by omega,by omega⟩,e⟩
 ·cases e:aH v.td t 7 1 (tAt v.A t).m with
  | false=>rfl
  | true =>
   exfalso
   obtain⟨h1,_,_,h7⟩:=I.all_told ht (by omega) e
   have h2:=(h7 rfl).1
   have h3:=I.FA_s ht.1 h1
   have h4:=cf h1
   have:=ht.1
   exact c4 ⟨h,⟨by omega,by omega⟩,e⟩
theorem Inv.hear(I:Inv v){x:Word}(hx:WdOk x)(h4:4<=x.k)(hn:NetOk v x){td:List Word}(htd:td=v.td\/td=v.td++[x]) :
  Inv (V.decide {v with td:=td} x.t)/\(V.kind {v with td:=td} x.t>0->aL ⟨V.kind {v with td:=td} x.t,x.t,[]⟩=true/\cG v.A ⟨V.kind {v with td:=td} x.t,x.t,[]⟩=true):=by
 have mem:∀ y∈td,y∈v.td\/y=x:=fun y hy=>by
  rcases htd with e|e
  ·rw[e]at hy;exact .inl hy
  ·rw[e]at hy;simpa using hy
 have sub:∀ y∈v.td,y∈td:=fun y hy=>by
  rcases htd with e|e<;>rw[e]<;>simp[hy]
 have I1:Base {v with td:=td}:=⟨I.pre,I.trA,I.hle,I.okA,I.okF,fun y hy=>(mem y hy).elim (I.tdo y) (fun e=>e ▸ ⟨hx,h4⟩),I.nso,fun y hy=>NetOk.congr (v:=v) rfl rfl (I.net y hy),
  fun y hy=>NetOk.congr (v:=v) rfl rfl ((mem y hy).elim (I.told y) (fun e=>e ▸ hn)),fun h t hh ht hs=>HoldFit.congr (v:=v) rfl rfl (I.hold h t hh ht hs)⟩
 have ht:isT x.t:=hx.t
 have hl:x.t<=v.A.length:=by have:=cf hn.s;have:=I.pre.len;have:=ht.1;omega
 have old:=I.trip x.t ht
 refine I1.decide ht hl (fun h=>old.yes h) (fun h=>old.kept h) (fun h=>old.left h) fun u hu e=>?_
 refine TripFit.congr (v:=v) rfl rfl (fun _ _=>rfl) (fun k h=>⟨fun hm=>?_,fun hm=>sub _ hm⟩) (I.trip u hu)
 rcases mem _ hm with h1|h1
 ·exact h1
 ·exact absurd (congrArg Word.t h1) e
end
end Dx
namespace Dx
section
variable {v v':V}
theorem HoldFit.fwd(g:Fwd v v'){h t:Int}(ht:isT t)(hA:v'.hA h t=v.hA h t)(f:HoldFit v h t):HoldFit v' h t:=by
 obtain⟨f1,f2,f3,f4⟩:=g.sF ht.1 f.s
 exact⟨f1,by rw[f4];exact f.w,by rw[f4,hA];exact f.m,by rw[f4,hA];exact f.m3,by rw[hA];exact fun e=>f2 (f.c e),by rw[hA];exact fun e=>f3 (f.u e)⟩
theorem TripFit.fwd(I:Inv v)(g:Fwd v v')(hA:v'.A=v.A)(htd:v'.td=v.td)(hle':∀ h t,isH h->isT t->hle (v'.hF h t) (v.hA h t))(ok':∀ h t,isH h->isT t->bz (v'.hF h t)=true){t:Int}(ht:isT t):TripFit v' t:=by
 have f:=I.trip t ht
 have e3:v'.sA t=v.sA t:=by unfold V.sA;rw[hA]
 refine⟨fun h=>?_,fun h x hx hw=>?_,fun h=>?_,fun h=>?_,fun h=>?_,fun h=>?_⟩
 ·rw[e3]at h
  obtain⟨k1,k2⟩:=f.yes h
  obtain⟨f1,_,_,f4⟩:=g.sF ht.1 k1
  refine⟨f1,fun x hx hw=>?_⟩
  have h1:=k2 x hx (by rwa [f4]at hw)
  have h2:=g.h x t hx ht
  have h3:=hle' x t hx ht
  have h4:=(I.toBase.not_undone ht hx (by omega)).1
  unfold hle at h2 h3
  omega
 ·rw[e3]at h
  obtain⟨k1,_⟩:=f.yes (.inr h)
  obtain⟨f1,_,_,f4⟩:=g.sF ht.1 k1
  have h1:=f.kept h x hx (by rwa [f4]at hw)
  have h2:=g.h x t hx ht
  unfold hle at h2
  omega
 ·rw[e3]at h
  obtain⟨k1,k2⟩:=f.left h
  obtain⟨f1,_,_,f4⟩:=g.sF ht.1 k1
  refine⟨f1,fun x hx hw=>?_⟩
  have h1:=k2 x hx (by rwa [f4]at hw)
  have h2:=g.h x t hx ht
  unfold hle at h2
  omega
 ·rw[hA,htd];exact f.d1 (by rwa [e3]at h)
 ·rw[hA,htd];exact f.d2 (by rwa [e3]at h)
 ·rw[hA,htd];exact f.d3 (by rwa [e3]at h)
theorem Inv.fwd(I:Inv v)(g:Fwd v v')(hA:v'.A=v.A)(htd:v'.td=v.td)(hns:v'.ns=v.ns)(hhA:∀ h t,isH h->isT t->v'.hA h t=v.hA h t)(pre:tpre v'.F v.A)
  (hle':∀ h t,isH h->isT t->hle (v'.hF h t) (v.hA h t)) (ok':∀ h t,isH h->isT t->bz (v'.hF h t)=true):Inv v' :=
 ⟨⟨by rw[hA];exact pre,by rw[hA];exact I.trA,fun h t hh ht=>by rw[hhA h t hh ht];exact hle' h t hh ht,fun h t hh ht=>by rw[hhA h t hh ht];exact I.okA h t hh ht,ok',by rw[htd];exact I.tdo,by rw[hns];exact I.nso,
  by rw[hns];exact fun x hx=>(I.net x hx).fwd g (I.nso x hx),by rw[htd];exact fun x hx=>(I.told x hx).fwd g (I.tdo x hx).1,fun h t hh ht hs=>by
   rw[hhA h t hh ht]at hs
   exact(I.hold h t hh ht hs).fwd g ht (hhA h t hh ht)⟩,fun t ht=>TripFit.fwd I g hA htd hle' ok' ht⟩
theorem Inv.dfall(I:Inv v){B:List Trip}(h1:tpre v.F B)(h2:tpre B v.A)(hB:TrOk B):Inv {v with F:=B,A:=B,td:=[]}:=by
 have g:Fwd v {v with F:=B,A:=B,td:=[]}:=⟨h1,fun _ _ _ _=>hle.rfl' _⟩
 refine⟨⟨tpre.rfl' _,hB,I.hle,I.okA,I.okF,by simp,I.nso,fun x hx=>(I.net x hx).fwd g (I.nso x hx),by simp,fun h t hh ht hs=>(I.hold h t hh ht hs).fwd g ht rfl⟩,fun t ht=>?_⟩
 have f:=I.trip t ht
 have hBA:(tAt B t).s≠0->tle (tAt B t) (tAt v.A t):=fun h=>h2.le t ht.1 (by have:=cf h;have:=ht.1;omega)
 have none:∀ k,(tAt B t).s≠0->aH [] t k 1 (tAt B t).m=false:=fun k h=>by
  have hm:cZ (tAt B t).m=true:=(tripOk_iff.1 (hB.ok _ (eT (cf h)))).1
  cases e:aH [] t k 1 (tAt B t).m with
  | false=>rfl
  | true =>
   obtain⟨x,hx,hw⟩:=iU hm
   exact absurd ((fA (bt hm)).1 e x hx hw) (by simp)
 have want:v.sF t≠0->∀ x,V.want {v with F:=B,A:=B,td:=[]} t x=v.want t x:=fun h=>(g.sF ht.1 h).2.2.2
 refine⟨fun h=>?_,fun h x hx hw=>?_,fun h=>?_,fun h=>?_,fun h=>?_,fun h=>?_⟩
 ·have hs:(tAt B t).s=2\/(tAt B t).s=4:=h
  have:=(hBA (by omega)).2
  obtain⟨k1,k2⟩:=f.yes (by unfold V.sA;omega)
  exact⟨by show (tAt B t).s≠0;omega,fun x hx hw=>k2 x hx (by rwa [want k1]at hw)⟩
 ·have hs:(tAt B t).s=4:=h
  have:=(hBA (by omega)).2
  have h4:v.sA t=4:=by unfold V.sA;omega
  exact f.kept h4 x hx (by rwa [want (f.yes (.inr h4)).1]at hw)
 ·have hs:(tAt B t).s=5:=h
  have:=(hBA (by omega)).2
  have h5:v.sA t=5:=by unfold V.sA;omega
  obtain⟨k1,k2⟩:=f.left h5
  exact⟨by show (tAt B t).s≠0;omega,fun x hx hw=>k2 x hx (by rwa [want k1]at hw)⟩
 ·have hs:(tAt B t).s=1:=h
  refine⟨?_,none 4 (by omega)⟩
  cases e:br [] t 5 1 (tAt B t).m with
  | false=>rfl
  | true =>
   obtain⟨j,n,_,_,hx⟩:=toldAny_iff.1 e
   exact absurd hx (by simp)
 ·have hs:(tAt B t).s=2:=h
  exact none 6 (by omega)
 ·have hs:(tAt B t).s=3:=h
  exact none 7 (by omega)
theorem Inv.nets(I:Inv v){ns:List Word}(h:∀ x∈ns,WdOk x/\NetOk v x):Inv {v with ns:=ns} :=
 ⟨⟨I.pre,I.trA,I.hle,I.okA,I.okF,I.tdo,fun x hx=>(h x hx).1,fun x hx=>NetOk.congr (v:=v) rfl rfl (h x hx).2,fun x hx=>NetOk.congr (v:=v) rfl rfl (I.told x hx),fun a t hh ht hs=>HoldFit.congr (v:=v) rfl rfl (I.hold a t hh ht hs)⟩,
  fun t ht=>TripFit.congr (v:=v) rfl rfl (fun _ _=>rfl) (fun _ _=>Iff.rfl) (I.trip t ht)⟩
theorem Inv.hwrite(I:Inv v)(hF:v'.F=v.F)(hA:v'.A=v.A)(htd:v'.td=v.td)(hns:v'.ns=v.ns)(hhF:∀ h t,isH h->isT t->v'.hF h t=v.hF h t)(hhle:∀ h t,isH h->isT t->hle (v.hF h t) (v'.hA h t))
  (ok':∀ h t,isH h->isT t->bz (v'.hA h t)=true) (hold:∀ h t,isH h->isT t->(v'.hA h t).s≠0->HoldFit v' h t):Inv v' :=
 ⟨⟨by rw[hF,hA];exact I.pre,by rw[hA];exact I.trA,fun h t hh ht=>by rw[hhF h t hh ht];exact hhle h t hh ht,ok',fun h t hh ht=>by rw[hhF h t hh ht];exact I.okF h t hh ht,by rw[htd];exact I.tdo,by rw[hns];exact I.nso,
  by rw[hns];exact fun x hx=>NetOk.congr (v:=v) (by rw[hF]) (hhF _ _ (I.nso x hx).h (I.nso x hx).t) (I.net x hx),by rw[htd];exact fun x hx=>NetOk.congr (v:=v) (by rw[hF]) (hhF _ _ (I.tdo x hx).1.h (I.tdo x hx).1.t) (I.told x hx),hold⟩,
  fun t ht=>TripFit.congr (v:=v) (by rw[hA]) (by rw[hF]) (fun h hh=>hhF h t hh ht) (fun _ _=>by rw[htd]) (I.trip t ht)⟩
theorem Inv.hfall(I:Inv v)(hF:v'.F=v.F)(hA:v'.A=v.A)(htd:v'.td=v.td)(hns:v'.ns=v.ns)(h1:∀ h t,isH h->isT t->hle (v.hF h t) (v'.hF h t))(h2:∀ h t,isH h->isT t->hle (v'.hA h t) (v.hA h t))
  (h3:∀ h t,isH h->isT t->hle (v'.hF h t) (v'.hA h t)) (okA:∀ h t,isH h->isT t->bz (v'.hA h t)=true) (okF:∀ h t,isH h->isT t->bz (v'.hF h t)=true):Inv v':=by
 have g:Fwd v v':=⟨by rw[hF];exact tpre.rfl' _,h1⟩
 have hsF:∀ t,v'.sF t=v.sF t:=fun t=>by unfold V.sF;rw[hF]
 have hw:∀ t h,v'.want t h=v.want t h:=fun t h=>by unfold V.want;rw[hF]
 refine⟨⟨by rw[hF,hA];exact I.pre,by rw[hA];exact I.trA,h3,okA,okF,by rw[htd];exact I.tdo,by rw[hns];exact I.nso,by rw[hns];exact fun x hx=>(I.net x hx).fwd g (I.nso x hx),by rw[htd];exact fun x hx=>(I.told x hx).fwd g (I.tdo x hx).1,fun h t hh ht hs=>?_⟩,
  fun t ht=>TripFit.fwd I g hA htd (fun h t hh ht=>(h3 h t hh ht).trans (h2 h t hh ht)) okF ht⟩
 have k:=h2 h t hh ht
 have ok:=okA h t hh ht
 have f:=I.hold h t hh ht (by unfold hle at k;omega)
 have hm1:(v'.hA h t).s=1->1<=(v'.hA h t).m:=fun e=>by
  have:=ok
  unfold bz at this
  rw[if_neg (by omega),if_pos (.inl e),in_iff]at this
  exact this.1
 have fm:=f.m
 have fm3:=f.m3
 have fc:=f.c
 have fu:=f.u
 unfold hle at k
 refine⟨by rw[hsF];exact f.s,by rw[hw];exact f.w,fun e=>?_,fun e=>?_,fun e=>?_,fun e=>?_⟩
 ·rw[hw]
  have hwp:=f.w
  rcases k with k|⟨k1,k2⟩
  ·exact absurd k hs
  ·by_cases e3:(v.hA h t).s=3
   ·have:=fm3 e3
    have:=hm1 (by omega)
    omega
   ·have:=fm e3;omega
 ·rw[hw]
  rcases k with k|⟨k1,k2⟩
  ·exact absurd k hs
  ·have:=fm3 (by omega);omega
 ·rw[hsF];exact fc (by omega)
 ·rw[hsF];exact fu (by omega)
end
end Dx
namespace Dx
theorem FH{h:House}(ho:HsOk h){t:Int}(ht:1<=t):hle (hAt (am h true).hs t) (hAt (am h false).hs t):=by
 have e:=ho.stock false
 simp only[aW,Bool.false_eq_true,if_false]at e
 obtain⟨s1,e1,e2⟩:=dV e h.lg.f.toNat
 have e3:=ho.stock true
 simp only[aW,if_true]at e3
 rw[e3]at e1;simp only[Option.some.injEq]at e1;subst e1
 exact jl (ho.stOk true) e2 ht
theorem qg{h:House}(ho:HsOk h)(b:Bool){t:Int}(ht:isT t):bz (hAt (am h b).hs t)=true:=by
 have s:=ho.stOk b
 refine s.hold _ (Ay ?_)
 rw[s.len];have:=ht.1;have:=ht.2;omega
theorem uF{d:Desk}(h:DkOk d):tpre (ak d true) (ak d false):=by
 obtain⟨l1,e,e2,_⟩:=dm h.tr d.lg.f.toNat
 have:=h.trips true
 simp only[aW,if_true]at this
 rw[this]at e;simp only[Option.some.injEq]at e;subst e
 exact jm e2
theorem nS{l:Log}(h:LgOk l)(h40:l.rs.length<40)(r:Rec):aW (dJ l r) true=aW l true/\aW (dJ l r) false=aW l false++[r]:=by
 rw[FF h40]
 have h1:=h.hi
 have h2:=h.lo
 refine⟨?_,rfl⟩
 simp only[aW,if_true]
 rw[List.take_append_of_le_length (by omega)]
theorem i9{d:Desk}(h:DkOk d){r:Rec}(hr:aL r=true)(hc:d.up=true/\cG (ak d false) r=true) :
  bh d r={d with lg:=dJ d.lg r}/\ak (bh d r) true=ak d true/\ak (bh d r) false=cQ (ak d false) r:=by
 have e:bh d r={d with lg:=dJ d.lg r}:=by simp[bh,hc.1,hc.2]
 have hl:=h.len18
 obtain⟨k1,k2⟩:=nS h.lg (by omega) r
 refine⟨e,?_,?_⟩
 ·rw[e];unfold ak ai;simp only;rw[k1]
 ·rw[e];unfold ak ai;simp only;rw[k2]
  have:=kz h.tr hr hc.2
  simp only[aW,Bool.false_eq_true,if_false,this];rfl
theorem jn{d:Desk}{r:Rec}(hc:¬ (d.up=true/\cG (ak d false) r=true)):bh d r=d:=by
 simp only[bh,Bool.and_eq_true];rw[if_neg hc]
theorem kX{h:House}(ho:HsOk h){r:Rec}(hr:aL r=true)(hm:may (am h false) r=true) :
  am {h with lg:=dJ h.lg r} true=am h true/\am {h with lg:=dJ h.lg r} false=act (am h false) r:=by
 have hl:=ho.len
 obtain⟨k1,k2⟩:=nS ho.lg (by omega) r
 refine⟨?_,?_⟩
 ·unfold am;simp only;rw[k1]
 ·unfold am;simp only;rw[k2]
  have e:=ho.stock false
  have:=ky e hr hm
  rw[this];rfl
theorem hs_force{h:House}:(h.up=true->am (bY h) true=am h false)/\am (bY h) false=am h false:=by
 unfold bY
 refine⟨fun hu=>?_,by split<;>rfl⟩
 rw[if_pos hu]
 unfold am fv aW
 simp
theorem FI{h:House}(ho:HsOk h)(keep:Int):am (hfall h keep) true=am (hfall h keep) false/\(∀ {t:Int},1<=t->hle (hAt (am h true).hs t) (hAt (am (hfall h keep) true).hs t)/\hle (hAt (am (hfall h keep) true).hs t) (hAt (am h false).hs t)):=by
 have hk:=ho.lg.keep keep
 have h0:=ho.lg.lo
 have e:am (hfall h keep) true=am (hfall h keep) false:=by
  unfold am hfall fL aW
  simp only[if_true,Bool.false_eq_true,if_false]
  rw[List.take_take,Nat.min_self]
 refine⟨e,fun {t} ht=>?_⟩
 have s1:=ho.stock true
 have s2:=ho.stock false
 have s3:=(ho.fall keep).stock false
 simp only[aW,if_true,Bool.false_eq_true,if_false,hfall,fL]at s1 s2 s3
 have e3:am (hfall h keep) false=am ⟨h.id,false,h.room,⟨h.lg.rs.take (eO h.lg keep).toNat,eO h.lg keep⟩⟩ false:=rfl
 rw[e,e3]
 constructor
 ·obtain⟨s4,e4,e5⟩:=dV s3 h.lg.f.toNat
  rw[List.take_take,Nat.min_eq_left (by omega),s1]at e4
  simp only[Option.some.injEq]at e4;subst e4
  exact jl (ho.stOk true) e5 ht
 ·obtain⟨s4,e4,e5⟩:=dV s2 (eO h.lg keep).toNat
  rw[s3]at e4
  simp only[Option.some.injEq]at e4;subst e4
  exact jl ((ho.fall keep).stOk false) e5 ht
theorem dk_force{d:Desk}:(d.up=true->ak (bv d) true=ak d false)/\ak (bv d) false=ak d false:=by
 unfold bv
 refine⟨fun hu=>?_,by split<;>rfl⟩
 rw[if_pos hu]
 unfold ak ai fv aW
 simp
theorem FJ{d:Desk}(h:DkOk d)(keep:Int):ak (dfall d keep) true=ak (dfall d keep) false/\tpre (ak d true) (ak (dfall d keep) true)/\tpre (ak (dfall d keep) true) (ak d false):=by
 have hk:=h.lg.keep keep
 have h0:=h.lg.lo
 have e:ak (dfall d keep) true=ak (dfall d keep) false:=by
  unfold ak ai dfall fL aW
  simp only[if_true,Bool.false_eq_true,if_false]
  rw[List.take_take,Nat.min_self]
 refine⟨e,?_⟩
 have s1:=h.trips true
 have s2:=h.trips false
 have s3:=(h.fall keep).trips false
 simp only[aW,if_true,Bool.false_eq_true,if_false,dfall,fL]at s1 s2 s3
 have e3:ak (dfall d keep) false=ak ⟨false,⟨d.lg.rs.take (eO d.lg keep).toNat,eO d.lg keep⟩,[]⟩ false:=rfl
 rw[e,e3]
 constructor
 ·obtain⟨s4,e4,e5,_⟩:=dm s3 d.lg.f.toNat
  rw[List.take_take,Nat.min_eq_left (by omega),s1]at e4
  simp only[Option.some.injEq]at e4;subst e4
  exact jm e5
 ·obtain⟨s4,e4,e5,_⟩:=dm s2 (eO d.lg keep).toNat
  rw[s3]at e4
  simp only[Option.some.injEq]at e4;subst e4
  exact jm e5
def vw(w:Wd):V:=⟨ak w.dk true,ak w.dk false,w.dk.td,w.ns,fun h t=>hAt (am (houseAt w h) true).hs t,fun h t=>hAt (am (houseAt w h) false).hs t⟩
theorem vk{w:Wd}(ho:WOk w){i j:Int}(hi:isH i)(hj:isH j)(x:House):houseAt (setHouse w i x) j=if j=i then x else houseAt w j:=by
 have hl:=ho.len
 obtain⟨h1,h2⟩:=hi
 obtain⟨h3,h4⟩:=hj
 unfold Dx.houseAt setHouse
 simp only[List.getElem?_set]
 by_cases e:j=i
 ·subst e;simp;rw[if_pos (by omega)];rfl
 ·rw[if_neg (by omega),if_neg e]
section
variable {w:Wd}
theorem lu{d:Desk}:vw {w with dk:=d}={vw w with F:=ak d true,A:=ak d false,td:=d.td}:=rfl
theorem rK(ho:WOk w)(I:Inv (vw w)){r:Rec}(hr:aL r=true)(h:cG (ak w.dk false) r=true->Inv {vw w with A:=cQ (vw w).A r}):Inv (vw {w with dk:=bh w.dk r}):=by
 by_cases hc:w.dk.up=true/\cG (ak w.dk false) r=true
 ·obtain⟨e1,e2,e3⟩:=i9 ho.dk hr hc
  have:vw {w with dk:=bh w.dk r}={vw w with A:=cQ (vw w).A r}:=by
   rw[lu,e2,e3,(fx _ _).1];rfl
  rw[this];exact h hc.2
 ·rw[jn hc];exact I
theorem Bt(ho:WOk w)(I:Inv (vw w))(m:List Int):Inv (vw {w with dk:=fw w.dk m}):=by
 unfold fw
 split
 ·rename_i hr
  exact rK ho I hr fun hm=>I.begin hr hm rfl
 ·exact I
theorem CQ(ho:WOk w)(I:Inv (vw w))(t:Int):Inv (vw {w with dk:=hU w.dk t}):=by
 unfold hU
 split
 ·rename_i ht
  have ht:=in_iff.1 ht
  refine rK ho I (uE (k:=6) (by omega) ht) fun hm=>?_
  have hs:(vw w).sA t=1:=by
   simp only[cG]at hm
   split at hm
   ·omega
   ·split at hm
    ·cases hm
    ·show (tAt (ak w.dk false) t).s=1;simpa using hm
  exact I.no ht hs
 ·exact I
theorem Bu(ho:WOk w)(I:Inv (vw w)){x:Word}(hn:NetOk (vw w) x):Inv (vw {w with dk:=dhear w.dk x}):=by
 unfold dhear
 split
 case isFalse=>exact I
 rename_i hc
 have hd1:=ho.dk.tell hc
 simp only[c7,Bool.and_eq_true,decide_eq_true_eq,wordOk_iff]at hc
 obtain⟨hup,hx,h4,_⟩:=hc
 obtain⟨t1,t2⟩:=fT w.dk x
 have htd:(ce w.dk x).td=(vw w).td\/(ce w.dk x).td=(vw w).td++[x]:=by
  unfold ce;split
  ·exact .inl rfl
  ·exact .inr rfl
 have key:=I.hear hx h4 hn htd
 have e1:vw {w with dk:=ce w.dk x}={vw w with td:=(ce w.dk x).td}:=by
  rw[lu];unfold ak;rw[t2];rfl
 have ek:gw (ce w.dk x) x.t=V.kind {vw w with td:=(ce w.dk x).td} x.t:=by
  unfold gw V.kind mS ak V.sA V.sF
  rw[t2]
  simp only[vw,ak,Bool.and_eq_true,decide_eq_true_eq,beq_iff_eq]
  rfl
 unfold dd
 rw[ek]
 unfold V.decide at key
 split
 ·rename_i hk
  rw[if_pos hk]at key
  obtain⟨k1,k2⟩:=key
  obtain⟨k3,k4⟩:=k2 hk
  have hcc:(ce w.dk x).up=true/\cG (ak (ce w.dk x) false) ⟨V.kind {vw w with td:=(ce w.dk x).td} x.t,x.t,[]⟩=true:=by
   refine⟨by rw[t1];exact hup,?_⟩
   unfold ak;rw[t2];exact k4
  obtain⟨w1,w2,w3⟩:=i9 hd1 k3 hcc
  rw[lu,w2,w3,(fx _ _).1]
  have e2:ak (ce w.dk x) true=ak w.dk true:=by unfold ak;rw[t2]
  have e3:ak (ce w.dk x) false=ak w.dk false:=by unfold ak;rw[t2]
  rw[e2,e3]
  exact k1
 ·rename_i hk
  rw[if_neg hk]at key
  rw[e1];exact key.1
theorem yo(ho:WOk w)(I:Inv (vw w)):Inv (vw {w with dk:=bv w.dk}):=by
 obtain⟨e1,e2⟩:=dk_force (d:=w.dk)
 have e3:(bv w.dk).td=w.dk.td:=by unfold bv;split<;>rfl
 by_cases hu:w.dk.up=true
 ·refine I.fwd (v':=vw {w with dk:=bv w.dk}) ⟨?_,fun _ _ _ _=>hle.rfl' _⟩ e2 e3 rfl (fun _ _ _ _=>rfl) ?_ I.hle I.okF
  ·show tpre (ak w.dk true) (ak (bv w.dk) true)
   rw[e1 hu];exact uF ho.dk
  ·show tpre (ak (bv w.dk) true) (ak w.dk false)
   rw[e1 hu];exact tpre.rfl' _
 ·have:bv w.dk=w.dk:=by unfold bv;rw[if_neg hu]
  rw[this];exact I
theorem Bv(ho:WOk w)(I:Inv (vw w))(keep:Int):Inv (vw {w with dk:=dfall w.dk keep}):=by
 obtain⟨e1,e2,e3⟩:=FJ ho.dk keep
 have:=I.dfall e2 e3 ((ho.dk.fall keep).trOk true)
 rw[lu,<-e1];exact this
theorem Bw(I:Inv (vw w)):Inv (vw {w with dk:=ej w.dk}):=I
theorem dD(ho:WOk w){i:Int}(hi:isH i)(x:House){h t:Int}(hh:isH h) :
  (vw (setHouse w i x)).hF h t=(if h=i then hAt (am x true).hs t else(vw w).hF h t)/\(vw (setHouse w i x)).hA h t=(if h=i then hAt (am x false).hs t else(vw w).hA h t):=by
 simp only[vw,vk ho hi hh x]
 constructor<;>split<;>rfl
theorem yp(ho:WOk w)(I:Inv (vw w)){i:Int}(hi:isH i):Inv (vw (setHouse w i (bY (houseAt w i)))):=by
 obtain⟨_,hho,_⟩:=ho.houseAt hi
 obtain⟨e1,e2⟩:=hs_force (h:=houseAt w i)
 have hF:∀ h t,isH h->(vw (setHouse w i (bY (houseAt w i)))).hF h t=(vw w).hF h t\/(vw (setHouse w i (bY (houseAt w i)))).hF h t=(vw w).hA h t:=fun h t hh=>by
  rw[(dD ho hi _ hh).1]
  by_cases e:h=i
  ·subst e
   rw[if_pos rfl]
   by_cases hu:(houseAt w h).up=true
   ·rw[e1 hu];exact .inr rfl
   ·have:bY (houseAt w h)=houseAt w h:=by unfold bY;rw[if_neg hu]
    rw[this];exact .inl rfl
  ·rw[if_neg e];exact .inl rfl
 refine I.fwd ⟨tpre.rfl' _,fun h t hh ht=>?_⟩ rfl rfl rfl (fun h t hh ht=>?_) I.pre (fun h t hh ht=>?_) (fun h t hh ht=>?_)
 ·rcases hF h t hh with e|e<;>rw[e]
  ·exact hle.rfl' _
  ·exact I.hle h t hh ht
 ·rw[(dD ho hi _ hh).2,e2]
  split
  ·rename_i e;subst e;rfl
  ·rfl
 ·rcases hF h t hh with e|e<;>rw[e]
  ·exact I.hle h t hh ht
  ·exact hle.rfl' _
 ·rcases hF h t hh with e|e<;>rw[e]
  ·exact I.okF h t hh ht
  ·exact I.okA h t hh ht
theorem Bx(ho:WOk w)(I:Inv (vw w)){i:Int}(hi:isH i)(keep:Int):Inv (vw (setHouse w i (hfall (houseAt w i) keep))):=by
 obtain⟨_,hho,_⟩:=ho.houseAt hi
 obtain⟨e1,e2⟩:=FI hho keep
 have hf:=hho.fall keep
 refine I.hfall rfl rfl rfl rfl (fun h t hh ht=>?_) (fun h t hh ht=>?_) (fun h t hh ht=>?_) (fun h t hh ht=>?_) (fun h t hh ht=>?_)
 ·rw[(dD ho hi _ hh).1]
  split
  ·rename_i e;subst e;exact(e2 ht.1).1
  ·exact hle.rfl' _
 ·rw[(dD ho hi _ hh).2,<-e1]
  split
  ·rename_i e;subst e;exact(e2 ht.1).2
  ·exact hle.rfl' _
 ·rw[(dD ho hi _ hh).1,(dD ho hi _ hh).2,<-e1]
  split
  ·exact hle.rfl' _
  ·exact I.hle h t hh ht
 ·rw[(dD ho hi _ hh).2]
  split
  ·exact qg hf false ht
  ·exact I.okA h t hh ht
 ·rw[(dD ho hi _ hh).1]
  split
  ·exact qg hf true ht
  ·exact I.okF h t hh ht
theorem By(ho:WOk w)(I:Inv (vw w)){i:Int}(hi:isH i):Inv (vw (setHouse w i (fj (houseAt w i)))):=by
 refine I.hwrite rfl rfl rfl rfl (fun h t hh ht=>?_) (fun h t hh ht=>?_) (fun h t hh ht=>?_) (fun h t hh ht hs=>?_)
 ·rw[(dD ho hi _ hh).1];split
  ·rename_i e;subst e;rfl
  ·rfl
 all_goals
  have e:(vw (setHouse w i (fj (houseAt w i)))).hA h t=(vw w).hA h t:=by
   rw[(dD ho hi _ hh).2];split
   ·rename_i e;subst e;rfl
   ·rfl
 ·rw[e];exact I.hle h t hh ht
 ·rw[e];exact I.okA h t hh ht
 ·rw[e]at hs
  exact HoldFit.congr (v:=vw w) rfl e (I.hold h t hh ht hs)
theorem Bz(ho:WOk w)(I:Inv (vw w)){x:Word}(hx:WdOk x)(hn:NetOk (vw w) x) :
  Inv (vw (setHouse w x.h (hhear (houseAt w x.h) x).1))/\∀ y,(hhear (houseAt w x.h) x).2=some y->NetOk (vw (setHouse w x.h (hhear (houseAt w x.h) x).1)) y:=by
 have hi:isH x.h:=hx.h
 obtain⟨_,hho,hid⟩:=ho.houseAt hi
 have same:setHouse w x.h (houseAt w x.h)=w:=by
  obtain⟨e,_,_⟩:=ho.houseAt hi
  have hl:=(List.getElem?_eq_some_iff.1 e).1
  have he:=(List.getElem?_eq_some_iff.1 e).2
  unfold setHouse
  rw[<-he,List.set_getElem_self]
 unfold hhear
 split
 ·simp only[same];exact⟨I,by simp⟩
 rename_i hc
 simp only[Bool.or_eq_true,Bool.not_eq_true',decide_eq_true_eq,bne_iff_ne,not_or,Bool.not_eq_false]at hc
 have hk3:x.k<=3:=by omega
 split
 ·rename_i hm
  obtain⟨e1,e2⟩:=kX hho (cW hx) hm
  have hrt:=Az x
  have hl:=(hho.stOk false).len
  have hF:∀ h t,isH h->isT t->(vw (setHouse w x.h {houseAt w x.h with lg:=dJ (houseAt w x.h).lg (bI x)})).hF h t=(vw w).hF h t:=fun h t hh ht=>by
   rw[(dD ho hi _ hh).1];split
   ·rename_i e;subst e;rw[e1];rfl
   ·rfl
  have hA:∀ h t,isH h->isT t->(vw (setHouse w x.h {houseAt w x.h with lg:=dJ (houseAt w x.h).lg (bI x)})).hA h t=if h=x.h/\t=x.t then i7 ((vw w).hA h t) (bI x) else(vw w).hA h t:=fun h t hh ht=>by
   rw[(dD ho hi _ hh).2]
   by_cases e:h=x.h
   ·subst e
    rw[if_pos rfl,e2,z0 hl (cW hx) ht.1,hrt]
    by_cases et:t=x.t
    ·subst et;rw[if_pos rfl,if_pos ⟨rfl,rfl⟩];rfl
    ·rw[if_neg et,if_neg (fun h=>et h.2)];rfl
   ·rw[if_neg e,if_neg (fun h=>e h.1)]
  have hhle:∀ h t,isH h->isT t->hle ((vw w).hA h t) ((vw (setHouse w x.h {houseAt w x.h with lg:=dJ (houseAt w x.h).lg (bI x)})).hA h t):=fun h t hh ht=>by
   rw[(dD ho hi _ hh).2]
   split
   ·rename_i e;subst e;rw[e2];exact te hl (cW hx) hm ht.1
   ·exact hle.rfl' _
  refine⟨I.hwrite rfl rfl rfl rfl hF (fun h t hh ht=>(I.hle h t hh ht).trans (hhle h t hh ht)) (fun h t hh ht=>?_) (fun h t hh ht hs=>?_),by simp⟩
  ·have:=qg (hho.write (cW hx) hm) false ht
   rw[(dD ho hi _ hh).2];split
   ·exact this
   ·exact I.okA h t hh ht
  ·by_cases e:h=x.h/\t=x.t
   ·obtain⟨rfl,rfl⟩:=e
    have ea:=hA x.h x.t hh ht
    rw[if_pos ⟨rfl,rfl⟩]at ea
    refine⟨hn.s,hn.w,?_,?_,?_,?_⟩<;>rw[ea]
    all_goals
     have hst:(vw w).hA x.h x.t=hAt (am (houseAt w x.h) false).hs x.t:=rfl
     have hmay:=hm
     simp only[may,fe,hrt]at hmay
     rw[<-hst]at hmay
     have hok:=I.okA x.h x.t hh ht
     have hmm:∀ {v':V},v'.F=(vw w).F->V.want v' x.t x.h=(vw w).want x.t x.h:=fun e=>by unfold V.want;rw[e]
     have hss:∀ {v':V},v'.F=(vw w).F->V.sF v' x.t=(vw w).sF x.t:=fun e=>by unfold V.sF;rw[e]
     try rw[hmm rfl]
     try rw[hss rfl]
     have f:=fun h=>I.hold x.h x.t hh ht h
     have k1:=hn.k1
     have k2:=hn.k2
     have k3:=hn.k3
     unfold bI at hmay ⊢
     unfold i7
     have hk1:=hx.k.1
     have hzero:((vw w).hA x.h x.t).s=0->((vw w).hA x.h x.t).m=0:=fun e=>by
      unfold bz at hok;rw[if_pos e]at hok;simpa using hok
     by_cases h1:x.k=1
     ·simp[h1]at hmay ⊢
      try exact k1 h1
     ·by_cases h2:x.k=2
      ·simp[h2]at hmay ⊢
       try exact(f (by omega)).m (by omega)
       try exact k2 h2
      ·simp[h1,h2]at hmay ⊢
       first
        | exact k3 (by omega)
        | (by_cases h0:((vw w).hA x.h x.t).s=0
           ·exact .inr (hzero h0)
           ·exact .inl ((f h0).m (by omega)))
        | skip
   ·have ea:=hA h t hh ht
    rw[if_neg e]at ea
    rw[ea]at hs
    exact HoldFit.congr (v:=vw w) rfl ea (I.hold h t hh ht hs)
 ·split
  ·rename_i h1
   simp only[same]
   refine⟨I,fun y hy=>?_⟩
   simp only[Option.some.injEq]at hy;subst hy
   rw[hid]
   exact⟨hn.s,hn.w,by simp,by simp,by simp,by simp,by simp,by simp⟩
  ·simp only[same]
   refine⟨I,fun y hy=>?_⟩
   unfold answer at hy
   rw[hid]at hy
   have hst:fe (am (houseAt w x.h) true) x.t=((vw w).hF x.h x.t).s:=rfl
   rw[hst]at hy
   split at hy
   ·rename_i hh;simp only[Option.some.injEq]at hy;subst hy
    exact⟨hn.s,hn.w,by simp,by simp,by simp,fun _=>by simp only;omega,by simp,by simp⟩
   ·split at hy
    ·simp only[Option.some.injEq]at hy;subst hy
     exact⟨hn.s,hn.w,by simp,by simp,by simp,by simp,by simp,by simp⟩
    ·split at hy
     ·rename_i hh;simp only[Option.some.injEq]at hy;subst hy
      exact⟨hn.s,hn.w,by simp,by simp,by simp,by simp,fun _=>hh.2,by simp⟩
     ·split at hy
      ·rename_i hh;simp only[Option.some.injEq]at hy;subst hy
       exact⟨hn.s,hn.w,by simp,by simp,by simp,by simp,by simp,fun _=>hh.2⟩
      ·cases hy
end
end Dx
namespace Dx
variable {w:Wd}
theorem Cl(w:Wd)(ns:List Word):vw {w with ns:=ns}={vw w with ns:=ns}:=rfl
theorem NetOk.ns{x:Word}{ns:List Word}(h:NetOk (vw w) x):NetOk (vw {w with ns:=ns}) x:=NetOk.congr (v:=vw w) rfl rfl h
theorem NetOk.ns'{x:Word}{ns:List Word}(h:NetOk (vw {w with ns:=ns}) x):NetOk (vw w) x:=NetOk.congr (v:=vw {w with ns:=ns}) rfl rfl h
theorem th(I:Inv (vw w)){x:Word}(hx:WdOk x)(hn:NetOk (vw w) x):Inv (vw (kx w x)):=by
 unfold kx
 split
 ·rw[Cl]
  refine I.nets fun y hy=>?_
  rcases List.mem_append.1 hy with hy|hy
  ·exact⟨I.nso y hy,I.net y hy⟩
  ·simp at hy;exact hy ▸ ⟨hx,hn⟩
 ·exact I
theorem vP(I:Inv (vw w))(i:Int):Inv (vw (fY w i)):=by
 unfold fY
 rw[Cl]
 exact I.nets fun y hy=>⟨I.nso y (List.mem_of_mem_eraseIdx hy),I.net y (List.mem_of_mem_eraseIdx hy)⟩
theorem AA(ho:WOk w){x:Word}(hx:x∈aV w.dk):WdOk x/\NetOk (vw w) x:=by
 obtain⟨h1,h2,_,_,h5,n,h6,h7,h8⟩:=ep ho.dk hx
 have hk:=h1.k.1
 have hs:(vw w).sF x.t=x.k:=h5
 have hl:=cf (l:=ak w.dk true) (t:=x.t) (by omega)
 have hm:=(tripOk_iff.1 ((ho.dk.trOk true).ok _ (eT hl))).1
 have hw:(vw w).want x.t x.h=n:=by
  unfold V.want mAt
  show ((tAt (ak w.dk true) x.t).m[(x.h-1).toNat]?).getD 0=n
  rw[h6];rfl
 have hn:=fM hm (List.mem_of_getElem? h6)
 refine⟨h1,by omega,by omega,fun e=>?_,fun e=>.inl (by omega),fun e=>.inl (by omega),fun e=>by omega,fun e=>by omega,fun e=>by omega⟩
 rw[hw]
 unfold gl at h8
 split at h8
 ·cases h8
 ·have h9:=congrArg Word.m (List.mem_singleton.1 h8)
  simp only[e,if_true]at h9
  exact h9
theorem lM(ho:WOk w)(I:Inv (vw w)){x:Word}(hx:WdOk x)(hn:NetOk (vw w) x):Inv (vw (bo w x).1)/\∀ y,(bo w x).2=some y->WdOk y/\NetOk (vw (bo w x).1) y:=by
 have hok:=ho.hear hx
 unfold bo at hok ⊢
 split
 ·exact⟨Bu ho I hn,by simp⟩
 ·rename_i hk
  rw[if_neg hk]at hok
  have:=Bz ho I hx hn
  exact⟨this.1,fun y hy=>⟨(hok.2 y hy).1,this.2 y hy⟩⟩
theorem CR(ho:WOk w)(I:Inv (vw w))(e:Ev):Inv (vw (jA w e)):=by
 unfold jA
 split
 ·exact I
 ·rename_i x hx
  have hx:x∈w.ns:=by
   split at hx
   ·exact List.mem_of_getElem? hx
   ·cases hx
  have hx1:=I.nso x hx
  have hx2:=I.net x hx
  split
  ·exact vP I _
  ·split
   ·exact th I hx1 hx2
   ·have k:=lM (ho.take e.a) (vP I e.a) hx1 (NetOk.ns (w:=w) hx2)
    cases hy:(bo (fY w e.a) x).2 with
    | none=>exact k.1
    | some y=>exact th k.1 (k.2 y hy).1 (k.2 y hy).2
theorem BA(ho:WOk w)(I:Inv (vw w))(e:Ev):Inv (vw (ia w e)):=by
 unfold ia
 split
 ·exact Bt ho I _
 ·split
  ·exact CQ ho I _
  ·split
   ·split
    ·rename_i x hx
     split at hx
     ·have:=AA ho (List.mem_of_getElem? hx)
      exact th I this.1 this.2
     ·cases hx
    ·exact I
   ·exact I
theorem yq(ho:WOk w)(I:Inv (vw w))(i:Int):Inv (vw (cH w i)):=by
 unfold cH
 split
 ·exact yo ho I
 ·split
  ·rename_i h;exact yp ho I (in_iff.1 h)
  ·exact I
theorem BB(ho:WOk w)(I:Inv (vw w))(e:Ev):Inv (vw (cw w e)):=by
 unfold cw
 split
 case isFalse=>exact I
 rename_i ha
 have ha:=in_iff.1 ha
 split
 ·exact yq ho I _
 ·split
  ·split
   ·exact Bv ho I _
   ·exact Bx ho I ⟨by omega,by omega⟩ _
  ·split
   ·split
    ·exact Bw I
    ·exact By ho I ⟨by omega,by omega⟩
   ·exact I
theorem tj(ho:WOk w)(I:Inv (vw w))(e:Ev):Inv (vw (wdo w e)):=by
 unfold wdo
 split
 ·exact BA ho I e
 ·split
  ·exact CR ho I e
  ·split
   ·exact BB ho I e
   ·exact I
theorem yr(ho:WOk w)(I:Inv (vw w))(es:List Ev):Inv (vw (cK w es)):=by
 induction es generalizing w with
 | nil=>exact I
 | cons e es ih=>exact ih (ho.do_ e) (tj ho I e)
theorem vQ(w:Wd)(ns:List Word)(x:Word):bo {w with ns:=ns} x=({(bo w x).1 with ns:=ns},(bo w x).2):=by unfold bo;split<;>rfl
theorem iV(w:Wd)(x:Word):(bo w x).1.ns=w.ns:=by unfold bo;split<;>rfl
theorem BC(w:Wd)(ns:List Word)(x:Word):bq {w with ns:=ns} x={bq w x with ns:=ns}:=by
 unfold bq
 rw[vQ]
 dsimp only
 split
 ·rw[vQ]
 ·rfl
theorem sU(w:Wd)(x:Word):(bq w x).ns=w.ns:=by
 unfold bq
 split
 ·rw[iV,iV]
 ·exact iV w x
theorem nT(ho:WOk w)(I:Inv (vw w)){x:Word}(hx:WdOk x)(hn:NetOk (vw w) x):Inv (vw (bq w x)):=by
 have k:=lM ho I hx hn
 have h:=ho.hear hx
 unfold bq
 split
 ·rename_i y hy
  exact(lM h.1 k.1 (h.2 y hy).1 (k.2 y hy).2).1
 ·exact k.1
theorem FK{d:Desk}(h:DkOk d)(x:Word):ak (dhear d x) true=ak d true:=by
 unfold dhear
 split
 case isFalse=>rfl
 rename_i hc
 have hd1:=h.tell hc
 simp only[c7,Bool.and_eq_true,decide_eq_true_eq,wordOk_iff]at hc
 have e:ak (ce d x) true=ak d true:=by unfold ak;rw[(fT d x).2]
 unfold dd
 split
 ·rename_i hk
  have hr:=lL hc.2.1.t hk
  by_cases c:(ce d x).up=true/\cG (ak (ce d x) false) ⟨gw (ce d x) x.t,x.t,[]⟩=true
  ·rw[(i9 hd1 hr c).2.1,e]
  ·rw[jn c,e]
 ·exact e
theorem FL{h:House}(ho:HsOk h){x:Word}(hx:WdOk x):am (hhear h x).1 true=am h true:=by
 unfold hhear
 split
 ·rfl
 ·split
  ·rename_i hm;exact(kX ho (cW hx) hm).1
  ·split<;>rfl
theorem tk(ho:WOk w){x:Word}(hx:WdOk x):(vw (bo w x).1).F=(vw w).F/\∀ h t,isH h->(vw (bo w x).1).hF h t=(vw w).hF h t:=by
 unfold bo
 split
 ·exact⟨FK ho.dk x,fun _ _ _=>rfl⟩
 ·refine⟨rfl,fun h t hh=>?_⟩
  rw[(dD ho hx.h _ hh).1]
  split
  ·rename_i e;subst e
   rw[FL (ho.houseAt hx.h).2.1 hx];rfl
  ·rfl
theorem CS(ho:WOk w){x:Word}(hx:WdOk x):(vw (bq w x)).F=(vw w).F/\∀ h t,isH h->(vw (bq w x)).hF h t=(vw w).hF h t:=by
 have h1:=tk ho hx
 have h:=ho.hear hx
 unfold bq
 split
 ·rename_i y hy
  have h2:=tk h.1 (h.2 y hy).1
  exact⟨h2.1.trans h1.1,fun a t ha=>(h2.2 a t ha).trans (h1.2 a t ha)⟩
 ·exact h1
theorem j8:∀ {xs:List Word} {w:Wd},WOk w->Inv (vw w)->(∀ x∈xs,WdOk x/\NetOk (vw w) x)->Inv (vw (cI w xs))
 | [],_,_,I,_=>I
 | x::xs,w,ho,I,hx=>by
  have h0:=hx x (by simp)
  have hF:=CS ho h0.1
  refine j8 (xs:=xs) (ho.hear2 h0.1) (nT ho I h0.1 h0.2) fun y hy=>?_
  have h1:=hx y (by simp[hy])
  exact⟨h1.1,NetOk.congr (v:=vw w) (by rw[hF.1]) (hF.2 _ _ h1.1.h) h1.2⟩
theorem ga(w:Wd)(d:Desk)(ns:List Word)(f:House->House){i:Int}(ho:WOk w)(hi:isH i):houseAt ⟨d,w.hs.map f,ns⟩ i=f (houseAt w i):=by
 have hl:(i-1).toNat<w.hs.length:=by rw[ho.len];have:=hi.1;have:=hi.2;omega
 unfold houseAt
 simp only[List.getElem?_map,List.getElem?_eq_getElem hl,Option.map_some,Option.getD_some]
theorem rL(ho:WOk w)(I:Inv (vw w)):Inv (vw (c9 w)):=by
 have e:∀ h,isH h->houseAt (c9 w) h=fj (houseAt w h):=fun h hh=>ga w _ _ _ ho hh
 have eF:∀ h t,isH h->(vw (c9 w)).hF h t=(vw w).hF h t:=fun h t hh=>by show hAt (am (houseAt (c9 w) h) true).hs t=_;rw[e h hh];rfl
 have eA:∀ h t,isH h->(vw (c9 w)).hA h t=(vw w).hA h t:=fun h t hh=>by show hAt (am (houseAt (c9 w) h) false).hs t=_;rw[e h hh];rfl
 exact I.hwrite rfl rfl rfl rfl (fun h t hh _=>eF h t hh) (fun h t hh ht=>by rw[eA h t hh];exact I.hle h t hh ht) (fun h t hh ht=>by rw[eA h t hh];exact I.okA h t hh ht)
  (fun h t hh ht hs=>by rw[eA h t hh]at hs;exact HoldFit.congr (v:=vw w) rfl (eA h t hh) (I.hold h t hh ht hs))
theorem vl(ho:WOk w)(I:Inv (vw w)):Inv (vw (aY w)):=by
 have e:∀ h,isH h->houseAt (aY w) h=bY (houseAt w h):=fun h hh=>ga w _ _ _ ho hh
 have eA:∀ h t,isH h->(vw (aY w)).hA h t=(vw w).hA h t:=fun h t hh=>by
  show hAt (am (houseAt (aY w) h) false).hs t=_
  rw[e h hh,hs_force.2];rfl
 have eF:∀ h t,isH h->(vw (aY w)).hF h t=(vw w).hF h t\/(vw (aY w)).hF h t=(vw w).hA h t:=fun h t hh=>by
  show hAt (am (houseAt (aY w) h) true).hs t=_\/hAt (am (houseAt (aY w) h) true).hs t=_
  rw[e h hh]
  by_cases hu:(houseAt w h).up=true
  ·rw[hs_force.1 hu];exact .inr rfl
  ·have:bY (houseAt w h)=houseAt w h:=by unfold bY;rw[if_neg hu]
   rw[this];exact .inl rfl
 have dF:ak (bv w.dk) true=ak w.dk true\/ak (bv w.dk) true=ak w.dk false:=by
  by_cases hu:w.dk.up=true
  ·exact .inr (dk_force.1 hu)
  ·have:bv w.dk=w.dk:=by unfold bv;rw[if_neg hu]
   rw[this];exact .inl rfl
 have etd:(bv w.dk).td=w.dk.td:=by unfold bv;split<;>rfl
 refine I.fwd (v':=vw (aY w)) ⟨?_,fun h t hh ht=>?_⟩ dk_force.2 etd rfl (fun h t hh _=>eA h t hh) ?_ (fun h t hh ht=>?_) (fun h t hh ht=>?_)
 ·show tpre (ak w.dk true) (ak (bv w.dk) true)
  rcases dF with e|e<;>rw[e]
  ·exact tpre.rfl' _
  ·exact uF ho.dk
 ·rcases eF h t hh with e|e<;>rw[e]
  ·exact hle.rfl' _
  ·exact I.hle h t hh ht
 ·show tpre (ak (bv w.dk) true) (ak w.dk false)
  rcases dF with e|e<;>rw[e]
  ·exact uF ho.dk
  ·exact tpre.rfl' _
 ·rcases eF h t hh with e|e<;>rw[e]
  ·exact I.hle h t hh ht
  ·exact hle.rfl' _
 ·rcases eF h t hh with e|e<;>rw[e]
  ·exact I.okF h t hh ht
  ·exact I.okA h t hh ht
theorem pu(ho:WOk w):WOk (c9 w):=ho.map ho.dk.rise fun _ hx=>⟨hx.rise,rfl⟩
theorem iW(ho:WOk w)(I:Inv (vw w)):∀ x∈w.ns++aV (ej w.dk),WdOk x/\NetOk (vw {c9 w with ns:=[]}) x:=by
 intro x hx
 rcases List.mem_append.1 hx with hx|hx
 ·exact⟨I.nso x hx,NetOk.ns (w:=c9 w) ((rL ho I).net x hx)⟩
 ·have:=AA (pu ho) (x:=x) hx
  exact⟨this.1,NetOk.ns (w:=c9 w) this.2⟩
theorem FM{rooms:List Int}{w:Wd}(h:aT rooms=some w):Inv (vw w):=by
 have ho:=bN h
 unfold aT at h
 split at h
 case isFalse=>cases h
 rename_i hc
 simp only[Option.some.injEq]at h
 have e0:∀ i,isH i->(houseAt w i).lg=⟨[],0⟩:=fun i hi=>by
  obtain⟨e,_,_⟩:=ho.houseAt hi
  have hh:w.hs=cJ rooms:=by rw[<-h]
  rw[hh]at e
  simp only[cJ,List.getElem?_map,Option.map_eq_some_iff]at e
  obtain⟨p,_,e⟩:=e
  rw[<-e]
 have hz:∀ i t b,isH i->isT t->hAt (am (houseAt w i) b).hs t=⟨0,0⟩:=fun i t b hi ht=>by
  have hs:=(ho.houseAt hi).2.1.stock b
  have:aW (houseAt w i).lg b=[]:=by rw[e0 i hi];cases b<;>rfl
  rw[this]at hs
  have:=(stockOf_some.1 hs).2
  simp only[b9,Option.some.injEq]at this
  rw[<-this]
  unfold hAt cq
  simp only[List.getElem?_replicate]
  split<;>rfl
 have dt:∀ b,ak w.dk b=[]:=fun b=>by rw[<-h];cases b<;>rfl
 have dtd:w.dk.td=[]:=by rw[<-h];rfl
 have dns:w.ns=[]:=by rw[<-h]
 have t0:∀ t,(tAt ([]:List Trip) t).s=0:=fun t=>by simp[tAt]
 have sA:∀ t,(vw w).sA t=0:=fun t=>by unfold V.sA;show (tAt (ak w.dk false) t).s=0;rw[dt];exact t0 t
 refine⟨⟨uF ho.dk,ho.dk.trOk false,fun i t hi ht=>FH (ho.houseAt hi).2.1 ht.1,fun i t hi ht=>qg (ho.houseAt hi).2.1 false ht,fun i t hi ht=>qg (ho.houseAt hi).2.1 true ht,?_,?_,?_,?_,fun i t hi ht hs=>?_⟩,fun t ht=>?_⟩
 ·intro x hx;rw[show (vw w).td=[] from dtd]at hx;cases hx
 ·intro x hx;rw[show (vw w).ns=[] from dns]at hx;cases hx
 ·intro x hx;rw[show (vw w).ns=[] from dns]at hx;cases hx
 ·intro x hx;rw[show (vw w).td=[] from dtd]at hx;cases hx
 ·have:=hz i t false hi ht
  rw[show (vw w).hA i t=⟨0,0⟩ from this]at hs
  exact absurd rfl hs
 ·exact⟨fun h=>by rw[sA]at h;omega,fun h=>by rw[sA]at h;omega,fun h=>by rw[sA]at h;omega,fun h=>by rw[sA]at h;omega,fun h=>by rw[sA]at h;omega,fun h=>by rw[sA]at h;omega⟩
theorem gG{rooms:List Int}{es:List Ev}(h:bM rooms es=some w):WOk w/\Inv (vw w):=by
 unfold bM at h
 split at h
 ·cases h
 ·simp only[Option.map_eq_some_iff]at h
  obtain⟨w0,h1,rfl⟩:=h
  exact⟨(bN h1).plays es,yr (bN h1) (FM h1) es⟩
end Dx
namespace Dx
theorem kB:∀ {rs:List Rec} {l l':List Trip},cj rs l=some l'->(∀ r∈rs,r.k=4\/r.k=6)->(∀ t∈l,t.s=1\/t.s=3)->∀ t∈l',t.s=1\/t.s=3
 | [],l,l',h,_,hl=>by simp only[cj,Option.some.injEq]at h;subst h;exact hl
 | r::rs,l,l',h,hr,hl=>by
  simp only[cj]at h
  split at h
  case isFalse=>cases h
  rename_i hc
  refine kB h (fun x hx=>hr x (by simp[hx])) fun t ht=>?_
  unfold cQ at ht
  rcases hr r (by simp)with e|e
  ·rw[if_pos e]at ht
   rcases List.mem_append.1 ht with ht|ht
   ·exact hl t ht
   ·simp at ht;subst ht;exact .inl rfl
  ·rw[if_neg (by omega),if_neg (by omega),if_pos e]at ht
   rcases List.mem_or_eq_of_mem_set ht with ht|ht
   ·exact hl t ht
   ·subst ht;exact .inr rfl
structure Quiet (w:Wd):Prop where
 ns:w.ns=[]
 hs:∀ h∈w.hs,h.lg.rs=[]
 rs:∀ r∈w.dk.lg.rs,r.k=4\/r.k=6
 td:w.dk.td=[]
theorem Quiet.set{w:Wd}(q:Quiet w){i:Int}{h:House}(hh:h.lg.rs=[]):Quiet (setHouse w i h) :=
 ⟨q.ns,fun x hx=>by
  rcases List.mem_or_eq_of_mem_set hx with hx|hx
  ·exact q.hs x hx
  ·exact hx ▸ hh,q.rs,q.td⟩
theorem Quiet.at{w:Wd}(q:Quiet w)(i:Int):(houseAt w i).lg.rs=[]:=by
 unfold houseAt
 cases e:w.hs[(i-1).toNat]? with
 | none=>rfl
 | some h=>exact q.hs h (List.mem_of_getElem? e)
theorem Quiet.write{w:Wd}(q:Quiet w){r:Rec}(hr:r.k=4\/r.k=6):Quiet {w with dk:=bh w.dk r}:=by
 refine⟨q.ns,q.hs,fun x hx=>?_,by rw[show ({w with dk:=bh w.dk r}:Wd).dk=bh w.dk r from rfl,(fx _ _).1];exact q.td⟩
 have hx:x∈(bh w.dk r).lg.rs:=hx
 unfold bh at hx
 split at hx
 ·unfold dJ at hx
  split at hx
  ·exact q.rs x hx
  ·rcases List.mem_append.1 hx with hx|hx
   ·exact q.rs x hx
   ·simp at hx;exact hx ▸ hr
 ·exact q.rs x hx
theorem Quiet.do_{w:Wd}(q:Quiet w){e:Ev}(he:e.k≠3):Quiet (wdo w e):=by
 unfold wdo
 split
 ·unfold ia
  split
  ·unfold fw;split
   ·exact q.write (.inl rfl)
   ·exact q
  ·split
   ·unfold hU;split
    ·exact q.write (.inr rfl)
    ·exact q
   ·exact q
 ·split
  ·unfold jA
   rw[q.ns]
   simp only[List.getElem?_nil,ite_self]
   exact q
  ·split
   ·unfold cw
    split
    case isFalse=>exact q
    split
    ·unfold cH
     split
     ·refine⟨q.ns,q.hs,?_,?_⟩
      ·have:(bv w.dk).lg.rs=w.dk.lg.rs:=by unfold bv;split<;>rfl
       intro r hr;exact q.rs r (this ▸ hr)
      ·have:(bv w.dk).td=w.dk.td:=by unfold bv;split<;>rfl
       exact this.trans q.td
     ·split
      ·refine q.set ?_
       have:(bY (houseAt w e.a)).lg.rs=(houseAt w e.a).lg.rs:=by unfold bY;split<;>rfl
       rw[this];exact q.at _
      ·exact q
    ·split
     ·split
      ·exact⟨q.ns,q.hs,fun r hr=>q.rs r (List.mem_of_mem_take hr),rfl⟩
      ·refine q.set ?_
       show (fL (houseAt w e.a).lg e.b).rs=[]
       unfold fL
       rw[q.at];simp
     ·split
      ·split
       ·exact⟨q.ns,q.hs,q.rs,q.td⟩
       ·exact q.set (q.at _)
      ·exact q
   ·exact q
theorem Quiet.plays{w:Wd}(q:Quiet w):∀ {es:List Ev},(∀ e∈es,e.k≠3)->Quiet (cK w es)
 | [],_=>q
 | e::es,h=>(q.do_ (h e (by simp))).plays (fun x hx=>h x (by simp[hx]))
theorem Quiet.new{rooms:List Int}{w:Wd}(h:aT rooms=some w):Quiet w:=by
 unfold aT at h
 split at h
 case isFalse=>cases h
 simp only[Option.some.injEq]at h;subst h
 refine⟨rfl,fun x hx=>?_,by simp[deskNew],rfl⟩
 simp only[cJ,List.mem_map]at hx
 obtain⟨p,_,rfl⟩:=hx
 rfl
theorem Quiet.trips{w:Wd}(q:Quiet w)(ho:WOk w):∀ t∈ak w.dk false,t.s=1\/t.s=3 :=
 kB ho.dk.tr q.rs (by simp)
structure Loose (w:Wd):Prop where
 ns:w.ns=[]
 hs:∀ h∈w.hs,h.lg.rs=[]
 f:w.dk.lg.f=0
theorem Loose.words{w:Wd}(q:Loose w):aV w.dk=[]:=by
 unfold aV ak ai aW
 simp[q.f,bj,cj,c8]
theorem Loose.set{w:Wd}(q:Loose w){i:Int}{h:House}(hh:h.lg.rs=[]):Loose (setHouse w i h) :=
 ⟨q.ns,fun x hx=>by
  rcases List.mem_or_eq_of_mem_set hx with hx|hx
  ·exact q.hs x hx
  ·exact hx ▸ hh,q.f⟩
theorem Loose.at{w:Wd}(q:Loose w)(i:Int):(houseAt w i).lg.rs=[]:=by
 unfold houseAt
 cases e:w.hs[(i-1).toNat]? with
 | none=>rfl
 | some h=>exact q.hs h (List.mem_of_getElem? e)
theorem Loose.write{w:Wd}(q:Loose w)(r:Rec):Loose {w with dk:=bh w.dk r} :=
 ⟨q.ns,q.hs,(fx _ _).2.2.trans q.f⟩
theorem Loose.do_{w:Wd}(q:Loose w){e:Ev}(h7:e.k≠7)(h8:e.k≠8):Loose (wdo w e):=by
 unfold wdo
 split
 ·unfold ia
  split
  ·unfold fw;split
   ·exact q.write _
   ·exact q
  ·split
   ·unfold hU;split
    ·exact q.write _
    ·exact q
   ·split
    ·rw[q.words]
     simp only[List.getElem?_nil,ite_self]
     exact q
    ·exact q
 ·split
  ·unfold jA
   rw[q.ns]
   simp only[List.getElem?_nil,ite_self]
   exact q
  ·split
   ·unfold cw
    split
    case isFalse=>exact q
    split
    ·split
     ·exact⟨q.ns,q.hs,q.f⟩
     ·exact q.set (q.at _)
    ·exact q
   ·exact q
theorem Loose.plays{w:Wd}(q:Loose w):∀ {es:List Ev},(∀ e∈es,e.k≠7/\e.k≠8)->Loose (cK w es)
 | [],_=>q
 | e::es,h=>(q.do_ (h e (by simp)).1 (h e (by simp)).2).plays (fun x hx=>h x (by simp[hx]))
theorem Loose.new{rooms:List Int}{w:Wd}(h:aT rooms=some w):Loose w:=by
 have q:=Quiet.new h
 unfold aT at h
 split at h
 case isFalse=>cases h
 simp only[Option.some.injEq]at h;subst h
 exact⟨rfl,q.hs,rfl⟩
theorem Loose.trips{w:Wd}(q:Loose w):ak w.dk true=[]:=by
 unfold ak ai aW
 simp[q.f,bj,cj]
end Dx
namespace Dx
variable {w:Wd}
theorem Fwd.rfl'(v:V):Fwd v v:=⟨tpre.rfl' _,fun _ _ _ _=>hle.rfl' _⟩
theorem Fwd.trans{a b c:V}(h1:Fwd a b)(h2:Fwd b c):Fwd a c:=⟨h1.F.trans h2.F,fun h t hh ht=>(h1.h h t hh ht).trans (h2.h h t hh ht)⟩
theorem Fwd.same{a b:V}(hF:b.F=a.F)(hh:∀ h t,isH h->b.hF h t=a.hF h t):Fwd a b:=⟨by rw[hF];exact tpre.rfl' _,fun h t hi _=>by rw[hh h t hi];exact hle.rfl' _⟩
def bR(w:Wd):List Int:=w.hs.map (·.room)
theorem jo{i:Int}{x:House}(hx:x.room=(houseAt w i).room):bR (setHouse w i x)=bR w:=by
 unfold bR setHouse
 rw[List.map_set,hx]
 unfold houseAt
 by_cases h:(i-1).toNat<w.hs.length
 ·rw[List.getElem?_eq_getElem h]
  simp only[Option.getD_some]
  rw[<-List.getElem_map (f:=fun x:House=>x.room) (h:=by simpa using h),List.set_getElem_self]
 ·rw[List.set_eq_of_length_le (by simp;omega)]
theorem lN(x:Word):bR (kx w x)=bR w:=by unfold kx;split<;>rfl
theorem nU(x:Word):bR (bo w x).1=bR w:=by
 unfold bo
 split
 ·rfl
 ·exact jo (pq _ _).2.2
theorem CT(e:Ev):bR (wdo w e)=bR w:=by
 unfold wdo
 split
 ·unfold ia
  split
  ·rfl
  ·split
   ·rfl
   ·split
    ·split
     ·exact lN _
     ·rfl
    ·rfl
 ·split
  ·unfold jA
   split
   ·rfl
   ·split
    ·rfl
    ·split
     ·exact lN _
     ·rename_i x _ _ _
      have k:bR (bo (fY w e.a) x).1=bR w:=nU x
      cases (bo (fY w e.a) x).2 with
      | none=>exact k
      | some y=>exact(lN y).trans k
  ·split
   ·unfold cw
    split
    case isFalse=>rfl
    split
    ·unfold cH
     split
     ·rfl
     ·split
      ·exact jo (fy _).2.1
      ·rfl
    ·split
     ·split
      ·rfl
      ·exact jo rfl
     ·split
      ·split
       ·rfl
       ·exact jo rfl
      ·rfl
   ·rfl
theorem vm(es:List Ev):bR (cK w es)=bR w:=by
 induction es generalizing w with
 | nil=>rfl
 | cons e es ih=>exact(ih (w:=wdo w e)).trans (CT e)
theorem BD{rooms:List Int}(h:aT rooms=some w):bR w=rooms:=by
 unfold aT at h
 split at h
 case isFalse=>cases h
 simp only[Option.some.injEq]at h;subst h
 unfold bR cJ
 rw[List.map_map]
 show List.map (fun p=>p.1) (rooms.zipIdx 1)=rooms
 simp
theorem yt{rooms:List Int}{es:List Ev}(h:bM rooms es=some w):bR w=rooms:=by
 unfold bM at h
 split at h
 ·cases h
 simp only[Option.map_eq_some_iff]at h
 obtain⟨w0,h1,rfl⟩:=h
 exact(vm es).trans (BD h1)
end Dx
namespace Dx
variable {w:Wd}
structure AllUp (w:Wd):Prop where
 dk:w.dk.up=true
 hs:∀ h∈w.hs,h.up=true
theorem AllUp.at(u:AllUp w)(ho:WOk w){i:Int}(hi:isH i):(houseAt w i).up=true:=u.hs _ (List.mem_of_getElem? (ho.houseAt hi).1)
structure Hrd (a b:Wd):Prop where
 td:∀ z∈a.dk.td,z∈b.dk.td
 h:∀ h t,isH h->isT t->hle ((vw a).hA h t) ((vw b).hA h t)
 A:tpre (vw a).A (vw b).A
 len:(vw b).A.length=(vw a).A.length
 F:(vw b).F=(vw a).F
 hF:∀ h t,isH h->(vw b).hF h t=(vw a).hF h t
 up:AllUp a->AllUp b
 rooms:bR b=bR a
theorem Hrd.rfl'(a:Wd):Hrd a a:=⟨fun _ h=>h,fun _ _ _ _=>hle.rfl' _,tpre.rfl' _,rfl,rfl,fun _ _ _=>rfl,id,rfl⟩
theorem Hrd.trans{a b c:Wd}(h1:Hrd a b)(h2:Hrd b c):Hrd a c :=
 ⟨fun z h=>h2.td z (h1.td z h),fun h t hh ht=>(h1.h h t hh ht).trans (h2.h h t hh ht),h1.A.trans h2.A,h2.len.trans h1.len,h2.F.trans h1.F,fun h t hh=>(h2.hF h t hh).trans (h1.hF h t hh),fun u=>h2.up (h1.up u),h2.rooms.trans h1.rooms⟩
theorem BE{d:Desk}{x z:Word}(h:z∈d.td):z∈(ce d x).td:=by
 unfold ce;split
 ·exact h
 ·simp[h]
theorem yu(d:Desk)(x:Word):x∈(ce d x).td:=by
 unfold ce;split
 ·rename_i h;simpa using h
 ·simp
theorem nV(d:Desk)(t:Int):(dd d t).td=d.td:=by
 unfold dd;split
 ·exact(fx _ _).1
 ·rfl
theorem CU{d:Desk}{x z:Word}(h:z∈d.td):z∈(dhear d x).td:=by
 unfold dhear;split
 ·rw[nV];exact BE h
 ·exact h
theorem yv{d:Desk}{x:Word}(h:c7 d x=true):x∈(dhear d x).td:=by
 unfold dhear;rw[if_pos h,nV];exact yu d x
theorem BF(d:Desk)(t:Int):gw d t≠4:=by
 unfold gw
 dsimp only
 split
 ·decide
 ·split
  ·decide
  ·split
   ·decide
   ·split<;>decide
theorem FN{d:Desk}(h:DkOk d)(x:Word):tpre (ak d false) (ak (dhear d x) false)/\(ak (dhear d x) false).length=(ak d false).length:=by
 unfold dhear
 split
 case isFalse=>exact⟨tpre.rfl' _,rfl⟩
 rename_i hc
 have hd1:=h.tell hc
 simp only[c7,Bool.and_eq_true,decide_eq_true_eq,wordOk_iff]at hc
 have e:ak (ce d x) false=ak d false:=by unfold ak;rw[(fT d x).2]
 unfold dd
 split
 ·rename_i hk
  have hr:=lL hc.2.1.t hk
  by_cases c:(ce d x).up=true/\cG (ak (ce d x) false) ⟨gw (ce d x) x.t,x.t,[]⟩=true
  ·have c2:=c.2
   rw[(i9 hd1 hr c).2.2,e]
   rw[e]at c2
   refine⟨vO hr c2,?_⟩
   rw[eU,if_neg (BF _ _)]
  ·rw[jn c,e];exact⟨tpre.rfl' _,rfl⟩
 ·rw[e];exact⟨tpre.rfl' _,rfl⟩
theorem BG{h:House}(ho:HsOk h){x:Word}(hx:WdOk x){t:Int}(ht:1<=t):hle (hAt (am h false).hs t) (hAt (am (hhear h x).1 false).hs t):=by
 unfold hhear
 split
 ·exact hle.rfl' _
 ·split
  ·rename_i hm
   rw[(kX ho (cW hx) hm).2]
   exact te (ho.stOk false).len (cW hx) hm ht
  ·split<;>exact hle.rfl' _
theorem jp{y:Word}(h:y.k>=4):(bo w y).1={w with dk:=dhear w.dk y}:=by unfold bo;rw[if_pos h]
theorem lO{x:Word}(h:¬ x.k>=4):bo w x=(setHouse w x.h (hhear (houseAt w x.h) x).1,(hhear (houseAt w x.h) x).2):=by unfold bo;rw[if_neg h]
theorem vR(ho:WOk w){x:Word}(hx:WdOk x):Hrd w (bo w x).1:=by
 have hF:=tk ho hx
 have hr:=nU (w:=w) x
 by_cases hk:x.k>=4
 ·rw[jp hk]at hF hr ⊢
  have a:=FN ho.dk x
  exact⟨fun z hz=>CU hz,fun _ _ _ _=>hle.rfl' _,a.1,a.2,hF.1,hF.2,fun u=>⟨(ho.dk.hear x).2.1.trans u.dk,u.hs⟩,hr⟩
 ·rw[lO hk]at hF hr ⊢
  have hi:isH x.h:=hx.h
  have hho:=(ho.houseAt hi).2.1
  refine⟨fun z hz=>hz,fun h t hh ht=>?_,tpre.rfl' _,rfl,hF.1,hF.2,fun u=>⟨u.dk,fun y hy=>?_⟩,hr⟩
  ·rw[(dD ho hi _ hh).2];split
   ·rename_i e;subst e;exact BG hho hx ht.1
   ·exact hle.rfl' _
  ·rcases List.mem_or_eq_of_mem_set hy with hy|hy
   ·exact u.hs y hy
   ·rw[hy,(pq _ _).2.1];exact u.at ho hi
theorem rM(ho:WOk w){x:Word}(hx:WdOk x):Hrd w (bq w x):=by
 have h:=ho.hear hx
 have h1:=vR ho hx
 unfold bq
 split
 ·rename_i y hy;exact h1.trans (vR h.1 (h.2 y hy).1)
 ·exact h1
theorem jq:∀ {xs:List Word} {w:Wd},WOk w->(∀ x∈xs,WdOk x)->Hrd w (cI w xs)
 | [],w,_,_=>Hrd.rfl' w
 | x::xs,w,ho,hx=>(rM ho (hx x (by simp))).trans (jq (xs:=xs) (ho.hear2 (hx x (by simp))) (fun y hy=>hx y (by simp[hy])))
theorem nW:∀ {xs:List Word} {w:Wd} {x:Word},WOk w->Inv (vw w)->AllUp w->(∀ x∈xs,WdOk x/\NetOk (vw w) x)->x∈xs ->
  ∃ m,WOk m/\Inv (vw m)/\AllUp m/\WdOk x/\NetOk (vw m) x/\Hrd w m/\Hrd (bq m x) (cI w xs)
 | [],_,_,_,_,_,_,hm=>by cases hm
 | y::ys,w,x,ho,I,u,hx,hm=>by
  have hy:=hx y (by simp)
  have h1:=rM ho hy.1
  have ho1:=ho.hear2 hy.1
  rcases List.mem_cons.1 hm with e|hm'
  ·subst e
   exact⟨w,ho,I,u,hy.1,hy.2,Hrd.rfl' w,jq (xs:=ys) ho1 (fun z hz=>(hx z (by simp[hz])).1)⟩
  ·have hn:∀ z∈ys,WdOk z/\NetOk (vw (bq w y)) z:=fun z hz=>by
    have h2:=hx z (by simp[hz])
    exact⟨h2.1,NetOk.congr (v:=vw w) (by rw[h1.F]) (h1.hF _ _ h2.1.h) h2.2⟩
   obtain⟨m,a1,a2,a3,a4,a5,a6,a7⟩:=nW (xs:=ys) ho1 (nT ho I hy.1 hy.2) (h1.up u) hn hm'
   exact⟨m,a1,a2,a3,a4,a5,h1.trans a6,a7⟩
theorem ic(ho:WOk w)(I:Inv (vw w))(u:AllUp w){x y:Word}(hx:WdOk x)(hk:x.k<=3)(hn:NetOk (vw w) x)(hy:(bo w x).2=some y)(ht:y.t=x.t):y∈(bq w x).dk.td:=by
 have h2:=(ho.hear hx).2 y hy
 have ed:(bo w x).1.dk=w.dk:=by rw[lO (by omega)];rfl
 unfold bq
 rw[hy]
 dsimp only
 rw[jp h2.2]
 show y∈(dhear (bo w x).1.dk y).td
 rw[ed]
 refine yv ?_
 have hl:=cf hn.s
 have hp:=I.pre.len
 have hx1:=hx.t.1
 have hlen:y.t<=((ak w.dk false).length:Int):=by
  show y.t<=((vw w).A.length:Int)
  omega
 simp[c7,u.dk,wordOk_iff.2 h2.1,h2.2,hlen]
theorem BH(ho:WOk w){x:Word}(hx:WdOk x)(h t:Int):(vw (bq w x)).hA h t=(vw (bo w x).1).hA h t:=by
 have h:=ho.hear hx
 unfold bq
 split
 ·rename_i y hy;rw[jp (h.2 y hy).2];rfl
 ·rfl
theorem j9(ho:WOk w)(u:AllUp w){x:Word}(hx:WdOk x)(hk:x.k<=3) :
  (may (am (houseAt w x.h) false) (bI x)=true/\(vw (bq w x)).hA x.h x.t=i7 ((vw w).hA x.h x.t) (bI x)) ∨
  (may (am (houseAt w x.h) false) (bI x)=false/\(vw (bq w x)).hA x.h x.t=(vw w).hA x.h x.t ∧
   (bo w x).2=if x.k=1/\((vw w).hA x.h x.t).s=0 then some ⟨5,x.h,x.t,0⟩ else answer x.h x ((vw w).hF x.h x.t).s):=by
 have hi:isH x.h:=hx.h
 obtain⟨_,hho,hid⟩:=ho.houseAt hi
 have same:setHouse w x.h (houseAt w x.h)=w:=by
  obtain⟨e,_,_⟩:=ho.houseAt hi
  have hl:=(List.getElem?_eq_some_iff.1 e).1
  have he:=(List.getElem?_eq_some_iff.1 e).2
  unfold setHouse
  rw[<-he,List.set_getElem_self]
 have e:=lO (w:=w) (x:=x) (by omega)
 have hu:=u.at ho hi
 have c0:(!(houseAt w x.h).up || !bG x || x.h != (houseAt w x.h).id || decide (x.k>3))=false:=by
  rw[hid,hu,wordOk_iff.2 hx];simp;omega
 rw[BH ho hx]
 by_cases hm:may (am (houseAt w x.h) false) (bI x)=true
 ·left
  refine⟨hm,?_⟩
  have eh:(hhear (houseAt w x.h) x).1={houseAt w x.h with lg:=dJ (houseAt w x.h).lg (bI x)}:=by unfold hhear;rw[c0];simp only[Bool.false_eq_true,if_false];rw[if_pos hm]
  rw[e]
  dsimp only
  rw[(dD ho hi _ hi).2,if_pos rfl,eh,(kX hho (cW hx) hm).2,z0 (hho.stOk false).len (cW hx) hx.t.1,Az,if_pos rfl]
  rfl
 ·right
  refine⟨by simpa using hm,?_⟩
  rw[e]
  dsimp only
  have eh:hhear (houseAt w x.h) x=if x.k=1/\fe (am (houseAt w x.h) false) x.t=0 then(houseAt w x.h,some ⟨5,(houseAt w x.h).id,x.t,0⟩) else(houseAt w x.h,answer (houseAt w x.h).id x (fe (am (houseAt w x.h) true) x.t)):=by
   unfold hhear;rw[c0];simp only[Bool.false_eq_true,if_false];rw[if_neg hm]
  have eh1:(hhear (houseAt w x.h) x).1=houseAt w x.h:=by rw[eh];split<;>rfl
  rw[eh1,same]
  refine⟨rfl,?_⟩
  rw[eh,hid]
  have hst:fe (am (houseAt w x.h) false) x.t=((vw w).hA x.h x.t).s:=rfl
  have hst2:fe (am (houseAt w x.h) true) x.t=((vw w).hF x.h x.t).s:=rfl
  rw[hst,hst2]
  split<;>rfl
theorem qh(x:Word):may (am (houseAt w x.h) false) (bI x)=if x.k=1 then(((vw w).hA x.h x.t).s==0) && decide (x.m<=free (am (houseAt w x.h) false)) else if x.k=2 then((vw w).hA x.h x.t).s==1 else(((vw w).hA x.h x.t).s==1) || (((vw w).hA x.h x.t).s==0):=by
 have hst:fe (am (houseAt w x.h) false) x.t=((vw w).hA x.h x.t).s:=rfl
 unfold bI may
 by_cases h1:x.k=1
 ·simp[h1,hst]
 ·by_cases h2:x.k=2
  ·simp[h2,hst]
  ·simp[h1,h2,hst]
theorem rN(ho:WOk w)(I:Inv (vw w))(u:AllUp w){x:Word}(hx:WdOk x)(hn:NetOk (vw w) x)(hk:x.k=1) :
  (((vw (bq w x)).hA x.h x.t).s≠0\/(⟨5,x.h,x.t,0⟩:Word)∈(bq w x).dk.td)/\(((vw w).hF x.h x.t).s=1->(⟨4,x.h,x.t,0⟩:Word)∈(bq w x).dk.td):=by
 have hh:=I.hle x.h x.t hx.h hx.t
 rcases j9 ho u hx (by omega)with ⟨hm,e⟩|⟨hm,e,ea⟩
 ·rw[qh,if_pos hk]at hm
  simp only[Bool.and_eq_true,beq_iff_eq]at hm
  refine⟨.inl ?_,fun h1=>?_⟩
  ·rw[e];simp[i7,bI,hk]
  ·unfold hle at hh;omega
 ·refine⟨?_,fun h1=>?_⟩
  ·by_cases h0:((vw w).hA x.h x.t).s=0
   ·rw[if_pos ⟨hk,h0⟩]at ea
    exact .inr (ic ho I u hx (by omega) hn ea rfl)
   ·rw[e];exact .inl h0
  ·rw[if_neg (by unfold hle at hh;omega)]at ea
   refine ic ho I u hx (by omega) hn (y:=⟨4,x.h,x.t,0⟩) ?_ rfl
   rw[ea];unfold answer;rw[if_pos ⟨hk,.inl h1⟩]
theorem nX(ho:WOk w)(I:Inv (vw w))(u:AllUp w){x:Word}(hx:WdOk x)(hn:NetOk (vw w) x)(hk:x.k=2) :
  (((vw w).hA x.h x.t).s=1\/((vw w).hA x.h x.t).s=2->((vw (bq w x)).hA x.h x.t).s=2)/\(((vw w).hF x.h x.t).s=2->(⟨6,x.h,x.t,0⟩:Word)∈(bq w x).dk.td):=by
 have hh:=I.hle x.h x.t hx.h hx.t
 rcases j9 ho u hx (by omega)with ⟨hm,e⟩|⟨hm,e,ea⟩
 ·rw[qh,if_neg (by omega),if_pos hk]at hm
  simp only[beq_iff_eq]at hm
  refine⟨fun _=>?_,fun h1=>?_⟩
  ·rw[e];simp[i7,bI,hk]
  ·unfold hle at hh;omega
 ·rw[qh,if_neg (by omega),if_pos hk]at hm
  simp only[beq_eq_false_iff_ne]at hm
  refine⟨fun h1=>by rw[e];omega,fun h1=>?_⟩
  rw[if_neg (by omega)]at ea
  refine ic ho I u hx (by omega) hn (y:=⟨6,x.h,x.t,0⟩) ?_ rfl
  rw[ea];unfold answer;rw[if_neg (by omega),if_neg (by omega),if_pos ⟨hk,h1⟩]
theorem rO(ho:WOk w)(I:Inv (vw w))(u:AllUp w){x:Word}(hx:WdOk x)(hn:NetOk (vw w) x)(hk:x.k=3) :
  (((vw w).hA x.h x.t).s≠2->((vw (bq w x)).hA x.h x.t).s=3)/\(((vw w).hF x.h x.t).s=3->(⟨7,x.h,x.t,0⟩:Word)∈(bq w x).dk.td):=by
 have hh:=I.hle x.h x.t hx.h hx.t
 have hr:=kV (I.okA x.h x.t hx.h hx.t)
 rcases j9 ho u hx (by omega)with ⟨hm,e⟩|⟨hm,e,ea⟩
 ·rw[qh,if_neg (by omega),if_neg (by omega)]at hm
  simp only[Bool.or_eq_true,beq_iff_eq]at hm
  refine⟨fun _=>?_,fun h1=>?_⟩
  ·rw[e];simp[i7,bI,hk]
  ·unfold hle at hh;omega
 ·rw[qh,if_neg (by omega),if_neg (by omega)]at hm
  simp only[Bool.or_eq_false_iff,beq_eq_false_iff_ne]at hm
  refine⟨fun h1=>by rw[e];omega,fun h1=>?_⟩
  rw[if_neg (by omega)]at ea
  refine ic ho I u hx (by omega) hn (y:=⟨7,x.h,x.t,0⟩) ?_ rfl
  rw[ea];unfold answer;rw[if_neg (by omega),if_neg (by omega),if_neg (by omega),if_pos ⟨hk,h1⟩]
structure Cm (w:Wd):Prop where
 ok:WOk w
 I:Inv (vw w)
 up:AllUp w
 ns:w.ns=[]
 df:w.dk.lg.f=w.dk.lg.rs.length
 hf:∀ h∈w.hs,h.lg.f=h.lg.rs.length
theorem rP{l:Log}(h:l.f=l.rs.length):aW l true=aW l false:=by
 unfold aW;simp[h]
theorem Cm.F(c:Cm w):(vw w).F=(vw w).A:=by
 show ak w.dk true=ak w.dk false
 unfold ak ai;rw[rP c.df]
theorem Cm.hF(c:Cm w){h:Int}(hh:isH h)(t:Int):(vw w).hF h t=(vw w).hA h t:=by
 have e:=rP (c.hf _ (List.mem_of_getElem? (c.ok.houseAt hh).1))
 show hAt (am (houseAt w h) true).hs t=hAt (am (houseAt w h) false).hs t
 unfold am;rw[e]
theorem fO{d:Desk}(h:d.up=true):ej d=d:=by cases d;simp only at h;subst h;rfl
theorem yw{h:House}(u:h.up=true):fj h=h:=by cases h;simp only at u;subst u;rfl
theorem lP(u:AllUp w):c9 w=w:=by
 have h2:w.hs.map fj=w.hs:=by
  conv=>rhs;rw[<-List.map_id w.hs]
  exact List.map_congr_left fun h hh=>yw (u.hs h hh)
 unfold c9;rw[fO u.dk,h2]
theorem l8{l:Log}(h:l.f=l.rs.length):fv l=l:=by cases l;simp only at h;subst h;rfl
theorem vn{d:Desk}(h:d.lg.f=d.lg.rs.length):bv d=d:=by
 unfold bv;split
 ·rw[l8 h]
 ·rfl
theorem vo{h:House}(e:h.lg.f=h.lg.rs.length):bY h=h:=by
 unfold bY;split
 ·rw[l8 e]
 ·rfl
theorem gS:∀(xs:List Word) (w:Wd),(cI w xs).ns=w.ns
 | [],_=>rfl
 | x::xs,w=>(gS xs (bq w x)).trans (sU w x)
theorem CV(w:Wd)(ns:List Word):AllUp {c9 w with ns:=ns}:=⟨rfl,fun h hh=>by
 simp only[c9,List.mem_map]at hh
 obtain⟨y,_,rfl⟩:=hh;rfl⟩
theorem rQ{f:House->House}(hf:∀ h,(f h).room=h.room)(d:Desk)(ns:List Word):bR ⟨d,w.hs.map f,ns⟩=bR w:=by
 unfold bR
 rw[List.map_map]
 exact List.map_congr_left fun h _=>hf h
theorem rR(ho:WOk w)(I:Inv (vw w))(u:AllUp w)(hns:w.ns=[]):Cm (aY w)/\(vw (aY w)).A=(vw w).A/\(∀ h t,isH h->(vw (aY w)).hA h t=(vw w).hA h t):=by
 have ho':WOk (aY w):=ho.map ho.dk.force fun x hx=>⟨hx.force,(fy x).1⟩
 have e:∀ h,isH h->houseAt (aY w) h=bY (houseAt w h):=fun h hh=>ga w _ _ _ ho hh
 refine⟨⟨ho',vl ho I,⟨?_,fun h hh=>?_⟩,hns,?_,fun h hh=>?_⟩,dk_force.2,fun h t hh=>?_⟩
 ·show (bv w.dk).up=true
  unfold bv;split<;>exact u.dk
 ·simp only[aY,List.mem_map]at hh
  obtain⟨y,hy,rfl⟩:=hh
  rw[(fy y).2.2];exact u.hs y hy
 ·show (bv w.dk).lg.f=(bv w.dk).lg.rs.length
  unfold bv;rw[if_pos u.dk];rfl
 ·simp only[aY,List.mem_map]at hh
  obtain⟨y,hy,rfl⟩:=hh
  unfold bY;rw[if_pos (u.hs y hy)];rfl
 ·show hAt (am (houseAt (aY w) h) false).hs t=_
  rw[e h hh,hs_force.2];rfl
theorem BI(ho:WOk w):WOk {c9 w with ns:=[]}/\(∀ h t,isH h->isT t->hle ((vw w).hA h t) ((vw {c9 w with ns:=[]}).hA h t))/\(vw {c9 w with ns:=[]}).A=(vw w).A/\bR {c9 w with ns:=[]}=bR w:=by
 have h1:=pu ho
 have e:∀ h,isH h->houseAt (c9 w) h=fj (houseAt w h):=fun h hh=>ga w _ _ _ ho hh
 refine⟨⟨h1.dk,h1.len,h1.hs,by simp,by simp⟩,fun h t hh ht=>?_,rfl,rQ (f:=fj) (fun _=>rfl) (ej w.dk) []⟩
 show hle _ (hAt (am (houseAt (c9 w) h) false).hs t)
 rw[e h hh];exact hle.rfl' _
theorem vS(ho:WOk w)(I:Inv (vw w)):Cm (bb w)/\tpre (vw w).A (vw (bb w)).A/\(vw (bb w)).A.length=(vw w).A.length/\bR (bb w)=bR w/\(∀ h t,isH h->isT t->hle ((vw w).hA h t) ((vw (bb w)).hA h t)):=by
 obtain⟨h2,hs,hA,hr⟩:=BI ho
 have I2:Inv (vw {c9 w with ns:=[]}):=by rw[Cl];exact(rL ho I).nets (by simp)
 have hx:=iW ho I
 have hh:=jq h2 fun x h=>(hx x h).1
 obtain⟨c,eA,eh⟩:=rR (h2.hears fun x h=>(hx x h).1) (j8 h2 I2 hx) (hh.up (CV w [])) (gS _ _)
 refine⟨c,?_,?_,?_,fun h t hi ht=>?_⟩
 ·show tpre _ (vw (aY _)).A
  rw[eA,<-hA];exact hh.A
 ·show (vw (aY _)).A.length=_
  rw[eA,<-hA];exact hh.len
 ·show bR (aY _)=_
  rw[<-hr,<-hh.rooms];exact rQ (fun h=>(fy h).2.1) _ _
 ·show hle _ ((vw (aY _)).hA h t)
  rw[eh h t hi]
  exact(hs h t hi ht).trans (hh.h h t hi ht)
structure Rnd (w m w':Wd):Prop where
 c:Cm w
 em:m=cI w (aV w.dk)
 okm:WOk m
 Im:Inv (vw m)
 hm:Hrd w m
 c':Cm w'
 A:(vw w').A=(vw m).A
 hA:∀ h t,isH h->(vw w').hA h t=(vw m).hA h t
theorem Cm.rnd(c:Cm w):Rnd w (cI w (aV w.dk)) (bb w):=by
 have e0:({c9 w with ns:=[]}:Wd)=w:=by
  rw[lP c.up]
  obtain⟨d,hs,ns⟩:=w
  have:=c.ns
  simp only at this;subst this;rfl
 have e1:bb w=aY (cI w (aV w.dk)):=by
  unfold bb
  rw[e0,c.ns,fO c.up.dk];rfl
 have hx:=iW c.ok c.I
 rw[e0,c.ns,fO c.up.dk,List.nil_append]at hx
 have hh:=jq c.ok fun x h=>(hx x h).1
 have hok:=c.ok.hears fun x h=>(hx x h).1
 have Im:=j8 c.ok c.I hx
 obtain⟨c',eA,eh⟩:=rR hok Im (hh.up c.up) ((gS _ _).trans c.ns)
 rw[<-e1]at c' eA eh
 exact⟨c,rfl,hok,Im,hh,c',eA,eh⟩
theorem l9{td:List Word}{s t:Int}:∀ {ns:List Int} {h:Int} {j:Nat} {n:Int} {x:Word},ns[j]?=some n->x∈gl td s t (h+j) n->x∈bl td s t h ns
 | [],_,_,_,_,e,_=>by simp at e
 | a::ns,h,0,n,x,e,hx=>by
  simp at e;subst e;simp only[bl,List.mem_append];left;simpa using hx
 | a::ns,h,j+1,n,x,e,hx=>by
  simp only[bl,List.mem_append];right
  refine l9 (j:=j) (by simpa using e) ?_
  rwa [show h+1+(j:Int)=h+((j+1:Nat):Int) by omega]
theorem rS{td:List Word}:∀ {l:List Trip} {t:Int} {j:Nat} {y:Trip} {x:Word},l[j]?=some y->y.s<=3->x∈bl td y.s (t+j) 1 y.m->x∈c8 td t l
 | [],_,_,_,_,e,_,_=>by simp at e
 | a::l,t,0,y,x,e,hs,hx=>by
  simp at e;subst e;simp only[c8,List.mem_append];left;rw[if_neg (by omega)];simpa using hx
 | a::l,t,j+1,y,x,e,hs,hx=>by
  simp only[c8,List.mem_append];right
  refine rS (j:=j) (by simpa using e) hs ?_
  rwa [show t+1+(j:Int)=t+((j+1:Nat):Int) by omega]
theorem Cm.said(c:Cm w){t h:Int}(ht:isT t)(hh:isH h)(hs:1<=(vw w).sF t/\(vw w).sF t<=3)(hw:0<(vw w).want t h) :
  (⟨mT ((vw w).sF t),h,t,0⟩:Word)∈(vw w).td\/∃ x∈aV w.dk,x.k=(vw w).sF t/\x.h=h/\x.t=t:=by
 by_cases hm:(⟨mT ((vw w).sF t),h,t,0⟩:Word)∈(vw w).td
 ·exact .inl hm
 right
 have hl:=cf (l:=(vw w).F) (t:=t) (by have:=hs.1;unfold V.sF at this;omega)
 have ht1:=ht.1
 have hh1:=hh.1
 refine⟨⟨(vw w).sF t,h,t,if(vw w).sF t=1 then(vw w).want t h else 0⟩,?_,rfl,rfl,rfl⟩
 unfold aV
 rw[if_pos c.up.dk]
 refine rS (j:=(t-1).toNat) (y:=tAt (vw w).F t) ?_ hs.2 ?_
 ·show (vw w).F[(t-1).toNat]?=_
  rw[qf hl,List.getElem?_eq_getElem hl]
 ·rw[show (1:Int)+((t-1).toNat:Nat)=t by omega]
  refine l9 (j:=(h-1).toNat) (n:=(vw w).want t h) ?_ ?_
  ·have:=hw
   unfold V.want mAt at this ⊢
   cases e:(tAt (vw w).F t).m[(h-1).toNat]? with
   | none=>rw[e]at this;simp at this
   | some n=>rfl
  ·rw[show (1:Int)+((h-1).toNat:Nat)=h by omega]
   unfold gl
   have:¬ ((vw w).want t h=0\/w.dk.td.contains ⟨mT (tAt (vw w).F t).s,h,t,0⟩=true):=by
    rw[not_or]
    exact⟨by omega,fun h=>hm (by simp only[List.contains_eq_mem,decide_eq_true_eq]at h;exact h)⟩
   rw[if_neg this]
   exact List.mem_singleton.2 rfl
section
variable {m w':Wd}
theorem Rnd.sF(R:Rnd w m w')(t:Int):(vw m).sA t=(vw w').sF t:=by unfold V.sA V.sF;rw[R.c'.F,R.A]
theorem Rnd.mF(R:Rnd w m w')(t:Int):(vw m).sF t=(vw w).sF t:=by unfold V.sF;rw[R.hm.F]
theorem Rnd.want(R:Rnd w m w')(t h:Int):(vw m).want t h=(vw w).want t h:=by unfold V.want;rw[R.hm.F]
theorem Rnd.hF(R:Rnd w m w'){h:Int}(hh:isH h)(t:Int):(vw w').hF h t=(vw m).hA h t:=by rw[R.c'.hF hh,R.hA h t hh]
theorem Rnd.hle(R:Rnd w m w'){h t:Int}(hh:isH h)(ht:isT t):hle ((vw w).hF h t) ((vw w').hF h t):=by rw[R.hF hh,R.c.hF hh];exact R.hm.h h t hh ht
theorem Rnd.pre(R:Rnd w m w'):tpre (vw w).F (vw w').F:=by rw[R.c.F,R.c'.F,R.A];exact R.hm.A
theorem Rnd.len(R:Rnd w m w'):(vw w').F.length=(vw w).F.length:=by rw[R.c.F,R.c'.F,R.A];exact R.hm.len
theorem Rnd.step(R:Rnd w m w'){t:Int}(ht:isT t)(hs:(vw w).sF t≠0) :
  ((vw w').sF t=(vw w).sF t\/((vw w).sF t=1/\2<=(vw w').sF t/\(vw w').sF t<=5)\/((vw w).sF t=2/\(vw w').sF t=4)\/((vw w).sF t=3/\(vw w').sF t=5))/\∀ h,(vw w').want t h=(vw w).want t h:=by
 have h:=R.pre.le t ht.1 (by have:=cf hs;have:=ht.1;omega)
 exact⟨h.2,fun x=>by unfold V.want;rw[h.1]⟩
theorem Rnd.word(R:Rnd w m w'){x:Word}(hx:x∈aV w.dk):∃ a,WOk a/\Inv (vw a)/\AllUp a/\WdOk x/\NetOk (vw a) x/\Hrd w a/\Hrd (bq a x) m:=by
 have hw:=iW R.c.ok R.c.I
 rw[lP R.c.up,R.c.ns,fO R.c.up.dk,List.nil_append]at hw
 rw[R.em]
 exact nW R.c.ok R.c.I R.c.up (fun x hx=>⟨(hw x hx).1,NetOk.ns' (hw x hx).2⟩) hx
theorem Rnd.m3(R:Rnd w m w'){t:Int}(hs:(vw m).sA t≠0):(tAt (vw m).A t).m.length=3:=bt (R.Im.A_ok hs).1
theorem Rnd.mAt(R:Rnd w m w'){t:Int}(ht:isT t)(hs:(vw w).sF t≠0)(h:Int):mAt (tAt (vw m).A t).m h=(vw w).want t h:=by
 rw[R.Im.FA_m ht.1 (by rw[R.mF];exact hs),R.want]
theorem Rnd.asked(R:Rnd w m w'){t:Int}(ht:isT t)(h1:(vw w).sF t=1)(h1':(vw w').sF t=1):∀ h,isH h->0<(vw w').want t h->((vw w').hF h t).s=1:=by
 intro h hh hw
 rw[(R.step ht (by omega)).2]at hw
 have hsm:(vw m).sA t=1:=(R.sF t).trans h1'
 obtain⟨d1,d2⟩:=(R.Im.trip t ht).d1 hsm
 have h0:((vw m).hA h t).s≠0:=by
  rcases R.c.said ht hh (by omega) hw with hm|⟨x,hx,e1,rfl,rfl⟩
  ·rw[h1]at hm
   have k:=(R.c.I.told _ hm).k4 rfl
   have:=R.hm.h h t hh ht
   rw[<-R.c.hF hh]at this
   unfold Dx.hle at this
   simp only at k;omega
  ·obtain⟨a,oa,Ia,ua,wx,nx,g1,g2⟩:=R.word hx
   rcases (rN oa Ia ua wx nx (by omega)).1 with k|k
   ·have:=g2.h x.h x.t hh ht
    unfold Dx.hle at this;omega
   ·exfalso
    have:br (vw m).td x.t 5 1 (tAt (vw m).A x.t).m=true:=(rJ (R.m3 (by omega))).2 ⟨x.h,hh,by rw[R.mAt ht (by omega)];exact hw,g2.td _ k⟩
    rw[this]at d1;cases d1
 have f:=R.Im.hold h t hh ht h0
 have hr:=kV (R.Im.okA h t hh ht)
 have e:=R.mF t
 rw[R.hF hh]
 by_cases h2:((vw m).hA h t).s=2
 ·have:=f.c h2;omega
 ·by_cases h3:((vw m).hA h t).s=3
  ·have:=f.u h3;omega
  ·omega
theorem Rnd.asked2(R:Rnd w m w'){t:Int}(ht:isT t)(h1:(vw w).sF t=1)(ha:∀ h,isH h->0<(vw w).want t h->((vw w).hF h t).s=1):(vw w').sF t≠1:=by
 intro h1'
 have hsm:(vw m).sA t=1:=(R.sF t).trans h1'
 obtain⟨d1,d2⟩:=(R.Im.trip t ht).d1 hsm
 have:aH (vw m).td t 4 1 (tAt (vw m).A t).m=true:=(fA (R.m3 (by omega))).2 fun h hh hw=>by
  rw[R.mAt ht (by omega)]at hw
  rcases R.c.said ht hh (by omega) hw with hm|⟨x,hx,e1,rfl,rfl⟩
  ·rw[h1]at hm;exact R.hm.td _ hm
  ·obtain⟨a,oa,Ia,ua,wx,nx,g1,g2⟩:=R.word hx
   exact g2.td _ ((rN oa Ia ua wx nx (by omega)).2 (by rw[g1.hF _ _ hh];exact ha _ hh hw))
 rw[this]at d2;cases d2
theorem Rnd.yes(R:Rnd w m w'){t:Int}(ht:isT t)(h1:(vw w).sF t=2)(h1':(vw w').sF t=2):∀ h,isH h->0<(vw w').want t h->((vw w').hF h t).s=2:=by
 intro h hh hw
 rw[(R.step ht (by omega)).2]at hw
 rw[R.hF hh]
 have hy:=((R.c.I.trip t ht).yes (by left;unfold V.sA;rw[<-R.c.F];exact h1)).2 h hh hw
 have hwm:=R.hm.h h t hh ht
 rw[<-R.c.hF hh]at hwm
 rcases R.c.said ht hh (by omega) hw with hm|⟨x,hx,e1,rfl,rfl⟩
 ·rw[h1]at hm
  have k:=(R.c.I.told _ hm).k6 rfl
  unfold Dx.hle at hwm
  simp only at k;omega
 ·obtain⟨a,oa,Ia,ua,wx,nx,g1,g2⟩:=R.word hx
  have hwa:=g1.h x.h x.t hh ht
  rw[<-R.c.hF hh]at hwa
  have n3:((vw a).hA x.h x.t).s≠3:=fun e=>by
   have:=(Ia.hold x.h x.t hh ht (by omega)).u e
   unfold V.sF at this h1
   rw[g1.F]at this;omega
  have k:=(nX oa Ia ua wx nx (by omega)).1 (by unfold Dx.hle at hwa;omega)
  have:=g2.h x.h x.t hh ht
  unfold Dx.hle at this;omega
theorem Rnd.yes2(R:Rnd w m w'){t:Int}(ht:isT t)(h1:(vw w).sF t=2)(ha:∀ h,isH h->0<(vw w).want t h->((vw w).hF h t).s=2):(vw w').sF t≠2:=by
 intro h1'
 have hsm:(vw m).sA t=2:=(R.sF t).trans h1'
 have d2:=(R.Im.trip t ht).d2 hsm
 have:aH (vw m).td t 6 1 (tAt (vw m).A t).m=true:=(fA (R.m3 (by omega))).2 fun h hh hw=>by
  rw[R.mAt ht (by omega)]at hw
  rcases R.c.said ht hh (by omega) hw with hm|⟨x,hx,e1,rfl,rfl⟩
  ·rw[h1]at hm;exact R.hm.td _ hm
  ·obtain⟨a,oa,Ia,ua,wx,nx,g1,g2⟩:=R.word hx
   exact g2.td _ ((nX oa Ia ua wx nx (by omega)).2 (by rw[g1.hF _ _ hh];exact ha _ hh hw))
 rw[this]at d2;cases d2
theorem Rnd.no(R:Rnd w m w'){t:Int}(ht:isT t)(h1:(vw w).sF t=3):∀ h,isH h->0<(vw w').want t h->((vw w').hF h t).s=3:=by
 intro h hh hw
 rw[(R.step ht (by omega)).2]at hw
 rw[R.hF hh]
 have hwm:=R.hm.h h t hh ht
 rw[<-R.c.hF hh]at hwm
 rcases R.c.said ht hh (by omega) hw with hm|⟨x,hx,e1,rfl,rfl⟩
 ·rw[h1]at hm
  have k:=(R.c.I.told _ hm).k7 rfl
  unfold Dx.hle at hwm
  simp only at k;omega
 ·obtain⟨a,oa,Ia,ua,wx,nx,g1,g2⟩:=R.word hx
  have n2:((vw a).hA x.h x.t).s≠2:=fun e=>by
   have:=(Ia.hold x.h x.t hh ht (by omega)).c e
   unfold V.sF at this h1
   rw[g1.F]at this;omega
  have k:=(rO oa Ia ua wx nx (by omega)).1 n2
  have:=g2.h x.h x.t hh ht
  unfold Dx.hle at this;omega
theorem Rnd.no2(R:Rnd w m w'){t:Int}(ht:isT t)(h1:(vw w).sF t=3)(ha:∀ h,isH h->0<(vw w).want t h->((vw w).hF h t).s=3):(vw w').sF t≠3:=by
 intro h1'
 have hsm:(vw m).sA t=3:=(R.sF t).trans h1'
 have d2:=(R.Im.trip t ht).d3 hsm
 have:aH (vw m).td t 7 1 (tAt (vw m).A t).m=true:=(fA (R.m3 (by omega))).2 fun h hh hw=>by
  rw[R.mAt ht (by omega)]at hw
  rcases R.c.said ht hh (by omega) hw with hm|⟨x,hx,e1,rfl,rfl⟩
  ·rw[h1]at hm;exact R.hm.td _ hm
  ·obtain⟨a,oa,Ia,ua,wx,nx,g1,g2⟩:=R.word hx
   exact g2.td _ ((rO oa Ia ua wx nx (by omega)).2 (by rw[g1.hF _ _ hh];exact ha _ hh hw))
 rw[this]at d2;cases d2
end
theorem Cm.two(c:Cm w){t:Int}(ht:isT t)(hs:1<=(vw w).sF t/\(vw w).sF t<=3):(vw (bb (bb w))).sF t≠(vw w).sF t:=by
 have R1:=c.rnd
 have R2:=R1.c'.rnd
 have s1:=(R1.step ht (by omega)).1
 have s2:=(R2.step ht (by omega)).1
 intro e
 have e1:(vw (bb w)).sF t=(vw w).sF t:=by omega
 rcases (show (vw w).sF t=1\/(vw w).sF t=2\/(vw w).sF t=3 by omega)with h|h|h
 ·exact R2.asked2 ht (e1.trans h) (R1.asked ht h (e1.trans h)) (e.trans h)
 ·exact R2.yes2 ht (e1.trans h) (R1.yes ht h (e1.trans h)) (e.trans h)
 ·exact R2.no2 ht (e1.trans h) (R1.no ht h) (e.trans h)
structure Fin (w:Wd):Prop extends Cm w where
 fin:∀ t:Int,1<=t->t<=(vw w).F.length->(vw w).sF t=4\/(vw w).sF t=5
theorem F_pos(ho:WOk w){t:Int}(h1:1<=t)(hl:t<=(vw w).F.length):isT t/\1<=(vw w).sF t/\(vw w).sF t<=5:=by
 have hT:=ho.dk.trOk true
 have h6:(vw w).F.length<=6:=hT.len
 have:=tripOk_iff.1 (hT.ok _ (eT (l:=(vw w).F) (t:=t) (by omega)))
 exact⟨⟨h1,by omega⟩,this.2⟩
theorem Cm.fin4(c:Cm w):Fin (bu w 4):=by
 have R1:=c.rnd
 have R2:=R1.c'.rnd
 have R3:=R2.c'.rnd
 have R4:=R3.c'.rnd
 refine⟨R4.c',fun t h1 hl=>?_⟩
 change t<=((vw (bb (bb (bb (bb w))))).F.length:Int)at hl
 show (vw (bb (bb (bb (bb w))))).sF t=4\/(vw (bb (bb (bb (bb w))))).sF t=5
 rw[R4.len,R3.len,R2.len,R1.len]at hl
 obtain⟨ht,hs⟩:=F_pos c.ok h1 hl
 have s1:=(R1.step ht (by omega)).1
 have s2:=(R2.step ht (by omega)).1
 have s3:=(R3.step ht (by omega)).1
 have s4:=(R4.step ht (by omega)).1
 have t1:=fun h=>c.two ht h
 have t2:=fun h=>R2.c'.two ht h
 generalize (vw w).sF t=a at *
 generalize (vw (bb w)).sF t=b at *
 generalize (vw (bb (bb w))).sF t=c2 at *
 generalize (vw (bb (bb (bb w)))).sF t=d at *
 generalize (vw (bb (bb (bb (bb w))))).sF t=e at *
 have q1:a=1->c2≠1:=fun h h2=>t1 (by omega) (by omega)
 have q2:c2=2->e≠2:=fun h h2=>t2 (by omega) (by omega)
 have q3:c2=3->e≠3:=fun h h2=>t2 (by omega) (by omega)
 omega
theorem Fin.words(f:Fin w):aV w.dk=[]:=by
 refine List.eq_nil_iff_forall_not_mem.2 fun x hx=>?_
 obtain⟨h1,h2,_,h4,h5,_⟩:=ep f.ok.dk hx
 have:=f.fin x.t h1.t.1 h4
 have e:(vw w).sF x.t=x.k:=h5
 omega
theorem Fin.round(f:Fin w):bb w=w:=by
 have h:bb w=aY (cI w (aV w.dk)):=by
  have e0:({c9 w with ns:=[]}:Wd)=w:=by
   rw[lP f.up]
   obtain⟨d,hs,ns⟩:=w
   have:=f.ns
   simp only at this;subst this;rfl
  unfold bb
  rw[e0,f.ns,fO f.up.dk];rfl
 rw[h,f.words]
 show aY w=w
 have h2:w.hs.map bY=w.hs:=by
  conv=>rhs;rw[<-List.map_id w.hs]
  exact List.map_congr_left fun h hh=>vo (f.hf h hh)
 unfold aY
 rw[vn f.df,h2]
theorem Fin.calm(f:Fin w):∀ n:Nat,bu w n=w
 | 0=>rfl
 | n+1=>by
  show bu (bb w) n=w
  rw[f.round];exact f.calm n
theorem jr:∀(a b:Nat) (w:Wd),bu w (a+b)=bu (bu w a) b
 | 0,b,w=>by rw[Nat.zero_add];rfl
 | a+1,b,w=>by rw[Nat.add_right_comm];exact jr a b (bb w)
theorem fU(ho:WOk w)(I:Inv (vw w)):Fin (bu w 9):=by
 have f:=(vS ho I).1.fin4
 have e:bu w 9=bu w (1+(4+4)):=rfl
 rw[e,jr,jr]
 have e1:bu w 1=bb w:=rfl
 rw[e1,f.calm];exact f
theorem z1(ho:WOk w)(I:Inv (vw w))(n:Nat):tpre (vw w).A (vw (bu w n)).A/\(vw (bu w n)).A.length=(vw w).A.length/\bR (bu w n)=bR w:=by
 induction n generalizing w with
 | zero=>exact⟨tpre.rfl' _,rfl,rfl⟩
 | succ n ih =>
  obtain⟨c,h1,h2,h3,_⟩:=vS ho I
  obtain⟨a,b,d⟩:=ih c.ok c.I
  exact⟨h1.trans a,b.trans h2,d.trans h3⟩
theorem Fin.hold(f:Fin w){h t:Int}(hh:isH h)(ht:isT t):(((vw w).hA h t).s=0/\((vw w).hA h t).m=0/\((vw w).sF t=0\/(vw w).want t h=0))\/(((vw w).hA h t).s=2/\(vw w).sF t=4/\((vw w).hA h t).m=(vw w).want t h)\/(((vw w).hA h t).s=3/\(vw w).sF t=5):=by
 have hF:=f.hF hh t
 have sAF:(vw w).sA t=(vw w).sF t:=by unfold V.sA V.sF;rw[f.F]
 by_cases h0:((vw w).hA h t).s=0
 ·left
  refine⟨h0,?_,?_⟩
  ·have:=f.I.okA h t hh ht
   unfold bz at this;rw[if_pos h0]at this;simpa using this
  by_cases hs:(vw w).sF t=0
  ·exact .inl hs
  ·right
   have hl:=cf hs
   have h1:=ht.1
   have:=f.fin t ht.1 (by omega)
   have tf:=f.I.trip t ht
   have hmem:=(tripOk_iff.1 ((f.ok.dk.trOk true).ok _ (eT hl))).1
   have hge:0<=(vw w).want t h:=by
    unfold V.want Dx.mAt
    cases e:(tAt (vw w).F t).m[(h-1).toNat]? with
    | none=>simp
    | some n=>exact(fM hmem (List.mem_of_getElem? e)).1
   by_cases hw:0<(vw w).want t h
   ·rcases this with e|e
    ·have:=tf.kept (sAF.trans e) h hh hw;rw[hF]at this;omega
    ·have:=(tf.left (sAF.trans e)).2 h hh hw;rw[hF]at this;omega
   ·omega
 ·right
  have g:=f.I.hold h t hh ht h0
  have hl:=cf g.s
  have h1:=ht.1
  have:=f.fin t ht.1 (by omega)
  have tf:=f.I.trip t ht
  rcases this with e|e
  ·left
   have k:=tf.kept (sAF.trans e) h hh g.w
   rw[hF]at k
   exact⟨k,e,g.m (by omega)⟩
  ·right
   have k:=(tf.left (sAF.trans e)).2 h hh g.w
   rw[hF]at k
   exact⟨k,e⟩
end Dx
namespace Dx
variable {w:Wd}
theorem pv(ho:WOk w)(I:Inv (vw w)):(vw (bu w 9)).F.length=(vw w).A.length/\(∀ t:Int,1<=t->t<=(vw w).A.length ->
  ((tAt (vw w).A t).s=2->(tAt (vw (bu w 9)).F t).s=4)/\((tAt (vw w).A t).s=3->(tAt (vw (bu w 9)).F t).s=5)/\((tAt (vw (bu w 9)).F t).s=4\/(tAt (vw (bu w 9)).F t).s=5)/\(tAt (vw (bu w 9)).F t).m=(tAt (vw w).A t).m):=by
 have f:=fU ho I
 obtain⟨h1,h2,_⟩:=z1 ho I 9
 rw[<-f.F]at h1 h2
 refine⟨h2,fun t ht hl=>?_⟩
 have h3:=h1.le t ht hl
 have h4:(tAt (vw (bu w 9)).F t).s=4\/(tAt (vw (bu w 9)).F t).s=5:=f.fin t ht (by omega)
 have h5:=h3.2
 exact⟨fun e=>by omega,fun e=>by omega,h4,h3.1⟩
def nY(w:Wd):Nat->Wd
 | 0=>w
 | i+1=>wdo (nY w i) ⟨8,i,0,[]⟩
theorem ja(ho:WOk w)(I:Inv (vw w)):∀ i,WOk (nY w i)/\Inv (vw (nY w i))
 | 0=>⟨ho,I⟩
 | i+1=>⟨(ja ho I i).1.do_ _,tj (ja ho I i).1 (ja ho I i).2 _⟩
theorem FO(w:Wd):(vw (nY w 4)).A=(vw w).F:=by
 have e:(nY w 4).dk=dfall w.dk 0:=rfl
 show ak (nY w 4).dk false=ak w.dk true
 rw[e]
 unfold ak ai dfall fL aW eO
 simp
theorem CW{x:Word}{ns:List Word}(h:w.ns=x::ns):wdo w ⟨5,0,0,[]⟩={w with ns:=ns}:=by
 show jA w ⟨5,0,0,[]⟩=_
 unfold jA
 simp[h,fY]
theorem IS(ho:WOk w)(I:Inv (vw w)){ns:List Word}(h:∀ x∈ns,x∈w.ns)(hl:ns.length<=14):WOk {w with ns:=ns}/\Inv (vw {w with ns:=ns}) :=
 ⟨⟨ho.dk,ho.len,ho.hs,hl,fun x hx=>ho.ns x (h x hx)⟩,by rw[Cl];exact I.nets fun x hx=>⟨I.nso x (h x hx),I.net x (h x hx)⟩⟩
theorem CX(ho:WOk w){t:Int}(ht:isT t)(hs:(tAt (vw w).A t).s≠1):wdo w ⟨2,t,0,[]⟩=w:=by
 have e:wdo w ⟨2,t,0,[]⟩={w with dk:=hU w.dk t}:=rfl
 rw[e]
 unfold hU
 rw[if_pos (in_iff.2 ht),jn]
 rintro⟨_,hm⟩
 simp only[cG]at hm
 split at hm
 ·omega
 ·split at hm
  ·cases hm
  ·have hm':(tAt (ak w.dk false) t).s=1:=by simpa using hm
   exact hs hm'
theorem CY(ho:WOk w)(I:Inv (vw w)){t:Int}(ht:isT t)(hu:w.dk.up=true)(hs:(tAt (vw w).A t).s=1) :
  (tAt (vw (wdo w ⟨2,t,0,[]⟩)).A t).s=3/\(tAt (vw (wdo w ⟨2,t,0,[]⟩)).A t).m=(tAt (vw w).A t).m/\(vw (wdo w ⟨2,t,0,[]⟩)).A.length=(vw w).A.length:=by
 have e:wdo w ⟨2,t,0,[]⟩={w with dk:=hU w.dk t}:=rfl
 rw[e]
 have hr:=uE (k:=6) (by omega) ht
 have hm:cG (ak w.dk false) ⟨6,t,[]⟩=true:=(I.toBase.no_fit ht hs).1
 unfold hU
 rw[if_pos (in_iff.2 ht),lu]
 obtain⟨_,_,e3⟩:=i9 ho.dk hr ⟨hu,hm⟩
 simp only
 rw[e3,iu hr hm ht.1,if_pos rfl,eU]
 exact⟨rfl,rfl,rfl⟩
def cV(l:List Trip)(h:Int):Int:=(l.map fun x=>if x.s=4 then mAt x.m h else 0).sum
theorem sum6(l:List Trip)(hl:l.length<=6)(h:Int):cV l h=(([1,2,3,4,5,6]:List Int).map fun t=>if(tAt l t).s=4 then mAt (tAt l t).m h else 0).sum:=by
 match l,hl with
 | [],_=>rfl
 | [a],_=>simp[cV,tAt]
 | [a,b],_=>simp[cV,tAt]
 | [a,b,c],_=>simp[cV,tAt]
 | [a,b,c,d],_=>simp[cV,tAt]
 | [a,b,c,d,e],_=>simp[cV,tAt]
 | [a,b,c,d,e,f],_=>simp[cV,tAt]
theorem had6{hs:List Hold}(hl:hs.length=6):(hs.map had).sum=(([1,2,3,4,5,6]:List Int).map fun t=>had (hAt hs t)).sum:=by
 match hs,hl with
 | [a,b,c,d,e,f],_=>simp[hAt]
theorem map6{f g:Int->Int}(h:∀ t:Int,isT t->f t=g t):(([1,2,3,4,5,6]:List Int).map f).sum=(([1,2,3,4,5,6]:List Int).map g).sum:=by
 have e:([1,2,3,4,5,6]:List Int).map f=([1,2,3,4,5,6]:List Int).map g:=List.map_congr_left fun t ht=>h t (by simp at ht;unfold isT;omega)
 rw[e]
theorem Fin.free(f:Fin w){h:Int}(hh:isH h):Dx.free (am (houseAt w h) true)+cV (vw w).F h=(houseAt w h).room:=by
 have hho:=(f.ok.houseAt hh).2.1
 have hs:=hho.stOk true
 have hr:=hho.room true
 unfold Dx.free
 rw[hr,had6 hs.len,sum6 (vw w).F (f.ok.dk.trOk true).len,map6 (f:=fun t=>had (hAt (am (houseAt w h) true).hs t)) (g:=fun t=>if(tAt (vw w).F t).s=4 then mAt (tAt (vw w).F t).m h else 0)]
 ·omega
 ·intro t ht
  have e:hAt (am (houseAt w h) true).hs t=(vw w).hA h t:=f.hF hh t
  rw[e]
  unfold had
  rcases f.hold hh ht with ⟨h1,h2,h3⟩|⟨h1,h2,h3⟩|⟨h1,h2⟩
  ·rw[if_neg (by omega)]
   split
   ·rename_i h4
    rcases h3 with h3|h3
    ·unfold V.sF at h3;omega
    ·exact h3.symm
   ·rfl
  ·have h2':(tAt (vw w).F t).s=4:=h2
   rw[if_pos (.inr h1),if_pos h2',h3];rfl
  ·rw[if_neg (by omega),if_neg (by unfold V.sF at h2;omega)]
theorem kC(x:Trip)(l:List Trip)(h:Int):cV (x::l) h=(if x.s=4 then mAt x.m h else 0)+cV l h:=by simp[cV]
theorem nZ{x:Trip}(hx:ei x=true)(h:Int):0<=mAt x.m h:=by
 unfold Dx.mAt
 cases e:x.m[(h-1).toNat]? with
 | none=>simp
 | some n=>exact(fM (tripOk_iff.1 hx).1 (List.mem_of_getElem? e)).1
theorem iR(h:Int):∀ {l:List Trip},(∀ x∈l,ei x=true)->0<=cV l h
 | [],_=>by simp[cV]
 | x::l,hl=>by
  rw[kC]
  have h1:=iR h (l:=l) fun y hy=>hl y (by simp[hy])
  have h2:=nZ (hl x (by simp)) h
  split<;>omega
def kN(w:Wd)(m:List Int):Wd:=wdo w ⟨1,0,0,m⟩
def rC:Nat->Wd
 | 0=>(aT [9,9,9]).getD ⟨deskNew,[],[]⟩
 | i+1=>kN (rC i) [(i:Int) % 3,2,1]
def yx(n:Nat):Wd:=bu (rC n) 9
def uG(n:Nat):Bool:=(ai (yx n).dk.lg true).length==n && (ai (yx n).dk.lg true).all (fun t=>t.s==4) && (free (am (houseAt (yx n) 2) true)==9-2*(n:Int))
theorem FP:(uG 1 && uG 2 && uG 3 && uG 4)=true:=by kernel_rfl
def tn(n:Int):Wd:=kN (kN ((aT [2*n-1,3,3]).getD ⟨deskNew,[],[]⟩) [n,1,0]) [n,0,1]
def lv(n:Int):Wd:=bu (tn n) 9
def lw(n:Int):Bool:=(ai (lv n).dk.lg true).map (·.s)==[4,5] && (free (am (houseAt (lv n) 1) true)==n-1)
theorem BJ:(lw 1 && lw 2 && lw 3)=true:=by kernel_rfl
def DO(n:Int)(a b:List Int):Wd:=kN (kN ((aT [n,n,1]).getD ⟨deskNew,[],[]⟩) a) b
def m9(n:Int)(a b:List Int):Wd:=bu (DO n a b) 9
def qi(n:Int):Bool:=(ai (m9 n [n,0,0] [0,n,1]).dk.lg true).map (·.s)==[4,4] && (ai (m9 n [0,n,1] [n,0,0]).dk.lg true).map (·.s)==[4,4]
theorem CZ:(qi 1 && qi 2 && qi 3)=true:=by kernel_rfl
end Dx
namespace Dx
variable {w:Wd}
theorem idle1:wdo w ⟨10,0,0,[]⟩=w:=rfl
theorem idle2:wdo w ⟨4,(w.ns.length:Int),0,[]⟩=w:=by
 show jA w _=w
 unfold jA
 simp
theorem idle3:wdo w ⟨8,4,0,[]⟩=w:=rfl
theorem idle4:wdo w ⟨2,7,0,[]⟩=w:=rfl
theorem idle5:wdo w ⟨1,0,0,[0,0,0]⟩=w:=by
 show ({w with dk:=fw w.dk [0,0,0]}:Wd)=w
 have:aL (eg w.dk [0,0,0])=false:=by
  unfold aL eg
  simp[cZ]
 unfold fw
 rw[this];rfl
theorem idle6:wdo w ⟨3,((aV w.dk).length:Int),0,[]⟩=w:=by
 show ia w ⟨3,((aV w.dk).length:Int),0,[]⟩=w
 unfold ia
 simp
theorem oc{i j:Nat}{l:List House}{x:House}(h:j≠i):(l.set i x)[j]?=l[j]?:=by rw[List.getElem?_set_ne (fun e=>h e.symm)]
theorem C0{e:Ev}(h:7<=e.k/\e.k<=9):(wdo w e).ns=w.ns/\(e.a≠0->(wdo w e).dk=w.dk)/\∀ i:Nat,(i:Int)+1≠e.a->(wdo w e).hs[i]?=w.hs[i]?:=by
 have hs:∀(x:House) (i:Nat),in_ e.a 0 3=true->e.a≠0->(i:Int)+1≠e.a->(w.hs.set (e.a-1).toNat x)[i]?=w.hs[i]?:=fun x i ha h0 hi=>by
  have:=in_iff.1 ha
  exact oc (by omega)
 unfold wdo
 rw[if_neg (by omega),if_neg (by omega),if_pos (by omega)]
 unfold cw
 by_cases ha:in_ e.a 0 3=true
 ·rw[if_pos ha]
  have ha':=in_iff.1 ha
  by_cases h7:e.k=7
  ·rw[if_pos h7]
   unfold cH
   by_cases h0:e.a=0
   ·rw[if_pos h0];exact⟨rfl,fun h=>absurd h0 h,fun _ _=>rfl⟩
   ·rw[if_neg h0,if_pos (in_iff.2 (by omega))];exact⟨rfl,fun _=>rfl,fun i hi=>hs _ i ha h0 hi⟩
  ·rw[if_neg h7]
   by_cases h8:e.k=8
   ·rw[if_pos h8]
    by_cases h0:e.a=0
    ·rw[if_pos h0];exact⟨rfl,fun h=>absurd h0 h,fun _ _=>rfl⟩
    ·rw[if_neg h0];exact⟨rfl,fun _=>rfl,fun i hi=>hs _ i ha h0 hi⟩
   ·rw[if_neg h8,if_pos (by omega)]
    by_cases h0:e.a=0
    ·rw[if_pos h0];exact⟨rfl,fun h=>absurd h0 h,fun _ _=>rfl⟩
    ·rw[if_neg h0];exact⟨rfl,fun _=>rfl,fun i hi=>hs _ i ha h0 hi⟩
 ·rw[if_neg ha];exact⟨rfl,fun _=>rfl,fun _ _=>rfl⟩
structure Kp (a b:Log):Prop where
 f:a.f<=b.f
 t:b.rs.take a.f.toNat=a.rs.take a.f.toNat
theorem Kp.rfl'(a:Log):Kp a a:=⟨Int.le_refl _,rfl⟩
theorem Kp.add{l:Log}(h:LgOk l)(r:Rec):Kp l (dJ l r):=by
 unfold dJ
 split
 ·exact Kp.rfl' l
 ·have h1:=h.hi
  have h2:=h.lo
  exact⟨Int.le_refl _,by show (l.rs++[r]).take _=_;rw[List.take_append_of_le_length (by omega)]⟩
theorem Kp.force{l:Log}(h:LgOk l):Kp l (fv l):=⟨h.hi,rfl⟩
theorem Kp.fall{l:Log}(h:LgOk l)(keep:Int):Kp l (fL l keep):=by
 have hk:=h.keep keep
 have h0:=h.lo
 exact⟨hk.1,by show (l.rs.take (eO l keep).toNat).take _=_;rw[List.take_take,Nat.min_eq_left (by omega)]⟩
theorem Kp.write{d:Desk}(h:LgOk d.lg)(r:Rec):Kp d.lg (bh d r).lg:=by
 unfold bh;split
 ·exact Kp.add h r
 ·exact Kp.rfl' _
theorem Kp.dhear{d:Desk}(h:LgOk d.lg)(x:Word):Kp d.lg (dhear d x).lg:=by
 unfold Dx.dhear;split
 ·unfold dd
  have e:=(fT d x).2
  split
  ·rw[<-e];exact Kp.write (by rw[e];exact h) _
  ·rw[e];exact Kp.rfl' _
 ·exact Kp.rfl' _
theorem Kp.hhear{h:House}(ho:LgOk h.lg)(x:Word):Kp h.lg (hhear h x).1.lg:=by
 unfold Dx.hhear;split
 ·exact Kp.rfl' _
 ·split
  ·exact Kp.add ho _
  ·split<;>exact Kp.rfl' _
structure KpW (a b:Wd):Prop where
 dk:Kp a.dk.lg b.dk.lg
 hs:∀(i:Nat) (x:House),a.hs[i]?=some x->∃ y,b.hs[i]?=some y/\Kp x.lg y.lg
theorem KpW.same{a b:Wd}(h1:b.dk.lg=a.dk.lg)(h2:b.hs=a.hs):KpW a b:=⟨by rw[h1];exact Kp.rfl' _,fun i x h=>⟨x,by rw[h2];exact h,Kp.rfl' _⟩⟩
theorem KpW.desk{d:Desk}(h:Kp w.dk.lg d.lg):KpW w {w with dk:=d}:=⟨h,fun _ x h=>⟨x,h,Kp.rfl' _⟩⟩
theorem KpW.set{i:Int}{y:House}(h:Kp (houseAt w i).lg y.lg):KpW w (setHouse w i y):=by
 refine⟨Kp.rfl' _,fun j x hx=>?_⟩
 by_cases e:j=(i-1).toNat
 ·subst e
  have hl:=(List.getElem?_eq_some_iff.1 hx).1
  refine⟨y,by unfold setHouse;simp only;rw[List.getElem?_set_self hl],?_⟩
  have:houseAt w i=x:=by unfold houseAt;rw[hx];rfl
  rwa [this]at h
 ·exact⟨x,by unfold setHouse;simp only;rw[oc e];exact hx,Kp.rfl' _⟩
theorem KpW.put(x:Word):KpW w (kx w x):=by unfold kx;split<;>exact KpW.same rfl rfl
theorem KpW.hear(ho:WOk w){x:Word}(hx:WdOk x):KpW w (bo w x).1:=by
 unfold bo;split
 ·exact KpW.desk (Kp.dhear ho.dk.lg x)
 ·exact KpW.set (Kp.hhear (ho.houseAt hx.h).2.1.lg x)
theorem KpW.trans{a b c:Wd}(h1:KpW a b)(hc:c.dk.lg=b.dk.lg/\c.hs=b.hs):KpW a c:=⟨by rw[hc.1];exact h1.dk,fun i x hx=>by
 obtain⟨y,h3,h4⟩:=h1.hs i x hx
 exact⟨y,by rw[hc.2];exact h3,h4⟩⟩
end Dx
