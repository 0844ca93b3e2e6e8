set_option linter.all false
namespace Dx
structure Rec where
 k:Int
 t:Int
 m:List Int
 deriving DecidableEq
structure Log where
 rs:List Rec
 f:Int
 deriving DecidableEq
structure Hold where
 m:Int
 s:Int
 deriving DecidableEq
structure Stock where
 room:Int
 hs:List Hold
 deriving DecidableEq
structure Word where
 k:Int
 h:Int
 t:Int
 m:Int
 deriving DecidableEq
structure House where
 id:Int
 up:Bool
 room:Int
 lg:Log
 deriving DecidableEq
structure Trip where
 m:List Int
 s:Int
 deriving DecidableEq
structure Desk where
 up:Bool
 lg:Log
 td:List Word
 deriving DecidableEq
structure Wd where
 dk:Desk
 hs:List House
 ns:List Word
 deriving DecidableEq
structure Ev where
 k:Int
 a:Int
 b:Int
 m:List Int
 deriving DecidableEq
def in_(n lo hi:Int):Bool:=decide (lo<=n) && decide (n<=hi)
theorem in_iff{n lo hi:Int}:in_ n lo hi=true↔lo<=n/\n<=hi:=by simp[in_]
theorem in_false{n lo hi:Int}:in_ n lo hi=false↔¬ (lo<=n/\n<=hi):=by simp[in_]
def cQ(m:List Int):Bool:=m.all (fun n=>in_ n 0 3) && (m.length==3 && decide (m.sum>0))
def aF(r:Rec):Bool:=in_ r.t 1 6 && (if r.k=1 then(match r.m with|[n]=>in_ n 1 3|_=>false) else if r.k=4 then cQ r.m else in_ r.k 2 7 && r.m.isEmpty)
def ic(l:Log):Bool:=l.rs.all aF && (decide (l.rs.length<=40) && in_ l.f 0 l.rs.length)
def dA(l:Log)(r:Rec):Log:=if l.rs.length>=40 then l else⟨l.rs++[r],l.f⟩
def l7(l:Log):Bool:=!decide (l.rs.length>=40)
def fV(l:Log):Log:=⟨l.rs,l.rs.length⟩
def dW(l:Log)(keep:Int):Int:=if keep>0 then l.f+min keep (l.rs.length-l.f) else l.f
def eX(l:Log)(keep:Int):Log:=⟨l.rs.take (dW l keep).toNat,dW l keep⟩
def aW(l:Log)(forced:Bool):List Rec:=if forced then l.rs.take l.f.toNat else l.rs
def bg(h:Hold):Bool:=if h.s=0 then h.m==0 else if h.s=1\/h.s=2 then in_ h.m 1 3 else if h.s=3 then in_ h.m 0 3 else false
def had(h:Hold):Int:=if h.s=1\/h.s=2 then h.m else 0
def free(s:Stock):Int:=s.room-(s.hs.map had).sum
def bR(room:Int):Stock:=⟨room,List.replicate 6 ⟨0,0⟩⟩
def hAt(hs:List Hold)(t:Int):Hold:=(hs[(t-1).toNat]?).getD ⟨0,0⟩
def fI(s:Stock)(t:Int):Int:=(hAt s.hs t).s
def may(s:Stock)(r:Rec):Bool :=
 if r.k=1 then(fI s r.t==0) && decide (r.m.headD 0<=free s)
 else if r.k=2 then fI s r.t==1
 else if r.k=3 then(fI s r.t==1) || (fI s r.t==0)
 else false
def jW(h:Hold)(r:Rec):Hold:=if r.k=1 then⟨r.m.headD 0,1⟩ else if r.k=2 then⟨h.m,2⟩ else if r.k=3 then⟨h.m,3⟩ else h
def act(s:Stock)(r:Rec):Stock:=⟨s.room,s.hs.set (r.t-1).toNat (jW (hAt s.hs r.t) r)⟩
def bE:List Rec->Stock->Option Stock
 | [],s=>some s
 | r::rs,s=>if aF r && may s r then bE rs (act s r) else none
def bQ(room:Int)(rs:List Rec):Option Stock:=if in_ room 0 9 then bE rs (bR room) else none
def b8(w:Word):Bool:=in_ w.h 1 3 && (in_ w.t 1 6 && (in_ w.k 1 7 && (if w.k=1 then in_ w.m 1 3 else w.m==0)))
def dX(h:House):Bool:=in_ h.id 1 3 && (ic h.lg && (bQ h.room h.lg.rs).isSome)
def am(h:House)(forced:Bool):Stock:=(bQ h.room (aW h.lg forced)).getD ⟨0,[]⟩
def bS(w:Word):Rec:=if w.k=1 then⟨1,w.t,[w.m]⟩ else if w.k=2 then⟨2,w.t,[]⟩ else⟨3,w.t,[]⟩
def answer(id:Int)(w:Word)(st:Int):Option Word :=
 if w.k=1/\(st=1\/st=2) then some ⟨4,id,w.t,0⟩
 else if w.k=1/\st=3 then some ⟨5,id,w.t,0⟩
 else if w.k=2/\st=2 then some ⟨6,id,w.t,0⟩
 else if w.k=3/\st=3 then some ⟨7,id,w.t,0⟩
 else none
def de(h:House)(w:Word):House×Option Word :=
 if !h.up || !b8 w || w.h != h.id || decide (w.k>3) then(h,none)
 else if may (am h false) (bS w) then({h with lg:=dA h.lg (bS w)},none)
 else if w.k=1/\fI (am h false) w.t=0 then(h,some ⟨5,h.id,w.t,0⟩)
 else(h,answer h.id w (fI (am h true) w.t))
def cf(h:House):House:=if h.up then {h with lg:=fV h.lg} else h
def hfall(h:House)(keep:Int):House:={h with up:=false,lg:=eX h.lg keep}
def lq(h:House):House:={h with up:=true}
def eK(t:Trip):Bool:=cQ t.m && in_ t.s 1 5
def dY(l:List Trip):Bool:=l.all eK && decide (l.length<=6)
def tAt(l:List Trip)(t:Int):Trip:=(l[(t-1).toNat]?).getD ⟨[],0⟩
def cg(l:List Trip)(r:Rec):Bool :=
 if r.k=4 then r.t==(l.length:Int)+1
 else if r.t>l.length then false
 else if r.k=5\/r.k=6 then(tAt l r.t).s==1
 else if r.k=7 then(tAt l r.t).s==2 || (tAt l r.t).s==3
 else false
def cv(l:List Trip)(r:Rec):List Trip :=
 if r.k=4 then l++[⟨r.m,1⟩]
 else if r.k=5 then l.set (r.t-1).toNat ⟨(tAt l r.t).m,2⟩
 else if r.k=6 then l.set (r.t-1).toNat ⟨(tAt l r.t).m,3⟩
 else if r.k=7 then l.set (r.t-1).toNat ⟨(tAt l r.t).m,(tAt l r.t).s+2⟩
 else l
def bN:List Rec->List Trip->Option (List Trip)
 | [],l=>some l
 | r::rs,l=>if aF r && cg l r then bN rs (cv l r) else none
def bb(rs:List Rec):Option (List Trip):=bN rs []
def deskNew:Desk:=⟨true,⟨[],0⟩,[]⟩
def iz(n:Nat):List Word->List Word->Bool
 | _,[]=>true
 | before,w::ws=>b8 w && decide (w.k>=4) && decide (w.t<=n) && !before.contains w && iz n (before++[w]) ws
def cm(d:Desk):Bool:=ic d.lg && (match bb d.lg.rs with
 | some l=>iz l.length [] d.td && (d.up || d.td.isEmpty)
 | none=>false)
def aj(l:Log)(forced:Bool):List Trip:=(bb (aW l forced)).getD []
def ak(d:Desk)(forced:Bool):List Trip:=aj d.lg forced
def dZ(d:Desk)(r:Rec):Bool:=d.up && (cg (ak d false) r && l7 d.lg)
def aZ(d:Desk)(r:Rec):Desk:=if d.up && cg (ak d false) r then {d with lg:=dA d.lg r} else d
def aA(td:List Word)(t k:Int):Int->List Int->Bool
 | _,[]=>true
 | h,n::ns=>(!decide (n>0) || td.contains ⟨k,h,t,0⟩) && aA td t k (h+1) ns
def bf(td:List Word)(t k:Int):Int->List Int->Bool
 | _,[]=>false
 | h,n::ns=>(decide (n>0) && td.contains ⟨k,h,t,0⟩) || bf td t k (h+1) ns
def lr(d:Desk)(t:Int):Bool:=decide (t<=(ak d true).length) && (tAt (ak d true) t).s==(tAt (ak d false) t).s
def ig(d:Desk)(t:Int):Int :=
 let x:=tAt (ak d false) t
 if x.s=1/\bf d.td t 5 1 x.m then 6
 else if x.s=1/\aA d.td t 4 1 x.m then 5
 else if x.s=2/\lr d t/\aA d.td t 6 1 x.m then 7
 else if x.s=3/\lr d t/\aA d.td t 7 1 x.m then 7
 else 0
def d4(d:Desk)(t:Int):Desk:=if ig d t>0 then aZ d ⟨ig d t,t,[]⟩ else d
def cw(d:Desk)(w:Word):Desk:=if d.td.contains w then d else {d with td:=d.td++[w]}
def dh(d:Desk)(w:Word):Bool:=d.up && (b8 w && (decide (w.k>=4) && decide (w.t<=(ak d false).length)))
def gG(d:Desk)(w:Word):Desk:=if dh d w then d4 (cw d w) w.t else d
def rg(s:Int):Int:=if s=1 then 4 else if s=2 then 6 else 7
def gH(td:List Word)(s t h n:Int):List Word:=if n=0\/td.contains ⟨rg s,h,t,0⟩ then [] else [⟨s,h,t,if s=1 then n else 0⟩]
def bh(td:List Word)(s t:Int):Int->List Int->List Word
 | _,[]=>[]
 | h,n::ns=>gH td s t h n++bh td s t (h+1) ns
def di(td:List Word):Int->List Trip->List Word
 | _,[]=>[]
 | t,x::xs=>(if x.s>3 then [] else bh td x.s t 1 x.m)++di td (t+1) xs
def bI(d:Desk):List Word:=if d.up then di d.td 1 (ak d true) else []
def eY(d:Desk)(m:List Int):Rec:=⟨4,(ak d false).length+1,m⟩
def fF(d:Desk)(m:List Int):Desk:=if aF (eY d m) then aZ d (eY d m) else d
def iU(d:Desk)(t:Int):Desk:=if in_ t 1 6 then aZ d ⟨6,t,[]⟩ else d
def bU(d:Desk):Desk:=if d.up then {d with lg:=fV d.lg} else d
def dfall(d:Desk)(keep:Int):Desk:=⟨false,eX d.lg keep,[]⟩
def jG(d:Desk):Desk:={d with up:=true}
def ch(rooms:List Int):List House:=(rooms.zipIdx 1).map fun p=>⟨p.2,true,p.1,⟨[],0⟩⟩
def aV(rooms:List Int):Option Wd:=if rooms.length=3/\rooms.all (fun n=>in_ n 0 9) then some ⟨deskNew,ch rooms,[]⟩ else none
def iA(w:Wd)(x:Word):Wd:=if w.ns.length<14 then {w with ns:=w.ns++[x]} else w
def Bv(w:Wd):Option Word->Wd
 | some x=>iA w x
 | none=>w
def ez(w:Wd)(i:Int):Wd:={w with ns:=w.ns.eraseIdx i.toNat}
def houseAt(w:Wd)(i:Int):House:=(w.hs[(i-1).toNat]?).getD ⟨0,false,0,⟨[],0⟩⟩
def setHouse(w:Wd)(i:Int)(h:House):Wd:={w with hs:=w.hs.set (i-1).toNat h}
def bH(w:Wd)(x:Word):Wd×Option Word :=
 if x.k>=4 then({w with dk:=gG w.dk x},none)
 else(setHouse w x.h (de (houseAt w x.h) x).1,(de (houseAt w x.h) x).2)
def jX(w:Wd)(e:Ev):Wd:=match if 0<=e.a then w.ns[e.a.toNat]? else none with
 | none=>w
 | some x=>if e.k=5 then ez w e.a else if e.k=6 then iA w x else Bv (bH (ez w e.a) x).1 (bH (ez w e.a) x).2
def gI(w:Wd)(e:Ev):Wd :=
 if e.k=1 then {w with dk:=fF w.dk e.m}
 else if e.k=2 then {w with dk:=iU w.dk e.a}
 else if e.k=3 then(match if 0<=e.a then(bI w.dk)[e.a.toNat]? else none with
  | some x=>iA w x
  | none=>w)
 else w
def cR(w:Wd)(i:Int):Wd:=if i=0 then {w with dk:=bU w.dk} else if in_ i 1 3 then setHouse w i (cf (houseAt w i)) else w
def cd(w:Wd)(e:Ev):Wd :=
 if in_ e.a 0 3 then
  if e.k=7 then cR w e.a
  else if e.k=8 then(if e.a=0 then {w with dk:=dfall w.dk e.b} else setHouse w e.a (hfall (houseAt w e.a) e.b))
  else if e.k=9 then(if e.a=0 then {w with dk:=jG w.dk} else setHouse w e.a (lq (houseAt w e.a)))
  else w
 else w
def wdo(w:Wd)(e:Ev):Wd :=
 if e.k=1\/e.k=2\/e.k=3 then gI w e
 else if e.k=4\/e.k=5\/e.k=6 then jX w e
 else if e.k=7\/e.k=8\/e.k=9 then cd w e
 else w
def bA(w:Wd):List Ev->Wd
 | []=>w
 | e::es=>bA (wdo w e) es
def aU(rooms:List Int)(es:List Ev):Option Wd:=if es.length>80 then none else(aV rooms).map (fun w=>bA w es)
def wO(w:Wd)(x:Word):Wd:=match (bH w x).2 with
 | some y=>(bH (bH w x).1 y).1
 | none=>(bH w x).1
def wP(w:Wd):List Word->Wd
 | []=>w
 | x::xs=>wP (wO w x) xs
def Bw(w:Wd):Wd:=⟨jG w.dk,w.hs.map lq,w.ns⟩
def BR(w:Wd):Wd:=⟨bU w.dk,w.hs.map cf,w.ns⟩
def Aa(w:Wd):Wd:=BR (wP {Bw w with ns:=[]} (w.ns++bI (jG w.dk)))
def ER(w:Wd):Nat->Wd
 | 0=>w
 | n+1=>ER (Aa w) n
end Dx
namespace Dx
structure StOk (s:Stock):Prop where
 len:s.hs.length=6
 hold:∀ h∈s.hs,bg h=true
 room:0<=s.room/\s.room<=9
 free:0<=free s
theorem cE{r:Rec}(h:aF r=true):1<=r.t/\r.t<=6:=by
 simp only[aF,Bool.and_eq_true,in_iff]at h;exact h.1
theorem BS{r:Rec}(h:aF r=true):1<=r.k/\r.k<=7:=by
 simp only[aF,Bool.and_eq_true]at h
 have h:=h.2
 split at h
 ·omega
 ·split at h
  ·omega
  ·simp only[Bool.and_eq_true,in_iff]at h;omega
theorem dE{r:Rec}(h:aF r=true)(hk:r.k=1):∃ n,r.m=[n]/\1<=n/\n<=3:=by
 simp only[aF,Bool.and_eq_true,hk,if_true]at h
 have h:=h.2
 split at h
 ·rename_i n he;exact⟨n,he,in_iff.1 h⟩
 ·cases h
theorem gQ{r:Rec}(h:aF r=true)(hk:r.k=4):cQ r.m=true:=by
 simp only[aF,Bool.and_eq_true,hk]at h
 simpa using h.2
theorem rS{r:Rec}(h:aF r=true)(h1:r.k≠1)(h4:r.k≠4):r.m=[]:=by
 simp only[aF,Bool.and_eq_true,h1,h4,if_false]at h
 simpa using h.2.2
theorem bc{m:List Int}(h:cQ m=true):m.length=3:=by
 simp only[cQ,Bool.and_eq_true,beq_iff_eq]at h;exact h.2.1
theorem gk{m:List Int}(h:cQ m=true){n:Int}(hn:n∈m):0<=n/\n<=3:=by
 simp only[cQ,Bool.and_eq_true,List.all_eq_true]at h
 exact in_iff.1 (h.1 n hn)
theorem eZ{r:Rec}(h:aF r=true):r.m.length<=3:=by
 by_cases h1:r.k=1
 ·obtain⟨n,e,_⟩:=dE h h1;simp[e]
 ·by_cases h4:r.k=4
  ·have:=bc (gQ h h4);omega
  ·simp[rS h h1 h4]
theorem BT{l:List Hold}{i:Nat}{a:Hold}(f:Hold->Int)(hi:i<l.length):((l.set i a).map f).sum=(l.map f).sum-f l[i]+f a:=by
 induction l generalizing i with
 | nil=>simp at hi
 | cons x xs ih=>cases i with
  | zero=>simp;omega
  | succ i=>simp only[List.length_cons]at hi;simp only[List.set_cons_succ,List.map_cons,List.sum_cons,List.getElem_cons_succ];rw[ih (by omega)];omega
theorem rh{hs:List Hold}{t:Int}(h:(t-1).toNat<hs.length):hAt hs t=hs[(t-1).toNat]:=by unfold hAt;rw[List.getElem?_eq_getElem h];rfl
theorem xk{hs:List Hold}{t:Int}(h:(t-1).toNat<hs.length):hAt hs t∈hs:=by rw[rh h];exact List.getElem_mem h
theorem BU(s:Stock)(r:Rec):(act s r).hs.length=s.hs.length:=by simp[act]
theorem zi{s:Stock}{r:Rec}(h:(r.t-1).toNat<s.hs.length):free (act s r)=free s+had (hAt s.hs r.t)-had (jW (hAt s.hs r.t) r):=by
 simp only[free,act]
 rw[BT had h,rh h];omega
theorem nS{s:Stock}{r:Rec}(hs:StOk s)(hr:aF r=true)(hm:may s r=true):StOk (act s r):=by
 have ht:=cE hr
 have hi:(r.t-1).toNat<s.hs.length:=by rw[hs.len];omega
 have ho:=hs.hold _ (xk hi)
 have hf:=hs.free
 have key:bg (jW (hAt s.hs r.t) r)=true/\had (jW (hAt s.hs r.t) r)<=had (hAt s.hs r.t)+free s:=by
  simp only[may,fI]at hm
  by_cases h1:r.k=1
  ·obtain⟨n,e,hn⟩:=dE hr h1
   simp only[h1,if_true,e,List.headD_cons,Bool.and_eq_true,beq_iff_eq,decide_eq_true_eq]at hm
   simp[jW,h1,e,bg,had,in_iff,hn,hm]
  ·simp only[h1,if_false]at hm
   by_cases h2:r.k=2
   ·simp only[h2,if_true,beq_iff_eq]at hm
    simp only[bg,hm]at ho
    have:(hAt s.hs r.t).m=(hAt s.hs r.t).m:=rfl
    simp[jW,h2,bg,had,hm]at ho ⊢
    exact⟨ho,by omega⟩
   ·simp only[h2,if_false]at hm
    by_cases h3:r.k=3
    ·simp only[h3,if_true,Bool.or_eq_true,beq_iff_eq]at hm
     rcases hm with hm|hm
     ·simp only[bg,hm]at ho
      simp[jW,h3,bg,had,hm,in_iff]at ho ⊢
      omega
     ·simp only[bg,hm]at ho
      simp[jW,h3,bg,had,hm,in_iff]at ho ⊢
      omega
    ·simp[h3]at hm
 refine⟨by rw[BU];exact hs.len,?_,hs.room,?_⟩
 ·intro h hh
  rcases List.mem_or_eq_of_mem_set hh with hh|rfl
  ·exact hs.hold _ hh
  ·exact key.1
 ·rw[zi hi];omega
theorem fq{room:Int}(h:0<=room/\room<=9):StOk (bR room):=by
 refine⟨by simp[bR],?_,h,?_⟩
 ·intro x hx;simp[bR,List.mem_replicate]at hx;subst hx;rfl
 ·simp[bR,free,List.replicate,had];exact h.1
theorem gb:∀(a b:List Rec) (s:Stock),bE (a++b) s=(bE a s).bind (bE b)
 | [],b,s=>rfl
 | r::a,b,s=>by
  simp only[List.cons_append,bE]
  split
  ·exact gb a b _
  ·rfl
theorem sq:∀ {rs:List Rec} {s s':Stock},StOk s->bE rs s=some s'->StOk s'
 | [],s,s',h,e=>by simp only[bE,Option.some.injEq]at e;exact e ▸ h
 | r::rs,s,s',h,e=>by
  simp only[bE]at e
  split at e
  ·rename_i hc;simp only[Bool.and_eq_true]at hc;exact sq (nS h hc.1 hc.2) e
  ·cases e
theorem l8:∀ {rs:List Rec} {s s':Stock},bE rs s=some s'->s'.room=s.room
 | [],s,s',e=>by simp only[bE,Option.some.injEq]at e;rw[e]
 | r::rs,s,s',e=>by
  simp only[bE]at e
  split at e
  ·exact(l8 e).trans rfl
  ·cases e
theorem u3{rs:List Rec}{s s':Stock}(h:bE rs s=some s')(n:Nat):∃ s1,bE (rs.take n) s=some s1/\bE (rs.drop n) s1=some s':=by
 rw[<-List.take_append_drop n rs,gb]at h
 cases h1:bE (rs.take n) s with
 | none=>rw[h1]at h;cases h
 | some s1=>rw[h1]at h;exact⟨s1,rfl,h⟩
theorem stockOf_some{room:Int}{rs:List Rec}{s:Stock}:bQ room rs=some s↔(0<=room/\room<=9)/\bE rs (bR room)=some s:=by
 simp only[bQ]
 split
 ·rename_i h;simp[in_iff.1 h]
 ·rename_i h;simp only[reduceCtorEq,false_iff];intro ⟨h1,_⟩;exact h (in_iff.2 h1)
theorem iV{room:Int}{rs:List Rec}{s:Stock}(h:bQ room rs=some s):StOk s/\s.room=room:=by
 obtain⟨h1,h2⟩:=stockOf_some.1 h
 exact⟨sq (fq h1) h2,l8 h2⟩
theorem dv{room:Int}{rs:List Rec}{s:Stock}(h:bQ room rs=some s)(n:Nat):∃ s1,bQ room (rs.take n)=some s1/\bE (rs.drop n) s1=some s:=by
 obtain⟨h1,h2⟩:=stockOf_some.1 h
 obtain⟨s1,h3,h4⟩:=u3 h2 n
 exact⟨s1,stockOf_some.2 ⟨h1,h3⟩,h4⟩
theorem u4{rs:List Rec}{r:Rec}{s s1:Stock}(h:bE rs s=some s1)(hr:aF r=true)(hm:may s1 r=true):bE (rs++[r]) s=some (act s1 r):=by
 rw[gb,h];simp[bE,hr,hm]
theorem jr{room:Int}{rs:List Rec}{r:Rec}{s:Stock}(h:bQ room rs=some s)(hr:aF r=true)(hm:may s r=true):bQ room (rs++[r])=some (act s r):=by
 obtain⟨h1,h2⟩:=stockOf_some.1 h
 exact stockOf_some.2 ⟨h1,u4 h2 hr hm⟩
structure LgOk (l:Log):Prop where
 ok:∀ r∈l.rs,aF r=true
 len:l.rs.length<=40
 lo:0<=l.f
 hi:l.f<=l.rs.length
theorem logOk_iff{l:Log}:ic l=true↔LgOk l:=by
 simp only[ic,Bool.and_eq_true,List.all_eq_true,decide_eq_true_eq,in_iff]
 exact⟨fun⟨h1,h2,h3,h4⟩=>⟨h1,h2,h3,h4⟩,fun h=>⟨h.ok,h.len,h.lo,h.hi⟩⟩
theorem LgOk.add{l:Log}(h:LgOk l){r:Rec}(hr:aF r=true):LgOk (dA l r):=by
 unfold dA
 split
 ·exact h
 ·rename_i hl
  refine⟨fun x hx=>?_,by simp;omega,h.lo,?_⟩
  ·rcases List.mem_append.1 hx with hx|hx
   ·exact h.ok x hx
   ·simp at hx;exact hx ▸ hr
  ·have:=h.hi;simp;omega
theorem LgOk.force{l:Log}(h:LgOk l):LgOk (fV l):=⟨h.ok,h.len,by simp[fV],by simp[fV]⟩
theorem LgOk.keep{l:Log}(h:LgOk l)(keep:Int):l.f<=dW l keep/\dW l keep<=l.rs.length:=by
 have:=h.hi
 unfold dW
 split<;>omega
theorem LgOk.fall{l:Log}(h:LgOk l)(keep:Int):LgOk (eX l keep):=by
 have hk:=h.keep keep
 have:=h.lo
 refine⟨fun x hx=>h.ok x (List.mem_of_mem_take hx),?_,by simp only[eX];omega,?_⟩
 ·simp only[eX,List.length_take];have:=h.len;omega
 ·simp only[eX,List.length_take];omega
structure HsOk (h:House):Prop where
 id:1<=h.id/\h.id<=3
 lg:LgOk h.lg
 st:∃ s,bQ h.room h.lg.rs=some s
theorem houseOk_iff{h:House}:dX h=true↔HsOk h:=by
 simp only[dX,Bool.and_eq_true,in_iff,logOk_iff,Option.isSome_iff_exists]
 exact⟨fun⟨h1,h2,h3⟩=>⟨h1,h2,h3⟩,fun h=>⟨h.id,h.lg,h.st⟩⟩
theorem HsOk.stock{h:House}(ho:HsOk h)(forced:Bool):bQ h.room (aW h.lg forced)=some (am h forced):=by
 obtain⟨s,e⟩:=ho.st
 cases forced with
 | false=>simp[am,aW,e]
 | true =>
  obtain⟨s1,e1,_⟩:=dv e h.lg.f.toNat
  simp[am,aW,e1]
theorem HsOk.stOk{h:House}(ho:HsOk h)(forced:Bool):StOk (am h forced):=(iV (ho.stock forced)).1
theorem HsOk.room{h:House}(ho:HsOk h)(forced:Bool):(am h forced).room=h.room:=(iV (ho.stock forced)).2
theorem HsOk.write{h:House}(ho:HsOk h){r:Rec}(hr:aF r=true)(hm:may (am h false) r=true):HsOk {h with lg:=dA h.lg r}:=by
 refine⟨ho.id,ho.lg.add hr,?_⟩
 have e:=ho.stock false
 simp only[aW,Bool.false_eq_true,if_false]at e
 unfold dA
 split
 ·exact⟨_,e⟩
 ·exact⟨_,jr e hr hm⟩
theorem HsOk.force{h:House}(ho:HsOk h):HsOk (cf h):=by
 unfold cf
 split
 ·exact⟨ho.id,ho.lg.force,ho.st⟩
 ·exact ho
theorem HsOk.fall{h:House}(ho:HsOk h)(keep:Int):HsOk (hfall h keep):=by
 obtain⟨s,e⟩:=ho.st
 obtain⟨s1,e1,_⟩:=dv e (dW h.lg keep).toNat
 exact⟨ho.id,ho.lg.fall keep,s1,e1⟩
theorem HsOk.rise{h:House}(ho:HsOk h):HsOk (lq h):=⟨ho.id,ho.lg,ho.st⟩
structure WdOk (w:Word):Prop where
 h:1<=w.h/\w.h<=3
 t:1<=w.t/\w.t<=6
 k:1<=w.k/\w.k<=7
 m1:w.k=1->1<=w.m/\w.m<=3
 m0:w.k≠1->w.m=0
theorem wordOk_iff{w:Word}:b8 w=true↔WdOk w:=by
 simp only[b8,Bool.and_eq_true,in_iff]
 constructor
 ·intro ⟨h1,h2,h3,h4⟩
  refine⟨h1,h2,h3,fun hk=>?_,fun hk=>?_⟩
  ·simp only[hk,if_true,in_iff]at h4;exact h4
  ·simpa [hk] using h4
 ·intro h
  refine⟨h.h,h.t,h.k,?_⟩
  split
  ·rename_i hk;exact in_iff.2 (h.m1 hk)
  ·rename_i hk;simp[h.m0 hk]
theorem d8{w:Word}(h:WdOk w):aF (bS w)=true:=by
 unfold bS aF
 have ht:=in_iff.2 h.t
 split
 ·rename_i hk;simp[ht,in_iff,h.m1 hk]
 ·split<;>simp[in_,h.t]
theorem BV(w:Word):(bS w).t=w.t:=by
 unfold bS
 split
 ·rfl
 ·split<;>rfl
theorem sr(h:House)(w:Word):(de h w).1.id=h.id/\(de h w).1.up=h.up/\(de h w).1.room=h.room:=by
 unfold de
 split
 ·simp
 ·split
  ·simp
  ·split<;>simp
theorem HsOk.hear{h:House}(ho:HsOk h)(w:Word):HsOk (de h w).1:=by
 unfold de
 split
 ·exact ho
 ·rename_i hc
  simp only[Bool.or_eq_true,not_or,Bool.not_eq_true,Bool.not_eq_false',Bool.not_eq_eq_eq_not,Bool.not_true,Bool.not_false]at hc
  split
  ·rename_i hm
   exact ho.write (d8 (wordOk_iff.1 (by simpa using hc.1.1.2))) hm
  ·split<;>exact ho
theorem yc{id:Int}{w x:Word}{st:Int}(hi:1<=id/\id<=3)(hw:1<=w.t/\w.t<=6)(h:answer id w st=some x):WdOk x/\4<=x.k/\x.h=id/\x.t=w.t/\x.m=0:=by
 unfold answer at h
 have key:∀ k:Int,4<=k->k<=7->some (⟨k,id,w.t,0⟩:Word)=some x->WdOk x/\4<=x.k/\x.h=id/\x.t=w.t/\x.m=0:=by
  intro k h1 h2 e
  simp only[Option.some.injEq]at e;subst e
  exact⟨⟨hi,hw,⟨by simp only;omega,h2⟩,fun e=>by simp only at e;omega,fun _=>rfl⟩,h1,rfl,rfl,rfl⟩
 split at h
 ·exact key _ (by omega) (by omega) h
 ·split at h
  ·exact key _ (by omega) (by omega) h
  ·split at h
   ·exact key _ (by omega) (by omega) h
   ·split at h
    ·exact key _ (by omega) (by omega) h
    ·cases h
theorem yd{h:House}(ho:HsOk h){w x:Word}(e:(de h w).2=some x):WdOk x/\4<=x.k/\x.h=h.id/\x.t=w.t/\x.m=0:=by
 unfold de at e
 split at e
 ·cases e
 ·rename_i hc
  simp only[Bool.or_eq_true,not_or,Bool.not_eq_true,Bool.not_eq_false',Bool.not_eq_eq_eq_not,Bool.not_true,Bool.not_false]at hc
  have hw:=wordOk_iff.1 (show b8 w=true by simpa using hc.1.1.2)
  split at e
  ·cases e
  ·split at e
   ·simp only[Option.some.injEq]at e;subst e
    exact⟨⟨ho.id,hw.t,by simp,by simp,by simp⟩,by simp,rfl,rfl,rfl⟩
   ·exact yc ho.id hw.t e
structure TrOk (l:List Trip):Prop where
 ok:∀ t∈l,eK t=true
 len:l.length<=6
theorem tripsOk_iff{l:List Trip}:dY l=true↔TrOk l:=by
 simp only[dY,Bool.and_eq_true,List.all_eq_true,decide_eq_true_eq]
 exact⟨fun⟨a,b⟩=>⟨a,b⟩,fun h=>⟨h.ok,h.len⟩⟩
theorem tripOk_iff{t:Trip}:eK t=true↔cQ t.m=true/\1<=t.s/\t.s<=5:=by simp[eK,in_iff]
theorem wQ{l:List Trip}{t:Int}(h:(t-1).toNat<l.length):tAt l t=l[(t-1).toNat]:=by unfold tAt;rw[List.getElem?_eq_getElem h];rfl
theorem fa{l:List Trip}{t:Int}(h:(t-1).toNat<l.length):tAt l t∈l:=by rw[wQ h];exact List.getElem_mem h
theorem fW{l:List Trip}(r:Rec):(cv l r).length=if r.k=4 then l.length+1 else l.length:=by
 unfold cv
 split
 ·simp
 ·split
  ·simp
  ·split
   ·simp
   ·split<;>simp
theorem l9{l:List Trip}{r:Rec}(hl:TrOk l)(hr:aF r=true)(hm:cg l r=true):TrOk (cv l r):=by
 have ht:=cE hr
 by_cases h4:r.k=4
 ·simp only[cg,h4,if_true,beq_iff_eq]at hm
  refine⟨fun x hx=>?_,by rw[fW,if_pos h4];omega⟩
  simp only[cv,h4,if_true,List.mem_append,List.mem_singleton]at hx
  rcases hx with hx|rfl
  ·exact hl.ok x hx
  ·exact tripOk_iff.2 ⟨gQ hr h4,by simp,by simp⟩
 ·refine⟨fun x hx=>?_,by rw[fW,if_neg h4];exact hl.len⟩
  simp only[cg,h4,if_false]at hm
  split at hm
  ·cases hm
  rename_i hlt
  have hi:(r.t-1).toNat<l.length:=by omega
  have ho:=tripOk_iff.1 (hl.ok _ (fa hi))
  unfold cv at hx
  simp only[h4,if_false]at hx
  split at hx
  ·rcases List.mem_or_eq_of_mem_set hx with hx|rfl
   ·exact hl.ok x hx
   ·exact tripOk_iff.2 ⟨ho.1,by simp,by simp⟩
  ·split at hx
   ·rcases List.mem_or_eq_of_mem_set hx with hx|rfl
    ·exact hl.ok x hx
    ·exact tripOk_iff.2 ⟨ho.1,by simp,by simp⟩
   ·split at hx
    ·rename_i h5 h6 h7
     rcases List.mem_or_eq_of_mem_set hx with hx|rfl
     ·exact hl.ok x hx
     ·rw[if_neg (by omega),if_pos h7]at hm
      simp only[Bool.or_eq_true,beq_iff_eq]at hm
      exact tripOk_iff.2 ⟨ho.1,by simp only;omega,by simp only;omega⟩
    ·exact hl.ok x hx
theorem gf:∀(a b:List Rec) (l:List Trip),bN (a++b) l=(bN a l).bind (bN b)
 | [],b,l=>rfl
 | r::a,b,l=>by
  simp only[List.cons_append,bN]
  split
  ·exact gf a b _
  ·rfl
theorem m8:∀ {rs:List Rec} {l l':List Trip},TrOk l->bN rs l=some l'->TrOk l'/\l.length<=l'.length
 | [],l,l',h,e=>by simp only[bN,Option.some.injEq]at e;exact e ▸ ⟨h,Nat.le_refl _⟩
 | r::rs,l,l',h,e=>by
  simp only[bN]at e
  split at e
  ·rename_i hc;simp only[Bool.and_eq_true]at hc
   have:=m8 (l9 h hc.1 hc.2) e
   refine⟨this.1,Nat.le_trans ?_ this.2⟩
   rw[fW];split<;>omega
  ·cases e
theorem u5{rs:List Rec}{l l':List Trip}(h:bN rs l=some l')(n:Nat):∃ l1,bN (rs.take n) l=some l1/\bN (rs.drop n) l1=some l':=by
 rw[<-List.take_append_drop n rs,gf]at h
 cases h1:bN (rs.take n) l with
 | none=>rw[h1]at h;cases h
 | some s1=>rw[h1]at h;exact⟨s1,rfl,h⟩
theorem TrOk.nil:TrOk []:=⟨by simp,by simp⟩
theorem ma{rs:List Rec}{l:List Trip}(h:bb rs=some l):TrOk l:=(m8 TrOk.nil h).1
theorem cS{rs:List Rec}{l:List Trip}(h:bb rs=some l)(n:Nat):∃ l1,bb (rs.take n)=some l1/\bN (rs.drop n) l1=some l/\l1.length<=l.length:=by
 obtain⟨l1,h1,h2⟩:=u5 h n
 exact⟨l1,h1,h2,(m8 (ma h1) h2).2⟩
theorem js{rs:List Rec}{r:Rec}{l:List Trip}(h:bb rs=some l)(hr:aF r=true)(hm:cg l r=true):bb (rs++[r])=some (cv l r):=by
 unfold bb at h ⊢
 rw[gf,h];simp[bN,hr,hm]
theorem iW(n:Nat):∀(ws before:List Word),iz n before ws=true↔(∀ w∈ws,WdOk w/\4<=w.k/\w.t<=n)/\ws.Nodup/\∀ w∈ws,w∉before
 | [],before=>by simp[iz]
 | w::ws,before=>by
  simp only[iz,Bool.and_eq_true,iW n ws,wordOk_iff,decide_eq_true_eq,Bool.not_eq_true',List.mem_cons,List.nodup_cons,List.mem_append,List.mem_singleton,not_or,forall_eq_or_imp,List.contains_eq_mem,decide_eq_false_iff_not,ge_iff_le]
  constructor
  ·rintro⟨⟨⟨⟨h1,h2⟩,h3⟩,h4⟩,h5,h6,h7⟩
   exact⟨⟨⟨h1,h2,h3⟩,h5⟩,⟨fun hw=>(h7 w hw).2.1 rfl,h6⟩,h4,fun x hx=>(h7 x hx).1⟩
  ·rintro⟨⟨⟨h1,h2,h3⟩,h5⟩,⟨h6,h7⟩,h8,h9⟩
   exact⟨⟨⟨⟨h1,h2⟩,h3⟩,h8⟩,h5,h7,fun x hx=>⟨h9 x hx,fun e=>h6 (e ▸ hx),by simp⟩⟩
structure DkOk (d:Desk):Prop where
 lg:LgOk d.lg
 tr:bb d.lg.rs=some (ak d false)
 td:∀ w∈d.td,WdOk w/\4<=w.k/\w.t<=(ak d false).length
 nd:d.td.Nodup
 up:d.up=true\/d.td=[]
theorem iX{d:Desk}{l:List Trip}(e:bb d.lg.rs=some l):ak d false=l:=by simp[ak,aj,aW,e]
theorem deskOk_iff{d:Desk}:cm d=true↔DkOk d:=by
 simp only[cm,Bool.and_eq_true,logOk_iff]
 constructor
 ·rintro⟨h1,h2⟩
  split at h2
  ·rename_i l e
   have hl:=iX e
   simp only[Bool.and_eq_true,iW,Bool.or_eq_true,List.isEmpty_iff]at h2
   exact⟨h1,by rw[hl];exact e,by rw[hl];exact h2.1.1,h2.1.2.1,h2.2⟩
  ·cases h2
 ·intro h
  refine⟨h.lg,?_⟩
  rw[h.tr]
  simp only[Bool.and_eq_true,iW,Bool.or_eq_true,List.isEmpty_iff]
  exact⟨⟨h.td,h.nd,by simp⟩,h.up⟩
theorem DkOk.trips{d:Desk}(h:DkOk d)(forced:Bool):bb (aW d.lg forced)=some (ak d forced):=by
 cases forced with
 | false=>simpa [aW] using h.tr
 | true =>
  obtain⟨l1,e,_⟩:=cS h.tr d.lg.f.toNat
  simp[ak,aj,aW,e]
theorem DkOk.trOk{d:Desk}(h:DkOk d)(forced:Bool):TrOk (ak d forced):=ma (h.trips forced)
theorem DkOk.sub{d:Desk}(h:DkOk d):(ak d true).length<=(ak d false).length:=by
 obtain⟨l1,e,_,h3⟩:=cS h.tr d.lg.f.toNat
 have:=h.trips true
 simp only[aW,if_true]at this
 rw[this]at e;simp only[Option.some.injEq]at e;rw[e];exact h3
theorem fN(d:Desk)(r:Rec):(aZ d r).td=d.td/\(aZ d r).up=d.up/\(aZ d r).lg.f=d.lg.f:=by
 unfold aZ dA
 split
 ·split<;>exact⟨rfl,rfl,rfl⟩
 ·exact⟨rfl,rfl,rfl⟩
theorem DkOk.write{d:Desk}(h:DkOk d){r:Rec}(hr:aF r=true):DkOk (aZ d r)/\(ak d false).length<=(ak (aZ d r) false).length:=by
 unfold aZ
 split
 case isFalse=>exact⟨h,Nat.le_refl _⟩
 rename_i hc
 simp only[Bool.and_eq_true]at hc
 by_cases hl:d.lg.rs.length>=40
 ·have e:dA d.lg r=d.lg:=by simp[dA,hl]
  rw[e];exact⟨h,Nat.le_refl _⟩
 ·have e:dA d.lg r=⟨d.lg.rs++[r],d.lg.f⟩:=by simp[dA,hl]
  have e2:=js h.tr hr hc.2
  have e3:ak {d with lg:=dA d.lg r} false=cv (ak d false) r:=iX (by rw[e];exact e2)
  have hlen:(ak d false).length<=(cv (ak d false) r).length:=by rw[fW];split<;>omega
  refine⟨⟨h.lg.add hr,by rw[e3,e];exact e2,?_,h.nd,h.up⟩,by rw[e3];exact hlen⟩
  intro w hw
  obtain⟨a,b,c⟩:=h.td w hw
  rw[e3];exact⟨a,b,by omega⟩
theorem DkOk.tell{d:Desk}(h:DkOk d){w:Word}(hw:dh d w=true):DkOk (cw d w):=by
 simp only[dh,Bool.and_eq_true,decide_eq_true_eq,wordOk_iff]at hw
 unfold cw
 split
 ·exact h
 ·rename_i hc
  refine⟨h.lg,h.tr,fun x hx=>?_,?_,.inl hw.1⟩
  ·rcases List.mem_append.1 hx with hx|hx
   ·exact h.td x hx
   ·simp at hx;subst hx;exact⟨hw.2.1,hw.2.2.1,hw.2.2.2⟩
  ·rw[List.nodup_append]
   refine⟨h.nd,by simp,fun a ha b hb e=>?_⟩
   simp at hb;subst hb;subst e
   simp at hc;exact hc ha
theorem pi{d:Desk}{t:Int}(ht:1<=t/\t<=6)(hk:ig d t>0):aF ⟨ig d t,t,[]⟩=true:=by
 have:ig d t=5\/ig d t=6\/ig d t=7:=by
  revert hk;unfold ig;dsimp only
  split
  ·simp
  ·split
   ·simp
   ·split
    ·simp
    ·split<;>simp
 rcases this with e|e|e<;>rw[e]<;>simp[aF,in_iff,ht]
theorem gX(d:Desk)(w:Word):(cw d w).up=d.up/\(cw d w).lg=d.lg:=by unfold cw;split<;>exact⟨rfl,rfl⟩
theorem DkOk.hear{d:Desk}(h:DkOk d)(w:Word):DkOk (gG d w)/\(gG d w).up=d.up/\(ak d false).length<=(ak (gG d w) false).length:=by
 unfold gG
 split
 case isFalse=>exact⟨h,rfl,Nat.le_refl _⟩
 rename_i hc
 have h1:=h.tell hc
 have ht:(ak (cw d w) false)=ak d false:=by simp[ak,aj,gX]
 unfold d4
 split
 ·rename_i hk
  simp only[dh,Bool.and_eq_true,decide_eq_true_eq,wordOk_iff]at hc
  have:=h1.write (pi hc.2.1.t hk)
  exact⟨this.1,by rw[(fN _ _).2.1,(gX d w).1],by rw[<-ht];exact this.2⟩
 ·exact⟨h1,(gX d w).1,by rw[ht];exact Nat.le_refl _⟩
theorem DkOk.force{d:Desk}(h:DkOk d):DkOk (bU d):=by
 unfold bU
 split
 ·exact⟨h.lg.force,h.tr,h.td,h.nd,h.up⟩
 ·exact h
theorem DkOk.fall{d:Desk}(h:DkOk d)(keep:Int):DkOk (dfall d keep):=by
 obtain⟨l1,e,_,_⟩:=cS h.tr (dW d.lg keep).toNat
 exact⟨h.lg.fall keep,by rw[iX (d:=dfall d keep) e];exact e,by simp[dfall],by simp[dfall],.inr rfl⟩
theorem DkOk.rise{d:Desk}(h:DkOk d):DkOk (jG d):=⟨h.lg,h.tr,h.td,h.nd,.inl rfl⟩
theorem DkOk.begin{d:Desk}(h:DkOk d)(m:List Int):DkOk (fF d m):=by
 unfold fF
 split
 ·rename_i hr;exact(h.write hr).1
 ·exact h
theorem DkOk.give{d:Desk}(h:DkOk d)(t:Int):DkOk (iU d t):=by
 unfold iU
 split
 ·rename_i hr;exact(h.write (by simp[aF,in_iff,in_iff.1 hr])).1
 ·exact h
theorem u6:DkOk deskNew:=⟨⟨by simp[deskNew],by simp[deskNew],by simp[deskNew],by simp[deskNew]⟩,rfl,by simp[deskNew],by simp[deskNew],.inl rfl⟩
structure WOk (w:Wd):Prop where
 dk:DkOk w.dk
 len:w.hs.length=3
 hs:∀(i:Nat) (h:House),w.hs[i]?=some h->HsOk h/\h.id=i+1
 nlen:w.ns.length<=14
 ns:∀ x∈w.ns,WdOk x
theorem WOk.houseAt{w:Wd}(h:WOk w){i:Int}(hi:1<=i/\i<=3):w.hs[(i-1).toNat]?=some (houseAt w i)/\HsOk (houseAt w i)/\(houseAt w i).id=i:=by
 have hl:(i-1).toNat<w.hs.length:=by rw[h.len];omega
 have e:w.hs[(i-1).toNat]?=some (Dx.houseAt w i):=by unfold Dx.houseAt;rw[List.getElem?_eq_getElem hl];rfl
 have:=h.hs _ _ e
 exact⟨e,this.1,by rw[this.2];omega⟩
theorem WOk.setHouse{w:Wd}(h:WOk w){i:Int}(hi:1<=i/\i<=3){x:House}(hx:HsOk x)(hid:x.id=i):WOk (setHouse w i x):=by
 refine⟨h.dk,by simp[Dx.setHouse,h.len],fun j y e=>?_,h.nlen,h.ns⟩
 simp only[Dx.setHouse,List.getElem?_set]at e
 split at e
 ·rename_i hj
  split at e
  ·simp only[Option.some.injEq]at e;subst e;exact⟨hx,by omega⟩
  ·cases e
 ·exact h.hs j y e
theorem WOk.desk{w:Wd}(h:WOk w){d:Desk}(hd:DkOk d):WOk {w with dk:=d}:=⟨hd,h.len,h.hs,h.nlen,h.ns⟩
theorem WOk.put{w:Wd}(h:WOk w){x:Word}(hx:WdOk x):WOk (iA w x):=by
 unfold iA
 split
 ·refine⟨h.dk,h.len,h.hs,by simp;omega,fun y hy=>?_⟩
  rcases List.mem_append.1 hy with hy|hy
  ·exact h.ns y hy
  ·simp at hy;exact hy ▸ hx
 ·exact h
theorem WOk.take{w:Wd}(h:WOk w)(i:Int):WOk (ez w i):=by
 refine⟨h.dk,h.len,h.hs,?_,fun y hy=>h.ns y (List.mem_of_mem_eraseIdx hy)⟩
 have:=List.length_eraseIdx_le w.ns i.toNat
 have:=h.nlen
 simp only[ez];omega
theorem WOk.hear{w:Wd}(h:WOk w){x:Word}(hx:WdOk x):WOk (bH w x).1/\∀ y,(bH w x).2=some y->WdOk y/\4<=y.k:=by
 unfold bH
 split
 ·exact⟨h.desk (h.dk.hear x).1,by simp⟩
 ·have:=h.houseAt hx.h
  refine⟨h.setHouse hx.h (this.2.1.hear x) (by rw[(sr _ _).1];exact this.2.2),fun y hy=>?_⟩
  have:=yd this.2.1 hy
  exact⟨this.1,this.2.1⟩
theorem WOk.net{w:Wd}(h:WOk w)(e:Ev):WOk (jX w e):=by
 unfold jX
 split
 ·exact h
 ·rename_i x hx
  have hx:WdOk x:=by
   split at hx
   ·exact h.ns x (List.mem_of_getElem? hx)
   ·cases hx
  split
  ·exact h.take _
  ·split
   ·exact h.put hx
   ·have:=(h.take e.a).hear hx
    cases hy:(bH (ez w e.a) x).2 with
    | none=>exact this.1
    | some y=>exact this.1.put (this.2 y hy).1
theorem ye{td:List Word}{s t h n:Int}(ht:1<=t/\t<=6)(hs:1<=s/\s<=3)(hh:1<=h/\h<=3)(hn:0<=n/\n<=3){x:Word}(hx:x∈gH td s t h n):WdOk x/\x.k=s/\x.t=t/\x.h=h/\x.k<=3/\n≠0:=by
 unfold gH at hx
 split at hx
 ·cases hx
 ·rename_i hc
  simp only[not_or]at hc
  simp at hx;subst hx
  refine⟨⟨hh,ht,by simp only;omega,fun hk=>?_,fun hk=>?_⟩,rfl,rfl,rfl,hs.2,hc.1⟩
  ·simp only at hk;simp only[hk,if_true];omega
  ·simp only at hk;simp[hk]
theorem jt{td:List Word}{s t:Int}:∀ {ns:List Int} {h:Int} {x:Word},x∈bh td s t h ns->∃(j:Nat) (n:Int),ns[j]?=some n/\x∈gH td s t (h+j) n
 | [],h,x,hx=>by simp[bh]at hx
 | n::ns,h,x,hx=>by
  simp only[bh,List.mem_append]at hx
  rcases hx with hx|hx
  ·exact⟨0,n,rfl,by simpa using hx⟩
  ·obtain⟨j,m,e,hm⟩:=jt hx
   refine⟨j+1,m,by simpa using e,?_⟩
   have:h+((j+1:Nat):Int)=h+1+j:=by omega
   rw[this];exact hm
theorem mb{td:List Word}:∀ {l:List Trip} {t:Int} {x:Word},x∈di td t l->∃(i:Nat) (y:Trip),l[i]?=some y/\y.s<=3/\x∈bh td y.s (t+i) 1 y.m
 | [],t,x,hx=>by simp[di]at hx
 | y::ys,t,x,hx=>by
  simp only[di,List.mem_append]at hx
  rcases hx with hx|hx
  ·split at hx
   ·cases hx
   ·exact⟨0,y,rfl,by omega,by simpa using hx⟩
  ·obtain⟨i,z,e,h1,h2⟩:=mb hx
   refine⟨i+1,z,by simpa using e,h1,?_⟩
   have:t+((i+1:Nat):Int)=t+1+i:=by omega
   rw[this];exact h2
theorem iY{d:Desk}(h:DkOk d){x:Word}(hx:x∈bI d):WdOk x/\x.k<=3/\d.up=true/\x.t<=(ak d true).length/\(tAt (ak d true) x.t).s=x.k/\∃ n,(tAt (ak d true) x.t).m[(x.h-1).toNat]?=some n/\n≠0/\x∈gH d.td x.k x.t x.h n:=by
 unfold bI at hx
 split at hx
 case isFalse=>cases hx
 rename_i hup
 obtain⟨i,y,e,h1,h2⟩:=mb hx
 obtain⟨j,n,e2,h3⟩:=jt h2
 have hi:=(List.getElem?_eq_some_iff.1 e).1
 have hj:=(List.getElem?_eq_some_iff.1 e2).1
 have tr:=h.trOk true
 have hy:=tripOk_iff.1 (tr.ok y (List.mem_of_getElem? e))
 have hm:=bc hy.1
 have hn:=gk hy.1 (List.mem_of_getElem? e2)
 have hlen:=tr.len
 have key:=ye (t:=1+(i:Int)) (h:=1+(j:Int)) (by omega) ⟨hy.2.1,h1⟩ (by omega) hn h3
 obtain⟨k1,k2,k3,k4,k5,k6⟩:=key
 have et:(x.t-1).toNat=i:=by omega
 have eh:(x.h-1).toNat=j:=by omega
 have ey:tAt (ak d true) x.t=y:=by simp[tAt,et,e]
 refine⟨k1,k5,hup,by omega,by rw[ey,k2],n,by rw[ey,eh];exact e2,k6,?_⟩
 rw[k2,k3,k4];exact h3
theorem WOk.deskEv{w:Wd}(h:WOk w)(e:Ev):WOk (gI w e):=by
 unfold gI
 split
 ·exact h.desk (h.dk.begin _)
 ·split
  ·exact h.desk (h.dk.give _)
  ·split
   ·split
    ·rename_i x hx
     split at hx
     ·exact h.put (iY h.dk (List.mem_of_getElem? hx)).1
     ·cases hx
    ·exact h
   ·exact h
theorem kg(h:House):(cf h).id=h.id/\(cf h).room=h.room/\(cf h).up=h.up:=by unfold cf;split<;>exact⟨rfl,rfl,rfl⟩
theorem WOk.forceEv{w:Wd}(h:WOk w)(i:Int):WOk (cR w i):=by
 unfold cR
 split
 ·exact h.desk h.dk.force
 ·split
  ·rename_i hi
   have:=h.houseAt (in_iff.1 hi)
   exact h.setHouse (in_iff.1 hi) this.2.1.force (by rw[(kg _).1];exact this.2.2)
  ·exact h
theorem WOk.node{w:Wd}(h:WOk w)(e:Ev):WOk (cd w e):=by
 unfold cd
 split
 case isFalse=>exact h
 rename_i hi
 have hi:=in_iff.1 hi
 split
 ·exact h.forceEv _
 ·split
  ·split
   ·exact h.desk (h.dk.fall _)
   ·have:=h.houseAt (i:=e.a) (by omega)
    exact h.setHouse (by omega) (this.2.1.fall _) this.2.2
  ·split
   ·split
    ·exact h.desk h.dk.rise
    ·have:=h.houseAt (i:=e.a) (by omega)
     exact h.setHouse (by omega) this.2.1.rise this.2.2
   ·exact h
theorem WOk.do_{w:Wd}(h:WOk w)(e:Ev):WOk (wdo w e):=by
 unfold wdo
 split
 ·exact h.deskEv e
 ·split
  ·exact h.net e
  ·split
   ·exact h.node e
   ·exact h
theorem WOk.plays{w:Wd}(h:WOk w):∀ es:List Ev,WOk (bA w es)
 | []=>h
 | e::es=>(h.do_ e).plays es
theorem WOk.hear2{w:Wd}(h:WOk w){x:Word}(hx:WdOk x):WOk (wO w x):=by
 unfold wO
 have:=h.hear hx
 split
 ·rename_i y hy;exact(this.1.hear (this.2 y hy).1).1
 ·exact this.1
theorem WOk.hears{w:Wd}(h:WOk w):∀ {xs:List Word},(∀ x∈xs,WdOk x)->WOk (wP w xs)
 | [],_=>h
 | x::xs,hx=>(h.hear2 (hx x (by simp))).hears (fun y hy=>hx y (by simp[hy]))
theorem WOk.map{w:Wd}(h:WOk w){d:Desk}(hd:DkOk d){f:House->House}(hf:∀ x,HsOk x->HsOk (f x)/\(f x).id=x.id):WOk ⟨d,w.hs.map f,w.ns⟩:=by
 refine⟨hd,by simp[h.len],fun i x e=>?_,h.nlen,h.ns⟩
 simp only[List.getElem?_map,Option.map_eq_some_iff]at e
 obtain⟨y,e,rfl⟩:=e
 have:=h.hs i y e
 exact⟨(hf y this.1).1,by rw[(hf y this.1).2];exact this.2⟩
theorem WOk.round{w:Wd}(h:WOk w):WOk (Aa w):=by
 have h1:WOk (Bw w):=h.map h.dk.rise fun x hx=>⟨hx.rise,rfl⟩
 have h2:WOk {Bw w with ns:=[]}:=⟨h1.dk,h1.len,h1.hs,by simp,by simp⟩
 have h3:=h2.hears (xs:=w.ns++bI (jG w.dk)) (fun x hx=>by
  rcases List.mem_append.1 hx with hx|hx
  ·exact h.ns x hx
  ·exact(iY h.dk.rise hx).1)
 exact h3.map h3.dk.force fun x hx=>⟨hx.force,(kg x).1⟩
theorem WOk.calm{w:Wd}(h:WOk w)(n:Nat):WOk (ER w n):=by
 induction n generalizing w with
 | zero=>exact h
 | succ n ih=>exact ih h.round
theorem co{rooms:List Int}{w:Wd}(h:aV rooms=some w):WOk w:=by
 unfold aV at h
 split at h
 case isFalse=>cases h
 rename_i hc
 simp only[List.all_eq_true,in_iff]at hc
 simp only[Option.some.injEq]at h;subst h
 refine⟨u6,by simp[ch,hc.1],fun i x e=>?_,by simp,by simp⟩
 simp only[ch,List.getElem?_map,Option.map_eq_some_iff,List.getElem?_zipIdx]at e
 obtain⟨p,⟨q,e,rfl⟩,rfl⟩:=e
 have hi:=(List.getElem?_eq_some_iff.1 e).1
 refine⟨⟨by simp only;omega,⟨by simp,by simp,by simp,by simp⟩,_,stockOf_some.2 ⟨hc.2 _ (List.mem_of_getElem? e),rfl⟩⟩,by simp only;omega⟩
end Dx
namespace Dx
def hle(a b:Hold):Prop:=a.s=0\/(b.m=a.m/\(b.s=a.s\/(a.s=1/\(b.s=2\/b.s=3))))
def tle(a b:Trip):Prop:=b.m=a.m/\(b.s=a.s\/(a.s=1/\(2<=b.s/\b.s<=5))\/(a.s=2/\b.s=4)\/(a.s=3/\b.s=5))
theorem hle.rfl'(a:Hold):hle a a:=.inr ⟨rfl,.inl rfl⟩
theorem tle.rfl'(a:Trip):tle a a:=⟨rfl,.inl rfl⟩
theorem hle.trans{a b c:Hold}(h1:hle a b)(h2:hle b c):hle a c:=by
 unfold hle at *;rcases h1 with h1|⟨e1,h1⟩
 ·exact .inl h1
 ·rcases h2 with h2|⟨e2,h2⟩
  ·left;omega
  ·right;exact⟨e2.trans e1,by omega⟩
theorem tle.trans{a b c:Trip}(h1:tle a b)(h2:tle b c):tle a c:=by
 obtain⟨e1,h1⟩:=h1;obtain⟨e2,h2⟩:=h2
 exact⟨e2.trans e1,by omega⟩
theorem BW{hs:List Hold}{t u:Int}{x:Hold}(ht:1<=t/\(t-1).toNat<hs.length)(hu:1<=u):hAt (hs.set (t-1).toNat x) u=if u=t then x else hAt hs u:=by
 unfold hAt
 rw[List.getElem?_set]
 by_cases e:u=t
 ·subst e;rw[if_pos rfl,if_pos ht.2,if_pos rfl];rfl
 ·rw[if_neg (by omega),if_neg e]
theorem Ab{s:Stock}{r:Rec}(hl:s.hs.length=6)(hr:aF r=true){u:Int}(hu:1<=u):hAt (act s r).hs u=if u=r.t then jW (hAt s.hs r.t) r else hAt s.hs u:=by
 have:=cE hr
 exact BW (by rw[hl];omega) hu
theorem xl{s:Stock}{r:Rec}(hl:s.hs.length=6)(hr:aF r=true)(hm:may s r=true){u:Int}(hu:1<=u):hle (hAt s.hs u) (hAt (act s r).hs u):=by
 rw[Ab hl hr hu]
 split
 case isFalse=>exact hle.rfl' _
 rename_i e;subst e
 simp only[may,fI]at hm
 unfold jW hle
 split at hm
 ·rename_i h1;simp only[Bool.and_eq_true,beq_iff_eq]at hm;exact .inl hm.1
 ·split at hm
  ·rename_i h1 h2;simp only[beq_iff_eq]at hm;simp[h1,h2,hm]
  ·split at hm
   ·rename_i h1 h2 h3;simp only[Bool.or_eq_true,beq_iff_eq]at hm;simp[h1,h2,h3];omega
   ·cases hm
theorem ij:∀ {rs:List Rec} {s s':Stock},StOk s->bE rs s=some s'->∀ {u:Int},1<=u->hle (hAt s.hs u) (hAt s'.hs u)
 | [],s,s',_,e,u,_=>by simp only[bE,Option.some.injEq]at e;rw[e];exact hle.rfl' _
 | r::rs,s,s',h,e,u,hu=>by
  simp only[bE]at e
  split at e
  ·rename_i hc;simp only[Bool.and_eq_true]at hc
   exact(xl h.len hc.1 hc.2 hu).trans (ij (nS h hc.1 hc.2) e hu)
  ·cases e
theorem p9{l:List Trip}{t u:Int}{x:Trip}(ht:1<=t/\(t-1).toNat<l.length)(hu:1<=u):tAt (l.set (t-1).toNat x) u=if u=t then x else tAt l u:=by
 unfold tAt
 rw[List.getElem?_set]
 by_cases e:u=t
 ·subst e;rw[if_pos rfl,if_pos ht.2,if_pos rfl];rfl
 ·rw[if_neg (by omega),if_neg e]
theorem zj{l:List Trip}{t:Int}(h:(l.length:Int)<t):tAt l t=⟨[],0⟩:=by
 unfold tAt;rw[List.getElem?_eq_none (by omega)];rfl
theorem zk{l:List Trip}{x:Trip}{t:Int}(ht:1<=t):tAt (l++[x]) t=if t=l.length+1 then x else tAt l t:=by
 unfold tAt
 by_cases e:t=l.length+1
 ·subst e;simp
 ·rw[if_neg e]
  by_cases h:(t-1).toNat<l.length
  ·rw[List.getElem?_append_left h]
  ·rw[List.getElem?_eq_none (by simp;omega),List.getElem?_eq_none (by omega)]
theorem iB{l:List Trip}{r:Rec}(hr:aF r=true)(hm:cg l r=true){u:Int}(hu:1<=u) :
  tAt (cv l r) u=if u=r.t then(if r.k=4 then⟨r.m,1⟩ else if r.k=5 then⟨(tAt l r.t).m,2⟩ else if r.k=6 then⟨(tAt l r.t).m,3⟩ else⟨(tAt l r.t).m,(tAt l r.t).s+2⟩) else tAt l u:=by
 have ht:=cE hr
 have hk:=BS hr
 simp only[cg]at hm
 unfold cv
 split at hm
 ·rename_i h4
  simp only[beq_iff_eq]at hm
  rw[if_pos h4,zk hu,hm]
  by_cases e:u=l.length+1
  ·simp[e,h4]
  ·simp[e]
 ·rename_i h4
  split at hm
  ·cases hm
  rename_i hlt
  have hi:1<=r.t/\(r.t-1).toNat<l.length:=by omega
  rw[if_neg h4];simp only[h4,if_false]
  split
  ·rename_i h5;rw[p9 hi hu];try simp[*]
  ·split
   ·rename_i h5 h6;rw[p9 hi hu];try simp[*]
   ·split
    ·rename_i h5 h6 h7;rw[p9 hi hu];try simp[*]
    ·rename_i h5 h6 h7;exfalso
     simp only[h5,h6,h7,or_self,if_false]at hm;cases hm
theorem jH{l:List Trip}{r:Rec}(hr:aF r=true)(hm:cg l r=true) :
  (r.k=4/\r.t=l.length+1)\/(1<=r.t/\r.t<=l.length/\((r.k=5\/r.k=6)/\(tAt l r.t).s=1\/r.k=7/\((tAt l r.t).s=2\/(tAt l r.t).s=3))):=by
 have ht:=cE hr
 simp only[cg]at hm
 split at hm
 ·rename_i h4;simp only[beq_iff_eq]at hm;exact .inl ⟨h4,hm⟩
 ·split at hm
  ·cases hm
  rename_i hlt
  split at hm
  ·rename_i h;simp only[beq_iff_eq]at hm;exact .inr ⟨ht.1,by omega,.inl ⟨h,hm⟩⟩
  ·split at hm
   ·rename_i h;simp only[Bool.or_eq_true,beq_iff_eq]at hm;exact .inr ⟨ht.1,by omega,.inr ⟨h,hm⟩⟩
   ·cases hm
theorem ss{l:List Trip}{r:Rec}(hr:aF r=true)(hm:cg l r=true){u:Int}(hu:1<=u)(hl:u<=l.length):tle (tAt l u) (tAt (cv l r) u):=by
 rw[iB hr hm hu]
 split
 case isFalse=>exact tle.rfl' _
 rename_i e;subst e
 rcases jH hr hm with ⟨_,h⟩|⟨_,_,⟨h,h1⟩|⟨h,h1⟩⟩
 ·omega
 ·rw[if_neg (by omega)]
  rcases h with h|h
  ·rw[if_pos h];exact⟨rfl,.inr (.inl ⟨h1,by simp,by simp⟩)⟩
  ·rw[if_neg (by omega),if_pos h];exact⟨rfl,.inr (.inl ⟨h1,by simp,by simp⟩)⟩
 ·rw[if_neg (by omega),if_neg (by omega),if_neg (by omega)]
  refine⟨rfl,?_⟩
  simp only;omega
structure tpre (l l':List Trip):Prop where
 len:l.length<=l'.length
 le:∀ u:Int,1<=u->u<=l.length->tle (tAt l u) (tAt l' u)
theorem tpre.rfl'(l:List Trip):tpre l l:=⟨Nat.le_refl _,fun _ _ _=>tle.rfl' _⟩
theorem tpre.trans{a b c:List Trip}(h1:tpre a b)(h2:tpre b c):tpre a c :=
 ⟨Nat.le_trans h1.len h2.len,fun u hu hl=>(h1.le u hu hl).trans (h2.le u hu (by have:=h1.len;omega))⟩
theorem il:∀ {rs:List Rec} {l l':List Trip},bN rs l=some l'->tpre l l'
 | [],l,l',e=>by simp only[bN,Option.some.injEq]at e;rw[e];exact tpre.rfl' _
 | r::rs,l,l',e=>by
  simp only[bN]at e
  split at e
  ·rename_i hc;simp only[Bool.and_eq_true]at hc
   exact tpre.trans ⟨by rw[fW];split<;>omega,fun u hu hl=>ss hc.1 hc.2 hu hl⟩ (il e)
  ·cases e
def rk(t:Trip):Nat:=if t.s=1 then 1 else if t.s=2\/t.s=3 then 2 else 3
theorem su{α:Type}{l:List α}{i:Nat}{a:α}(f:α->Nat)(hi:i<l.length):((l.set i a).map f).sum+f l[i]=(l.map f).sum+f a:=by
 induction l generalizing i with
 | nil=>simp at hi
 | cons x xs ih=>cases i with
  | zero=>simp;omega
  | succ i=>simp only[List.length_cons]at hi;simp only[List.set_cons_succ,List.map_cons,List.sum_cons,List.getElem_cons_succ];have:=ih (i:=i) (by omega);omega
theorem BX{l:List Trip}{r:Rec}(hr:aF r=true)(hm:cg l r=true):((cv l r).map rk).sum=(l.map rk).sum+1:=by
 rcases jH hr hm with ⟨h4,h⟩|⟨h1,h2,h⟩
 ·simp[cv,h4,rk]
 ·have hi:(r.t-1).toNat<l.length:=by omega
  have key:∀ x:Trip,rk x=rk (tAt l r.t)+1->((l.set (r.t-1).toNat x).map rk).sum=(l.map rk).sum+1:=by
   intro x hx
   have:=su rk hi (a:=x)
   rw[wQ hi]at hx;omega
  have n4:r.k≠4:=by omega
  rcases h with ⟨h5|h6,h⟩|⟨h7,h⟩
  ·simp only[cv,n4,h5,if_true,if_false];exact key _ (by simp[rk,h])
  ·simp only[cv,n4,h6,if_true,if_false];exact key _ (by simp[rk,h])
  ·simp only[cv,n4,h7,if_true,if_false]
   have:¬ ((7:Int)=5)/\¬ ((7:Int)=6)/\¬ ((7:Int)=4):=by omega
   simp only[this,if_false]
   refine key _ ?_
   rcases h with h|h<;>simp[rk,h]
theorem sw:∀ {rs:List Rec} {l l':List Trip},bN rs l=some l'->(l'.map rk).sum=(l.map rk).sum+rs.length
 | [],l,l',e=>by simp only[bN,Option.some.injEq]at e;rw[e];simp
 | r::rs,l,l',e=>by
  simp only[bN]at e
  split at e
  ·rename_i hc;simp only[Bool.and_eq_true]at hc
   rw[sw e,BX hc.1 hc.2];simp;omega
  ·cases e
theorem rk_le(t:Trip):rk t<=3:=by
 unfold rk
 split
 ·omega
 ·split<;>omega
theorem yf(l:List Trip):(l.map rk).sum<=3*l.length:=by
 induction l with
 | nil=>simp
 | cons x xs ih=>have:=rk_le x;simp;omega
theorem rT{rs:List Rec}{l:List Trip}(h:bb rs=some l):rs.length<=3*l.length:=by
 have:=sw h
 have:=yf l
 simp at *;omega
theorem DkOk.len{d:Desk}(h:DkOk d):d.lg.rs.length<=3*(ak d false).length:=rT h.tr
theorem DkOk.len18{d:Desk}(h:DkOk d):d.lg.rs.length<=18:=by have:=h.len;have:=(h.trOk false).len;omega
def hrk(h:Hold):Nat:=if h.s=0 then 0 else if h.s=1 then 1 else 2
theorem BY{s:Stock}{r:Rec}(hs:StOk s)(hr:aF r=true)(hm:may s r=true):(s.hs.map hrk).sum+1<=((act s r).hs.map hrk).sum:=by
 have ht:=cE hr
 have hi:(r.t-1).toNat<s.hs.length:=by rw[hs.len];omega
 have:=su hrk hi (a:=jW (hAt s.hs r.t) r)
 rw[<-rh hi]at this
 have key:hrk (hAt s.hs r.t)+1<=hrk (jW (hAt s.hs r.t) r):=by
  simp only[may,fI]at hm
  unfold jW
  split at hm
  ·rename_i h1;simp only[Bool.and_eq_true,beq_iff_eq]at hm;simp[h1,hrk,hm]
  ·split at hm
   ·rename_i h1 h2;simp only[beq_iff_eq]at hm;simp[h1,h2,hrk,hm]
   ·split at hm
    ·rename_i h1 h2 h3;simp only[Bool.or_eq_true,beq_iff_eq]at hm
     rcases hm with hm|hm<;>simp[h1,h2,h3,hrk,hm]
    ·cases hm
 simp only[act];omega
theorem pj:∀ {rs:List Rec} {s s':Stock},StOk s->bE rs s=some s'->(s.hs.map hrk).sum+rs.length<=(s'.hs.map hrk).sum
 | [],s,s',_,e=>by simp only[bE,Option.some.injEq]at e;rw[e];simp
 | r::rs,s,s',h,e=>by
  simp only[bE]at e
  split at e
  ·rename_i hc;simp only[Bool.and_eq_true]at hc
   have:=pj (nS h hc.1 hc.2) e
   have:=BY h hc.1 hc.2
   simp;omega
  ·cases e
theorem u7(l:List Hold):(l.map hrk).sum<=2*l.length:=by
 induction l with
 | nil=>simp
 | cons x xs ih =>
  have:hrk x<=2:=by
   unfold hrk
   split
   ·omega
   ·split<;>omega
  simp;omega
theorem HsOk.len{h:House}(ho:HsOk h):h.lg.rs.length<=12:=by
 obtain⟨s,e⟩:=ho.st
 obtain⟨h1,h2⟩:=stockOf_some.1 e
 have:=pj (fq h1) h2
 have h3:=u7 s.hs
 rw[(iV e).1.len]at h3
 omega
theorem sx:∀(n:Nat) (l:List Nat),l.Nodup->(∀ x∈l,x<n)->l.length<=n
 | 0,l,_,h=>by
  cases l with
  | nil=>simp
  | cons x xs=>have:=h x (by simp);omega
 | n+1,l,hn,h=>by
  have h1:=sx n (l.erase n) (hn.erase n) (fun x hx=>by
   have h2:=(hn.mem_erase_iff).1 hx
   have:=h x h2.2
   have:=h2.1
   omega)
  have h2:=List.length_erase (a:=n) (l:=l)
  split at h2<;>omega
theorem pl{α β:Type}{f:α->β}:∀ {l:List α},l.Nodup->(∀ x∈l,∀ y∈l,f x=f y->x=y)->(l.map f).Nodup
 | [],_,_=>by simp
 | a::l,hn,h=>by
  rw[List.nodup_cons]at hn
  rw[List.map_cons,List.nodup_cons]
  refine⟨fun hm=>?_,pl hn.2 (fun x hx y hy=>h x (by simp[hx]) y (by simp[hy]))⟩
  obtain⟨y,hy,e⟩:=List.mem_map.1 hm
  have:=h y (by simp[hy]) a (by simp) e
  exact hn.1 (this ▸ hy)
theorem DkOk.tdlen{d:Desk}(h:DkOk d):d.td.length<=72:=by
 have:=sx 72 (d.td.map fun w=>((w.k-4)*18+(w.h-1)*6+(w.t-1)).toNat) (pl h.nd (fun x hx y hy e=>by
  obtain⟨a,b,_⟩:=h.td x hx
  obtain⟨c,d,_⟩:=h.td y hy
  have:=a.h;have:=a.t;have:=a.k;have:=c.h;have:=c.t;have:=c.k
  have m1:=a.m0 (by omega)
  have m2:=c.m0 (by omega)
  obtain⟨k,hh,t,m⟩:=x
  obtain⟨k',hh',t',m'⟩:=y
  simp only at *
  subst m1;subst m2
  have:(k-4)*18+(hh-1)*6+(t-1)=(k'-4)*18+(hh'-1)*6+(t'-1):=by omega
  have:k=k'/\hh=hh'/\t=t':=by omega
  simp[this])) (fun x hx=>by
  obtain⟨y,hy,rfl⟩:=List.mem_map.1 hx
  obtain⟨a,b,_⟩:=h.td y hy
  have:=a.h;have:=a.t;have:=a.k
  omega)
 simpa using this
theorem eD(td:List Word)(s t:Int):∀(ns:List Int) (h:Int),(bh td s t h ns).length<=ns.length
 | [],h=>by simp[bh]
 | n::ns,h=>by
  have:=eD td s t ns (h+1)
  simp only[bh,gH,List.length_append,List.length_cons]
  split
  ·simp;omega
  ·simp only[List.length_cons,List.length_nil];omega
theorem iZ(td:List Word):∀(l:List Trip) (t:Int),(∀ x∈l,x.m.length<=3)->(di td t l).length<=3*l.length
 | [],t,_=>by simp[di]
 | x::xs,t,hx=>by
  have h1:=iZ td xs (t+1) (fun y hy=>hx y (by simp[hy]))
  have h2:=hx x (by simp)
  have h3:=eD td x.s t x.m 1
  simp only[di,List.length_append,List.length_cons]
  split
  ·simp;omega
  ·omega
theorem me{d:Desk}(h:DkOk d):(bI d).length<=18:=by
 unfold bI
 split
 ·have tF:=h.trOk true
  have:=iZ d.td (ak d true) 1 (fun x hx=>by have:=bc (tripOk_iff.1 (tF.ok x hx)).1;omega)
  have:=tF.len
  omega
 ·simp
theorem BZ{l:Log}{r:Rec}(h:l.rs.length<40):dA l r=⟨l.rs++[r],l.f⟩:=by simp[dA];omega
end Dx
namespace Dx
structure V where
 F:List Trip
 A:List Trip
 td:List Word
 ns:List Word
 hF:Int->Int->Hold
 hA:Int->Int->Hold
def V.sF(v:V)(t:Int):Int:=(tAt v.F t).s
def V.sA(v:V)(t:Int):Int:=(tAt v.A t).s
def mAt(m:List Int)(h:Int):Int:=(m[(h-1).toNat]?).getD 0
def V.want(v:V)(t h:Int):Int:=mAt (tAt v.F t).m h
structure NetOk (v:V) (x:Word):Prop where
 s:v.sF x.t≠0
 w:0<v.want x.t x.h
 k1:x.k=1->x.m=v.want x.t x.h
 k2:x.k=2->v.sF x.t=2\/v.sF x.t=4
 k3:x.k=3->v.sF x.t=3\/v.sF x.t=5
 k4:x.k=4->(v.hF x.h x.t).s≠0
 k6:x.k=6->(v.hF x.h x.t).s=2
 k7:x.k=7->(v.hF x.h x.t).s=3
structure HoldFit (v:V) (h t:Int):Prop where
 s:v.sF t≠0
 w:0<v.want t h
 m:(v.hA h t).s≠3->(v.hA h t).m=v.want t h
 m3:(v.hA h t).s=3->(v.hA h t).m=v.want t h\/(v.hA h t).m=0
 c:(v.hA h t).s=2->v.sF t=2\/v.sF t=4
 u:(v.hA h t).s=3->v.sF t=3\/v.sF t=5
def isH(h:Int):Prop:=1<=h/\h<=3
def isT(t:Int):Prop:=1<=t/\t<=6
structure TripFit (v:V) (t:Int):Prop where
 yes:v.sA t=2\/v.sA t=4->v.sF t≠0/\∀ h,isH h->0<v.want t h->(v.hF h t).s=1\/(v.hF h t).s=2
 kept:v.sA t=4->∀ h,isH h->0<v.want t h->(v.hF h t).s=2
 left:v.sA t=5->v.sF t≠0/\∀ h,isH h->0<v.want t h->(v.hF h t).s=3
 d1:v.sA t=1->bf v.td t 5 1 (tAt v.A t).m=false/\aA v.td t 4 1 (tAt v.A t).m=false
 d2:v.sA t=2->aA v.td t 6 1 (tAt v.A t).m=false
 d3:v.sA t=3->aA v.td t 7 1 (tAt v.A t).m=false
structure Base (v:V):Prop where
 pre:tpre v.F v.A
 trA:TrOk v.A
 hle:∀ h t,isH h->isT t->hle (v.hF h t) (v.hA h t)
 okA:∀ h t,isH h->isT t->bg (v.hA h t)=true
 okF:∀ h t,isH h->isT t->bg (v.hF h t)=true
 tdo:∀ x∈v.td,WdOk x/\4<=x.k
 nso:∀ x∈v.ns,WdOk x
 net:∀ x∈v.ns,NetOk v x
 told:∀ x∈v.td,NetOk v x
 hold:∀ h t,isH h->isT t->(v.hA h t).s≠0->HoldFit v h t
structure Inv (v:V):Prop extends Base v where
 trip:∀ t,isT t->TripFit v t
theorem ri{m:List Int}{h:Int}(hl:(h-1).toNat<m.length):mAt m h=m[(h-1).toNat]:=by unfold mAt;rw[List.getElem?_eq_getElem hl];rfl
theorem ft{td:List Word}{t k:Int}:∀ {m:List Int} {h:Int},aA td t k h m=true↔∀(j:Nat) (n:Int),m[j]?=some n->0<n->(⟨k,h+j,t,0⟩:Word)∈td
 | [],h=>by simp[aA]
 | n::ns,h=>by
  simp only[aA,Bool.and_eq_true,ft (m:=ns),Bool.or_eq_true,Bool.not_eq_true',decide_eq_false_iff_not,List.contains_eq_mem,decide_eq_true_eq]
  constructor
  ·rintro⟨h1,h2⟩ j x hj hx
   cases j with
   | zero=>simp at hj;subst hj;simpa using h1.resolve_left (by omega)
   | succ j =>
    have:=h2 j x (by simpa using hj) hx
    rwa [show h+1+(j:Int)=h+((j+1:Nat):Int) by omega]at this
  ·intro hh
   refine⟨?_,fun j x hj hx=>?_⟩
   ·by_cases hn:n>0
    ·right;have:=hh 0 n rfl hn;simpa using this
    ·left;exact hn
   ·have:=hh (j+1) x (by simpa using hj) hx
    rwa [show h+((j+1:Nat):Int)=h+1+(j:Int) by omega]at this
theorem toldAny_iff{td:List Word}{t k:Int}:∀ {m:List Int} {h:Int},bf td t k h m=true↔∃(j:Nat) (n:Int),m[j]?=some n/\0<n/\(⟨k,h+j,t,0⟩:Word)∈td
 | [],h=>by simp[bf]
 | n::ns,h=>by
  simp only[bf,Bool.or_eq_true,toldAny_iff (m:=ns),Bool.and_eq_true,decide_eq_true_eq,List.contains_eq_mem]
  constructor
  ·rintro(⟨h1,h2⟩|⟨j,x,h1,h2,h3⟩)
   ·exact⟨0,n,rfl,h1,by simpa using h2⟩
   ·refine⟨j+1,x,by simpa using h1,h2,?_⟩
    rwa [show h+((j+1:Nat):Int)=h+1+(j:Int) by omega]
  ·rintro⟨j,x,h1,h2,h3⟩
   cases j with
   | zero=>simp at h1;subst h1;left;exact⟨h2,by simpa using h3⟩
   | succ j =>
    right;refine⟨j,x,by simpa using h1,h2,?_⟩
    rwa [show h+1+(j:Int)=h+((j+1:Nat):Int) by omega]
theorem kj{td:List Word}{t k:Int}{m:List Int}(hm:m.length=3):aA td t k 1 m=true↔∀ h,isH h->0<mAt m h->(⟨k,h,t,0⟩:Word)∈td:=by
 rw[ft]
 constructor
 ·intro hh h ⟨h1,h2⟩ hw
  have hl:(h-1).toNat<m.length:=by omega
  have:=hh (h-1).toNat m[(h-1).toNat] (by simp[hl]) (by rw[<-ri hl];exact hw)
  rwa [show 1+(((h-1).toNat:Nat):Int)=h by omega]at this
 ·intro hh j n hj hn
  have hl:=(List.getElem?_eq_some_iff.1 hj).1
  refine hh (1+j) ⟨by omega,by omega⟩ ?_
  have:(1+(j:Int)-1).toNat=j:=by omega
  simp[mAt,this,hj,hn]
theorem yg{td:List Word}{t k:Int}{m:List Int}(hm:m.length=3):bf td t k 1 m=true↔∃ h,isH h/\0<mAt m h/\(⟨k,h,t,0⟩:Word)∈td:=by
 rw[toldAny_iff]
 constructor
 ·rintro⟨j,n,hj,hn,h⟩
  have hl:=(List.getElem?_eq_some_iff.1 hj).1
  refine⟨1+j,⟨by omega,by omega⟩,?_,h⟩
  have:(1+(j:Int)-1).toNat=j:=by omega
  simp[mAt,this,hj,hn]
 ·rintro⟨h,⟨h1,h2⟩,hw,hh⟩
  have hl:(h-1).toNat<m.length:=by omega
  refine⟨(h-1).toNat,m[(h-1).toNat],by simp[hl],by rw[<-ri hl];exact hw,?_⟩
  rwa [show 1+(((h-1).toNat:Nat):Int)=h by omega]
theorem gR{m:List Int}(h:cQ m=true):∃ x,isH x/\0<mAt m x:=by
 have hl:=bc h
 match m,hl with
 | [a,b,c],_ =>
  simp only[cQ,Bool.and_eq_true,List.all_cons,in_iff,decide_eq_true_eq]at h
  obtain⟨⟨ha,hb,hc,_⟩,_,hs⟩:=h
  simp at hs
  by_cases h1:0<a
  ·exact⟨1,⟨by omega,by omega⟩,by simpa [mAt] using h1⟩
  ·by_cases h2:0<b
   ·exact⟨2,⟨by omega,by omega⟩,by simpa [mAt] using h2⟩
   ·exact⟨3,⟨by omega,by omega⟩,by simp[mAt];omega⟩
section
variable {v:V}
theorem cp{l:List Trip}{t:Int}(h:(tAt l t).s≠0):(t-1).toNat<l.length:=by
 unfold tAt at h
 by_cases e:(t-1).toNat<l.length
 ·exact e
 ·rw[List.getElem?_eq_none (by omega)]at h;exact absurd rfl h
theorem Base.A_ok(I:Base v){t:Int}(h:v.sA t≠0):cQ (tAt v.A t).m=true/\1<=v.sA t/\v.sA t<=5 :=
 tripOk_iff.1 (I.trA.ok _ (fa (cp h)))
theorem Base.FA(I:Base v){t:Int}(ht:1<=t)(h:v.sF t≠0):tle (tAt v.F t) (tAt v.A t):=I.pre.le t ht (by have:=cp h;omega)
theorem Base.FA_s(I:Base v){t:Int}(ht:1<=t)(h:v.sF t≠0):v.sA t=v.sF t\/(v.sF t=1/\2<=v.sA t/\v.sA t<=5)\/(v.sF t=2/\v.sA t=4)\/(v.sF t=3/\v.sA t=5):=(I.FA ht h).2
theorem Base.FA_m(I:Base v){t:Int}(ht:1<=t)(h:v.sF t≠0)(x:Int):mAt (tAt v.A t).m x=v.want t x:=by rw[V.want,(I.FA ht h).1]
theorem Base.F_rng(I:Base v){t:Int}(ht:1<=t)(h:v.sF t≠0):1<=v.sF t/\v.sF t<=5:=by
 have h1:=I.FA_s ht h
 have h2:v.sA t≠0:=by omega
 have:=(I.A_ok h2).2
 omega
theorem Base.mem_told(I:Base v){t h k:Int}(hm:(⟨k,h,t,0⟩:Word)∈v.td):NetOk v ⟨k,h,t,0⟩:=I.told _ hm
end
structure Fwd (v v':V):Prop where
 F:tpre v.F v'.F
 h:∀ h t,isH h->isT t->hle (v.hF h t) (v'.hF h t)
theorem Fwd.sF{v v':V}(g:Fwd v v'){t:Int}(ht:1<=t)(h:v.sF t≠0):v'.sF t≠0/\(v.sF t=2\/v.sF t=4->v'.sF t=2\/v'.sF t=4)/\(v.sF t=3\/v.sF t=5->v'.sF t=3\/v'.sF t=5)/\∀ x,v'.want t x=v.want t x:=by
 have:=g.F.le t ht (by have:=cp h;omega)
 obtain⟨h1,h2⟩:=this
 unfold V.sF at *
 refine⟨by omega,by omega,by omega,fun x=>by unfold V.want;rw[h1]⟩
theorem NetOk.fwd{v v':V}(g:Fwd v v'){x:Word}(hx:WdOk x)(h:NetOk v x):NetOk v' x:=by
 obtain⟨f1,f2,f3,f4⟩:=g.sF hx.t.1 h.s
 have hh:=g.h x.h x.t hx.h hx.t
 refine⟨f1,by rw[f4];exact h.w,fun e=>by rw[f4];exact h.k1 e,fun e=>f2 (h.k2 e),fun e=>f3 (h.k3 e),fun e=>?_,fun e=>?_,fun e=>?_⟩
 ·have:=h.k4 e;unfold hle at hh;omega
 ·have:=h.k6 e;unfold hle at hh;omega
 ·have:=h.k7 e;unfold hle at hh;omega
end Dx
namespace Dx
theorem NetOk.congr{v v':V}{x:Word}(hF:tAt v'.F x.t=tAt v.F x.t)(hh:v'.hF x.h x.t=v.hF x.h x.t)(h:NetOk v x):NetOk v' x:=by
 have e1:v'.sF x.t=v.sF x.t:=by unfold V.sF;rw[hF]
 have e2:v'.want x.t x.h=v.want x.t x.h:=by unfold V.want;rw[hF]
 exact⟨by rw[e1];exact h.s,by rw[e2];exact h.w,by rw[e2];exact h.k1,by rw[e1];exact h.k2,by rw[e1];exact h.k3,by rw[hh];exact h.k4,by rw[hh];exact h.k6,by rw[hh];exact h.k7⟩
theorem HoldFit.congr{v v':V}{h t:Int}(hF:tAt v'.F t=tAt v.F t)(hh:v'.hA h t=v.hA h t)(g:HoldFit v h t):HoldFit v' h t:=by
 have e1:v'.sF t=v.sF t:=by unfold V.sF;rw[hF]
 have e2:v'.want t h=v.want t h:=by unfold V.want;rw[hF]
 exact⟨by rw[e1];exact g.s,by rw[e2];exact g.w,by rw[e2,hh];exact g.m,by rw[e2,hh];exact g.m3,by rw[e1,hh];exact g.c,by rw[e1,hh];exact g.u⟩
theorem TripFit.congr{v v':V}{t:Int}(hA:tAt v'.A t=tAt v.A t)(hF:tAt v'.F t=tAt v.F t)(hh:∀ h,isH h->v'.hF h t=v.hF h t)
  (htd:∀ k h,(⟨k,h,t,0⟩:Word)∈v'.td↔(⟨k,h,t,0⟩:Word)∈v.td) (g:TripFit v t):TripFit v' t:=by
 have e1:v'.sF t=v.sF t:=by unfold V.sF;rw[hF]
 have e2:∀ h,v'.want t h=v.want t h:=fun h=>by unfold V.want;rw[hF]
 have e3:v'.sA t=v.sA t:=by unfold V.sA;rw[hA]
 have all:∀ k m,aA v'.td t k 1 m=aA v.td t k 1 m:=fun k m=>by
  rw[Bool.eq_iff_iff,ft,ft];simp only[htd]
 have any:∀ k m,bf v'.td t k 1 m=bf v.td t k 1 m:=fun k m=>by
  rw[Bool.eq_iff_iff,toldAny_iff,toldAny_iff];simp only[htd]
 refine⟨fun h=>?_,fun h x hx hw=>?_,fun h=>?_,fun h=>?_,fun h=>?_,fun h=>?_⟩
 ·have:=g.yes (by rwa [e3]at h)
  exact⟨by rw[e1];exact this.1,fun x hx hw=>by rw[hh x hx];exact this.2 x hx (by rwa [e2]at hw)⟩
 ·rw[hh x hx];exact g.kept (by rwa [e3]at h) x hx (by rwa [e2]at hw)
 ·have:=g.left (by rwa [e3]at h)
  exact⟨by rw[e1];exact this.1,fun x hx hw=>by rw[hh x hx];exact this.2 x hx (by rwa [e2]at hw)⟩
 ·rw[hA,all,any];exact g.d1 (by rwa [e3]at h)
 ·rw[hA,all];exact g.d2 (by rwa [e3]at h)
 ·rw[hA,all];exact g.d3 (by rwa [e3]at h)
section
variable {v:V}
theorem Base.all_told(I:Base v){t k:Int}(ht:isT t)(hs:v.sA t≠0)(h:aA v.td t k 1 (tAt v.A t).m=true) :
  v.sF t≠0/\(k=4->∀ h,isH h->0<v.want t h->(v.hF h t).s≠0)/\(k=6->(v.sF t=2\/v.sF t=4)/\∀ h,isH h->0<v.want t h->(v.hF h t).s=2)/\(k=7->(v.sF t=3\/v.sF t=5)/\∀ h,isH h->0<v.want t h->(v.hF h t).s=3):=by
 have hm:=(I.A_ok hs).1
 have hl:=bc hm
 rw[kj hl]at h
 obtain⟨x,hx,hw⟩:=gR hm
 have n0:=I.mem_told (h x hx hw)
 have hsF:v.sF t≠0:=n0.s
 have wm:=fun y=>I.FA_m ht.1 hsF y
 refine⟨hsF,fun hk y hy hwy=>?_,fun hk=>⟨?_,fun y hy hwy=>?_⟩,fun hk=>⟨?_,fun y hy hwy=>?_⟩⟩
 ·exact(I.mem_told (h y hy (by rw[wm];exact hwy))).k4 hk
 ·have h2:=n0.k6 hk
  have:=I.hle x t hx ht
  exact(I.hold x t hx ht (by unfold Dx.hle at this;simp only at h2;omega)).c (by unfold Dx.hle at this;simp only at h2;omega)
 ·exact(I.mem_told (h y hy (by rw[wm];exact hwy))).k6 hk
 ·have h2:=n0.k7 hk
  have:=I.hle x t hx ht
  exact(I.hold x t hx ht (by unfold Dx.hle at this;simp only at h2;omega)).u (by unfold Dx.hle at this;simp only at h2;omega)
 ·exact(I.mem_told (h y hy (by rw[wm];exact hwy))).k7 hk
theorem zl{l:List Trip}{r:Rec}(hr:aF r=true)(hm:cg l r=true):tpre l (cv l r) :=
 ⟨by rw[fW];split<;>omega,fun _ hu hl=>ss hr hm hu hl⟩
theorem Base.write(I:Base v){r:Rec}(hr:aF r=true)(hm:cg v.A r=true):Base {v with A:=cv v.A r} :=
 ⟨I.pre.trans (zl hr hm),l9 I.trA hr hm,I.hle,I.okA,I.okF,I.tdo,I.nso,fun x hx=>NetOk.congr (v:=v) rfl rfl (I.net x hx),fun x hx=>NetOk.congr (v:=v) rfl rfl (I.told x hx),fun h t hh htt hs=>HoldFit.congr (v:=v) rfl rfl (I.hold h t hh htt hs)⟩
theorem TripFit.other{v:V}{r:Rec}(hr:aF r=true)(hm:cg v.A r=true){t:Int}(ht:isT t)(e:t≠r.t)(h:TripFit v t):TripFit {v with A:=cv v.A r} t :=
 TripFit.congr (v:=v) (by simp only;rw[iB hr hm ht.1,if_neg e]) rfl (fun _ _=>rfl) (fun _ _=>Iff.rfl) h
theorem Base.no_told(I:Base v){t k:Int}(ht:isT t)(hk:k=6\/k=7)(hs:v.sA t=1):aA v.td t k 1 (tAt v.A t).m=false:=by
 cases e:aA v.td t k 1 (tAt v.A t).m with
 | false=>rfl
 | true =>
  exfalso
  obtain⟨h1,_,h6,h7⟩:=I.all_told ht (by omega) e
  have:=I.FA_s ht.1 h1
  rcases hk with hk|hk
  ·have:=(h6 hk).1;omega
  ·have:=(h7 hk).1;omega
theorem Base.begin_fit(I:Base v){r:Rec}(hr:aF r=true)(hm:cg v.A r=true)(h4:r.k=4):TripFit {v with A:=cv v.A r} r.t:=by
 have hrt:=cE hr
 have hlen:r.t=v.A.length+1:=by simpa [cg,h4] using hm
 have ea:tAt (cv v.A r) r.t=⟨r.m,1⟩:=by rw[iB hr hm hrt.1];simp[h4]
 have es:V.sA {v with A:=cv v.A r} r.t=1:=by unfold V.sA;rw[ea]
 have non:∀ k h,(⟨k,h,r.t,0⟩:Word)∉v.td:=fun k h hx=>by
  have hs:=(I.mem_told hx).s
  have:=cp hs
  have:=I.pre.len
  simp only at *;omega
 refine⟨fun h=>by rw[es]at h;omega,fun h=>by rw[es]at h;omega,fun h=>by rw[es]at h;omega,fun _=>?_,fun h=>by rw[es]at h;omega,fun h=>by rw[es]at h;omega⟩
 simp only[ea]
 have hm:=gQ hr h4
 have hl:=bc hm
 constructor
 ·cases e:bf v.td r.t 5 1 r.m with
  | false=>rfl
  | true=>obtain⟨h,_,_,hx⟩:=(yg hl).1 e;exact absurd hx (non _ _)
 ·cases e:aA v.td r.t 4 1 r.m with
  | false=>rfl
  | true =>
   obtain⟨h,hh,hw⟩:=gR hm
   exact absurd ((kj hl).1 e h hh hw) (non _ _)
theorem Base.no_fit(I:Base v){t:Int}(ht:isT t)(hs:v.sA t=1):cg v.A ⟨6,t,[]⟩=true/\TripFit {v with A:=cv v.A ⟨6,t,[]⟩} t:=by
 have hr:aF ⟨6,t,[]⟩=true:=by simp[aF,in_iff,ht.1,ht.2]
 have hl:=cp (l:=v.A) (t:=t) (by unfold V.sA at hs;omega)
 have h1:=ht.1
 have hs':(tAt v.A t).s=1:=hs
 have hm:cg v.A ⟨6,t,[]⟩=true:=by simp only[cg];rw[if_neg (by omega),if_neg (by omega)];simp[hs']
 refine⟨hm,?_⟩
 have ea:tAt (cv v.A ⟨6,t,[]⟩) t=⟨(tAt v.A t).m,3⟩:=by rw[iB hr hm ht.1];simp
 have es:V.sA {v with A:=cv v.A ⟨6,t,[]⟩} t=3:=by unfold V.sA;rw[ea]
 refine⟨fun h=>by simp only[es]at h;omega,fun h=>by simp only[es]at h;omega,fun h=>by simp only[es]at h;omega,fun h=>by simp only[es]at h;omega,fun h=>by simp only[es]at h;omega,fun _=>?_⟩
 simp only[ea]
 exact I.no_told ht (.inr rfl) hs
theorem Base.not_undone(I:Base v){t h:Int}(ht:isT t)(hh:isH h)(hs:v.sA t=1\/v.sA t=2\/v.sA t=4):(v.hA h t).s≠3/\(v.hF h t).s≠3:=by
 have key:(v.hA h t).s≠3:=fun e=>by
  have g:=I.hold h t hh ht (by omega)
  have h1:=g.u e
  have h2:=I.FA_s ht.1 g.s
  omega
 refine⟨key,fun e=>?_⟩
 have:=I.hle h t hh ht
 unfold Dx.hle at this;omega
theorem sy{x:Hold}(h:bg x=true):0<=x.s/\x.s<=3:=by
 unfold bg at h
 split at h
 ·omega
 ·split at h
  ·omega
  ·split at h
   ·omega
   ·cases h
theorem Base.yes_fit(I:Base v){t:Int}(ht:isT t)(hs:v.sA t=1)(ha:aA v.td t 4 1 (tAt v.A t).m=true):cg v.A ⟨5,t,[]⟩=true/\TripFit {v with A:=cv v.A ⟨5,t,[]⟩} t:=by
 have hr:aF ⟨5,t,[]⟩=true:=by simp[aF,in_iff,ht.1,ht.2]
 have hl:=cp (l:=v.A) (t:=t) (by unfold V.sA at hs;omega)
 have h1:=ht.1
 have hs':(tAt v.A t).s=1:=hs
 have hm:cg v.A ⟨5,t,[]⟩=true:=by simp only[cg];rw[if_neg (by omega),if_neg (by omega)];simp[hs']
 refine⟨hm,?_⟩
 have ea:tAt (cv v.A ⟨5,t,[]⟩) t=⟨(tAt v.A t).m,2⟩:=by rw[iB hr hm ht.1];simp
 have es:V.sA {v with A:=cv v.A ⟨5,t,[]⟩} t=2:=by unfold V.sA;rw[ea]
 obtain⟨k1,k2,_,_⟩:=I.all_told ht (by omega) ha
 refine⟨fun _=>⟨k1,fun h hh hw=>?_⟩,fun h=>by simp only[es]at h;omega,fun h=>by simp only[es]at h;omega,fun h=>by simp only[es]at h;omega,fun _=>?_,fun h=>by simp only[es]at h;omega⟩
 ·have g1:=k2 rfl h hh hw
  have g2:=(I.not_undone ht hh (.inl hs)).2
  have g3:=sy (I.okF h t hh ht)
  show (v.hF h t).s=1\/(v.hF h t).s=2
  omega
 ·simp only[ea]
  exact I.no_told ht (.inl rfl) hs
theorem Base.end_fit(I:Base v){t:Int}(ht:isT t)(h:v.sA t=2/\aA v.td t 6 1 (tAt v.A t).m=true\/v.sA t=3/\aA v.td t 7 1 (tAt v.A t).m=true):cg v.A ⟨7,t,[]⟩=true/\TripFit {v with A:=cv v.A ⟨7,t,[]⟩} t:=by
 have hr:aF ⟨7,t,[]⟩=true:=by simp[aF,in_iff,ht.1,ht.2]
 have hn:v.sA t≠0:=by omega
 have hl:=cp (l:=v.A) (t:=t) hn
 have h1:=ht.1
 have hs':(tAt v.A t).s=2\/(tAt v.A t).s=3:=by unfold V.sA at h;omega
 have hm:cg v.A ⟨7,t,[]⟩=true:=by simp only[cg];rw[if_neg (by omega),if_neg (by omega),if_neg (by omega),if_pos trivial];simpa using hs'
 refine⟨hm,?_⟩
 have ea:tAt (cv v.A ⟨7,t,[]⟩) t=⟨(tAt v.A t).m,(tAt v.A t).s+2⟩:=by rw[iB hr hm ht.1];simp
 have es:V.sA {v with A:=cv v.A ⟨7,t,[]⟩} t=v.sA t+2:=by unfold V.sA;rw[ea]
 rcases h with ⟨hs,ha⟩|⟨hs,ha⟩
 ·obtain⟨k1,_,k6,_⟩:=I.all_told ht hn ha
  exact⟨fun _=>⟨k1,fun h hh hw=>.inr ((k6 rfl).2 h hh hw)⟩,fun _ h hh hw=>(k6 rfl).2 h hh hw,fun h=>by simp only[es]at h;omega,fun h=>by simp only[es]at h;omega,fun h=>by simp only[es]at h;omega,fun h=>by simp only[es]at h;omega⟩
 ·obtain⟨k1,_,_,k7⟩:=I.all_told ht hn ha
  exact⟨fun h=>by simp only[es]at h;omega,fun h=>by simp only[es]at h;omega,fun _=>⟨k1,(k7 rfl).2⟩,fun h=>by simp only[es]at h;omega,fun h=>by simp only[es]at h;omega,fun h=>by simp only[es]at h;omega⟩
theorem Inv.begin(I:Inv v){r:Rec}(hr:aF r=true)(hm:cg v.A r=true)(h4:r.k=4):Inv {v with A:=cv v.A r} :=
 ⟨I.toBase.write hr hm,fun t ht=>if e:t=r.t then e ▸ I.begin_fit hr hm h4 else(I.trip t ht).other hr hm ht e⟩
theorem rj{k t:Int}(hk:k=5\/k=6\/k=7)(ht:isT t):aF ⟨k,t,[]⟩=true:=by
 rcases hk with e|e|e<;>subst e<;>simp[aF,in_iff,ht.1,ht.2]
theorem Inv.no(I:Inv v){t:Int}(ht:isT t)(hs:v.sA t=1):Inv {v with A:=cv v.A ⟨6,t,[]⟩}:=by
 obtain⟨hm,hf⟩:=I.no_fit ht hs
 have hr:=rj (k:=6) (by omega) ht
 exact⟨I.toBase.write hr hm,fun u hu=>if e:u=t then e ▸ hf else(I.trip u hu).other hr hm hu e⟩
def V.kind(v:V)(t:Int):Int :=
 if v.sA t=1/\bf v.td t 5 1 (tAt v.A t).m then 6
 else if v.sA t=1/\aA v.td t 4 1 (tAt v.A t).m then 5
 else if v.sA t=2/\(t<=v.F.length/\v.sF t=v.sA t)/\aA v.td t 6 1 (tAt v.A t).m then 7
 else if v.sA t=3/\(t<=v.F.length/\v.sF t=v.sA t)/\aA v.td t 7 1 (tAt v.A t).m then 7
 else 0
def V.decide(v:V)(t:Int):V:=if v.kind t>0 then {v with A:=cv v.A ⟨v.kind t,t,[]⟩} else v
theorem Base.decide(I:Base v){t:Int}(ht:isT t)(hl:t<=v.A.length)(hy:v.sA t=2\/v.sA t=4->v.sF t≠0/\∀ h,isH h->0<v.want t h->(v.hF h t).s=1\/(v.hF h t).s=2)
  (hk:v.sA t=4->∀ h,isH h->0<v.want t h->(v.hF h t).s=2) (hf:v.sA t=5->v.sF t≠0/\∀ h,isH h->0<v.want t h->(v.hF h t).s=3)
  (ho:∀ u,isT u->u≠t->TripFit v u):Inv (v.decide t)/\(v.kind t>0->aF ⟨v.kind t,t,[]⟩=true/\cg v.A ⟨v.kind t,t,[]⟩=true):=by
 have done:∀ k,(k=5\/k=6\/k=7)->v.kind t=k->cg v.A ⟨k,t,[]⟩=true->TripFit {v with A:=cv v.A ⟨k,t,[]⟩} t->Inv (v.decide t)/\(v.kind t>0->aF ⟨v.kind t,t,[]⟩=true/\cg v.A ⟨v.kind t,t,[]⟩=true):=by
  intro k hk3 ek hm hfit
  have hr:=rj hk3 ht
  refine⟨?_,fun _=>by rw[ek];exact⟨hr,hm⟩⟩
  unfold V.decide
  rw[if_pos (by omega),ek]
  exact⟨I.write hr hm,fun u hu=>if e:u=t then e ▸ hfit else(ho u hu e).other hr hm hu e⟩
 by_cases c1:v.sA t=1/\bf v.td t 5 1 (tAt v.A t).m=true
 ·have:=I.no_fit ht c1.1
  exact done 6 (by omega) (by unfold V.kind;rw[if_pos c1]) this.1 this.2
 by_cases c2:v.sA t=1/\aA v.td t 4 1 (tAt v.A t).m=true
 ·have:=I.yes_fit ht c2.1 c2.2
  exact done 5 (by omega) (by unfold V.kind;rw[if_neg c1,if_pos c2]) this.1 this.2
 by_cases c3:v.sA t=2/\(t<=v.F.length/\v.sF t=v.sA t)/\aA v.td t 6 1 (tAt v.A t).m=true
 ·have:=I.end_fit ht (.inl ⟨c3.1,c3.2.2⟩)
  exact done 7 (by omega) (by unfold V.kind;rw[if_neg c1,if_neg c2,if_pos c3]) this.1 this.2
 by_cases c4:v.sA t=3/\(t<=v.F.length/\v.sF t=v.sA t)/\aA v.td t 7 1 (tAt v.A t).m=true
 ·have:=I.end_fit ht (.inr ⟨c4.1,c4.2.2⟩)
  exact done 7 (by omega) (by unfold V.kind;rw[if_neg c1,if_neg c2,if_neg c3,if_pos c4]) this.1 this.2
 have k0:v.kind t=0:=by unfold V.kind;rw[if_neg c1,if_neg c2,if_neg c3,if_neg c4]
 refine⟨?_,fun h=>by omega⟩
 unfold V.decide
 rw[if_neg (by omega)]
 refine⟨I,fun u hu=>if e:u=t then e ▸ ⟨hy,hk,hf,fun h=>?_,fun h=>?_,fun h=>?_⟩ else ho u hu e⟩
 ·constructor
  ·cases e:bf v.td t 5 1 (tAt v.A t).m with
   | false=>rfl
   | true=>exact absurd ⟨h,e⟩ c1
  ·cases e:aA v.td t 4 1 (tAt v.A t).m with
   | false=>rfl
   | true=>exact absurd ⟨h,e⟩ c2
 ·cases e:aA v.td t 6 1 (tAt v.A t).m with
  | false=>rfl
  | true =>
   exfalso
   obtain⟨h1,_,h6,_⟩:=I.all_told ht (by omega) e
   have h2:=(h6 rfl).1
   have h3:=I.FA_s ht.1 h1
   have h4:=cp h1
   have:=ht.1
   exact c3 ⟨h,⟨by omega,by omega⟩,e⟩
 ·cases e:aA v.td t 7 1 (tAt v.A t).m with
  | false=>rfl
  | true =>
   exfalso
   obtain⟨h1,_,_,h7⟩:=I.all_told ht (by omega) e
   have h2:=(h7 rfl).1
   have h3:=I.FA_s ht.1 h1
   have h4:=cp h1
   have:=ht.1
   exact c4 ⟨h,⟨by omega,by omega⟩,e⟩
theorem Inv.hear(I:Inv v){x:Word}(hx:WdOk x)(h4:4<=x.k)(hn:NetOk v x){td:List Word}(htd:td=v.td\/td=v.td++[x]) :
  Inv (V.decide {v with td:=td} x.t)/\(V.kind {v with td:=td} x.t>0->aF ⟨V.kind {v with td:=td} x.t,x.t,[]⟩=true/\cg v.A ⟨V.kind {v with td:=td} x.t,x.t,[]⟩=true):=by
 have mem:∀ y∈td,y∈v.td\/y=x:=fun y hy=>by
  rcases htd with e|e
  ·rw[e]at hy;exact .inl hy
  ·rw[e]at hy;simpa using hy
 have sub:∀ y∈v.td,y∈td:=fun y hy=>by
  rcases htd with e|e<;>rw[e]<;>simp[hy]
 have I1:Base {v with td:=td}:=⟨I.pre,I.trA,I.hle,I.okA,I.okF,fun y hy=>(mem y hy).elim (I.tdo y) (fun e=>e ▸ ⟨hx,h4⟩),I.nso,fun y hy=>NetOk.congr (v:=v) rfl rfl (I.net y hy),
  fun y hy=>NetOk.congr (v:=v) rfl rfl ((mem y hy).elim (I.told y) (fun e=>e ▸ hn)),fun h t hh ht hs=>HoldFit.congr (v:=v) rfl rfl (I.hold h t hh ht hs)⟩
 have ht:isT x.t:=hx.t
 have hl:x.t<=v.A.length:=by have:=cp hn.s;have:=I.pre.len;have:=ht.1;omega
 have old:=I.trip x.t ht
 refine I1.decide ht hl (fun h=>old.yes h) (fun h=>old.kept h) (fun h=>old.left h) fun u hu e=>?_
 refine TripFit.congr (v:=v) rfl rfl (fun _ _=>rfl) (fun k h=>⟨fun hm=>?_,fun hm=>sub _ hm⟩) (I.trip u hu)
 rcases mem _ hm with h1|h1
 ·exact h1
 ·exact absurd (congrArg Word.t h1) e
end
end Dx
namespace Dx
section
variable {v v':V}
theorem HoldFit.fwd(g:Fwd v v'){h t:Int}(ht:isT t)(hA:v'.hA h t=v.hA h t)(f:HoldFit v h t):HoldFit v' h t:=by
 obtain⟨f1,f2,f3,f4⟩:=g.sF ht.1 f.s
 exact⟨f1,by rw[f4];exact f.w,by rw[f4,hA];exact f.m,by rw[f4,hA];exact f.m3,by rw[hA];exact fun e=>f2 (f.c e),by rw[hA];exact fun e=>f3 (f.u e)⟩
theorem TripFit.fwd(I:Inv v)(g:Fwd v v')(hA:v'.A=v.A)(htd:v'.td=v.td)(hle':∀ h t,isH h->isT t->hle (v'.hF h t) (v.hA h t))(ok':∀ h t,isH h->isT t->bg (v'.hF h t)=true){t:Int}(ht:isT t):TripFit v' t:=by
 have f:=I.trip t ht
 have e3:v'.sA t=v.sA t:=by unfold V.sA;rw[hA]
 refine⟨fun h=>?_,fun h x hx hw=>?_,fun h=>?_,fun h=>?_,fun h=>?_,fun h=>?_⟩
 ·rw[e3]at h
  obtain⟨k1,k2⟩:=f.yes h
  obtain⟨f1,_,_,f4⟩:=g.sF ht.1 k1
  refine⟨f1,fun x hx hw=>?_⟩
  have h1:=k2 x hx (by rwa [f4]at hw)
  have h2:=g.h x t hx ht
  have h3:=hle' x t hx ht
  have h4:=(I.toBase.not_undone ht hx (by omega)).1
  unfold hle at h2 h3
  omega
 ·rw[e3]at h
  obtain⟨k1,_⟩:=f.yes (.inr h)
  obtain⟨f1,_,_,f4⟩:=g.sF ht.1 k1
  have h1:=f.kept h x hx (by rwa [f4]at hw)
  have h2:=g.h x t hx ht
  unfold hle at h2
  omega
 ·rw[e3]at h
  obtain⟨k1,k2⟩:=f.left h
  obtain⟨f1,_,_,f4⟩:=g.sF ht.1 k1
  refine⟨f1,fun x hx hw=>?_⟩
  have h1:=k2 x hx (by rwa [f4]at hw)
  have h2:=g.h x t hx ht
  unfold hle at h2
  omega
 ·rw[hA,htd];exact f.d1 (by rwa [e3]at h)
 ·rw[hA,htd];exact f.d2 (by rwa [e3]at h)
 ·rw[hA,htd];exact f.d3 (by rwa [e3]at h)
theorem Inv.fwd(I:Inv v)(g:Fwd v v')(hA:v'.A=v.A)(htd:v'.td=v.td)(hns:v'.ns=v.ns)(hhA:∀ h t,isH h->isT t->v'.hA h t=v.hA h t)(pre:tpre v'.F v.A)
  (hle':∀ h t,isH h->isT t->hle (v'.hF h t) (v.hA h t)) (ok':∀ h t,isH h->isT t->bg (v'.hF h t)=true):Inv v' :=
 ⟨⟨by rw[hA];exact pre,by rw[hA];exact I.trA,fun h t hh ht=>by rw[hhA h t hh ht];exact hle' h t hh ht,fun h t hh ht=>by rw[hhA h t hh ht];exact I.okA h t hh ht,ok',by rw[htd];exact I.tdo,by rw[hns];exact I.nso,
  by rw[hns];exact fun x hx=>(I.net x hx).fwd g (I.nso x hx),by rw[htd];exact fun x hx=>(I.told x hx).fwd g (I.tdo x hx).1,fun h t hh ht hs=>by
   rw[hhA h t hh ht]at hs
   exact(I.hold h t hh ht hs).fwd g ht (hhA h t hh ht)⟩,fun t ht=>TripFit.fwd I g hA htd hle' ok' ht⟩
theorem Inv.dfall(I:Inv v){B:List Trip}(h1:tpre v.F B)(h2:tpre B v.A)(hB:TrOk B):Inv {v with F:=B,A:=B,td:=[]}:=by
 have g:Fwd v {v with F:=B,A:=B,td:=[]}:=⟨h1,fun _ _ _ _=>hle.rfl' _⟩
 refine⟨⟨tpre.rfl' _,hB,I.hle,I.okA,I.okF,by simp,I.nso,fun x hx=>(I.net x hx).fwd g (I.nso x hx),by simp,fun h t hh ht hs=>(I.hold h t hh ht hs).fwd g ht rfl⟩,fun t ht=>?_⟩
 have f:=I.trip t ht
 have hBA:(tAt B t).s≠0->tle (tAt B t) (tAt v.A t):=fun h=>h2.le t ht.1 (by have:=cp h;have:=ht.1;omega)
 have none:∀ k,(tAt B t).s≠0->aA [] t k 1 (tAt B t).m=false:=fun k h=>by
  have hm:cQ (tAt B t).m=true:=(tripOk_iff.1 (hB.ok _ (fa (cp h)))).1
  cases e:aA [] t k 1 (tAt B t).m with
  | false=>rfl
  | true =>
   obtain⟨x,hx,hw⟩:=gR hm
   exact absurd ((kj (bc hm)).1 e x hx hw) (by simp)
 have want:v.sF t≠0->∀ x,V.want {v with F:=B,A:=B,td:=[]} t x=v.want t x:=fun h=>(g.sF ht.1 h).2.2.2
 refine⟨fun h=>?_,fun h x hx hw=>?_,fun h=>?_,fun h=>?_,fun h=>?_,fun h=>?_⟩
 ·have hs:(tAt B t).s=2\/(tAt B t).s=4:=h
  have:=(hBA (by omega)).2
  obtain⟨k1,k2⟩:=f.yes (by unfold V.sA;omega)
  exact⟨by show (tAt B t).s≠0;omega,fun x hx hw=>k2 x hx (by rwa [want k1]at hw)⟩
 ·have hs:(tAt B t).s=4:=h
  have:=(hBA (by omega)).2
  have h4:v.sA t=4:=by unfold V.sA;omega
  exact f.kept h4 x hx (by rwa [want (f.yes (.inr h4)).1]at hw)
 ·have hs:(tAt B t).s=5:=h
  have:=(hBA (by omega)).2
  have h5:v.sA t=5:=by unfold V.sA;omega
  obtain⟨k1,k2⟩:=f.left h5
  exact⟨by show (tAt B t).s≠0;omega,fun x hx hw=>k2 x hx (by rwa [want k1]at hw)⟩
 ·have hs:(tAt B t).s=1:=h
  refine⟨?_,none 4 (by omega)⟩
  cases e:bf [] t 5 1 (tAt B t).m with
  | false=>rfl
  | true =>
   obtain⟨j,n,_,_,hx⟩:=toldAny_iff.1 e
   exact absurd hx (by simp)
 ·have hs:(tAt B t).s=2:=h
  exact none 6 (by omega)
 ·have hs:(tAt B t).s=3:=h
  exact none 7 (by omega)
theorem Inv.nets(I:Inv v){ns:List Word}(h:∀ x∈ns,WdOk x/\NetOk v x):Inv {v with ns:=ns} :=
 ⟨⟨I.pre,I.trA,I.hle,I.okA,I.okF,I.tdo,fun x hx=>(h x hx).1,fun x hx=>NetOk.congr (v:=v) rfl rfl (h x hx).2,fun x hx=>NetOk.congr (v:=v) rfl rfl (I.told x hx),fun a t hh ht hs=>HoldFit.congr (v:=v) rfl rfl (I.hold a t hh ht hs)⟩,
  fun t ht=>TripFit.congr (v:=v) rfl rfl (fun _ _=>rfl) (fun _ _=>Iff.rfl) (I.trip t ht)⟩
theorem Inv.hwrite(I:Inv v)(hF:v'.F=v.F)(hA:v'.A=v.A)(htd:v'.td=v.td)(hns:v'.ns=v.ns)(hhF:∀ h t,isH h->isT t->v'.hF h t=v.hF h t)(hhle:∀ h t,isH h->isT t->hle (v.hF h t) (v'.hA h t))
  (ok':∀ h t,isH h->isT t->bg (v'.hA h t)=true) (hold:∀ h t,isH h->isT t->(v'.hA h t).s≠0->HoldFit v' h t):Inv v' :=
 ⟨⟨by rw[hF,hA];exact I.pre,by rw[hA];exact I.trA,fun h t hh ht=>by rw[hhF h t hh ht];exact hhle h t hh ht,ok',fun h t hh ht=>by rw[hhF h t hh ht];exact I.okF h t hh ht,by rw[htd];exact I.tdo,by rw[hns];exact I.nso,
  by rw[hns];exact fun x hx=>NetOk.congr (v:=v) (by rw[hF]) (hhF _ _ (I.nso x hx).h (I.nso x hx).t) (I.net x hx),by rw[htd];exact fun x hx=>NetOk.congr (v:=v) (by rw[hF]) (hhF _ _ (I.tdo x hx).1.h (I.tdo x hx).1.t) (I.told x hx),hold⟩,
  fun t ht=>TripFit.congr (v:=v) (by rw[hA]) (by rw[hF]) (fun h hh=>hhF h t hh ht) (fun _ _=>by rw[htd]) (I.trip t ht)⟩
theorem Inv.hfall(I:Inv v)(hF:v'.F=v.F)(hA:v'.A=v.A)(htd:v'.td=v.td)(hns:v'.ns=v.ns)(h1:∀ h t,isH h->isT t->hle (v.hF h t) (v'.hF h t))(h2:∀ h t,isH h->isT t->hle (v'.hA h t) (v.hA h t))
  (h3:∀ h t,isH h->isT t->hle (v'.hF h t) (v'.hA h t)) (okA:∀ h t,isH h->isT t->bg (v'.hA h t)=true) (okF:∀ h t,isH h->isT t->bg (v'.hF h t)=true):Inv v':=by
 have g:Fwd v v':=⟨by rw[hF];exact tpre.rfl' _,h1⟩
 have hsF:∀ t,v'.sF t=v.sF t:=fun t=>by unfold V.sF;rw[hF]
 have hw:∀ t h,v'.want t h=v.want t h:=fun t h=>by unfold V.want;rw[hF]
 refine⟨⟨by rw[hF,hA];exact I.pre,by rw[hA];exact I.trA,h3,okA,okF,by rw[htd];exact I.tdo,by rw[hns];exact I.nso,by rw[hns];exact fun x hx=>(I.net x hx).fwd g (I.nso x hx),by rw[htd];exact fun x hx=>(I.told x hx).fwd g (I.tdo x hx).1,fun h t hh ht hs=>?_⟩,
  fun t ht=>TripFit.fwd I g hA htd (fun h t hh ht=>(h3 h t hh ht).trans (h2 h t hh ht)) okF ht⟩
 have k:=h2 h t hh ht
 have ok:=okA h t hh ht
 have f:=I.hold h t hh ht (by unfold hle at k;omega)
 have hm1:(v'.hA h t).s=1->1<=(v'.hA h t).m:=fun e=>by
  have:=ok
  unfold bg at this
  rw[if_neg (by omega),if_pos (.inl e),in_iff]at this
  exact this.1
 have fm:=f.m
 have fm3:=f.m3
 have fc:=f.c
 have fu:=f.u
 unfold hle at k
 refine⟨by rw[hsF];exact f.s,by rw[hw];exact f.w,fun e=>?_,fun e=>?_,fun e=>?_,fun e=>?_⟩
 ·rw[hw]
  have hwp:=f.w
  rcases k with k|⟨k1,k2⟩
  ·exact absurd k hs
  ·by_cases e3:(v.hA h t).s=3
   ·have:=fm3 e3
    have:=hm1 (by omega)
    omega
   ·have:=fm e3;omega
 ·rw[hw]
  rcases k with k|⟨k1,k2⟩
  ·exact absurd k hs
  ·have:=fm3 (by omega);omega
 ·rw[hsF];exact fc (by omega)
 ·rw[hsF];exact fu (by omega)
end
end Dx
namespace Dx
theorem xm{h:House}(ho:HsOk h){t:Int}(ht:1<=t):hle (hAt (am h true).hs t) (hAt (am h false).hs t):=by
 have e:=ho.stock false
 simp only[aW,Bool.false_eq_true,if_false]at e
 obtain⟨s1,e1,e2⟩:=dv e h.lg.f.toNat
 have e3:=ho.stock true
 simp only[aW,if_true]at e3
 rw[e3]at e1;simp only[Option.some.injEq]at e1;subst e1
 exact ij (ho.stOk true) e2 ht
theorem nT{h:House}(ho:HsOk h)(b:Bool){t:Int}(ht:isT t):bg (hAt (am h b).hs t)=true:=by
 have s:=ho.stOk b
 refine s.hold _ (xk ?_)
 rw[s.len];have:=ht.1;have:=ht.2;omega
theorem wR{d:Desk}(h:DkOk d):tpre (ak d true) (ak d false):=by
 obtain⟨l1,e,e2,_⟩:=cS h.tr d.lg.f.toNat
 have:=h.trips true
 simp only[aW,if_true]at this
 rw[this]at e;simp only[Option.some.injEq]at e;subst e
 exact il e2
theorem mf{l:Log}(h:LgOk l)(h40:l.rs.length<40)(r:Rec):aW (dA l r) true=aW l true/\aW (dA l r) false=aW l false++[r]:=by
 rw[BZ h40]
 have h1:=h.hi
 have h2:=h.lo
 refine⟨?_,rfl⟩
 simp only[aW,if_true]
 rw[List.take_append_of_le_length (by omega)]
theorem jI{d:Desk}(h:DkOk d){r:Rec}(hr:aF r=true)(hc:d.up=true/\cg (ak d false) r=true) :
  aZ d r={d with lg:=dA d.lg r}/\ak (aZ d r) true=ak d true/\ak (aZ d r) false=cv (ak d false) r:=by
 have e:aZ d r={d with lg:=dA d.lg r}:=by simp[aZ,hc.1,hc.2]
 have hl:=h.len18
 obtain⟨k1,k2⟩:=mf h.lg (by omega) r
 refine⟨e,?_,?_⟩
 ·rw[e];unfold ak aj;simp only;rw[k1]
 ·rw[e];unfold ak aj;simp only;rw[k2]
  have:=js h.tr hr hc.2
  simp only[aW,Bool.false_eq_true,if_false,this];rfl
theorem kl{d:Desk}{r:Rec}(hc:¬ (d.up=true/\cg (ak d false) r=true)):aZ d r=d:=by
 simp only[aZ,Bool.and_eq_true];rw[if_neg hc]
theorem sB{h:House}(ho:HsOk h){r:Rec}(hr:aF r=true)(hm:may (am h false) r=true) :
  am {h with lg:=dA h.lg r} true=am h true/\am {h with lg:=dA h.lg r} false=act (am h false) r:=by
 have hl:=ho.len
 obtain⟨k1,k2⟩:=mf ho.lg (by omega) r
 refine⟨?_,?_⟩
 ·unfold am;simp only;rw[k1]
 ·unfold am;simp only;rw[k2]
  have e:=ho.stock false
  have:=jr e hr hm
  rw[this];rfl
theorem hs_force{h:House}:(h.up=true->am (cf h) true=am h false)/\am (cf h) false=am h false:=by
 unfold cf
 refine⟨fun hu=>?_,by split<;>rfl⟩
 rw[if_pos hu]
 unfold am fV aW
 simp
theorem xn{h:House}(ho:HsOk h)(keep:Int):am (hfall h keep) true=am (hfall h keep) false/\(∀ {t:Int},1<=t->hle (hAt (am h true).hs t) (hAt (am (hfall h keep) true).hs t)/\hle (hAt (am (hfall h keep) true).hs t) (hAt (am h false).hs t)):=by
 have hk:=ho.lg.keep keep
 have h0:=ho.lg.lo
 have e:am (hfall h keep) true=am (hfall h keep) false:=by
  unfold am hfall eX aW
  simp only[if_true,Bool.false_eq_true,if_false]
  rw[List.take_take,Nat.min_self]
 refine⟨e,fun {t} ht=>?_⟩
 have s1:=ho.stock true
 have s2:=ho.stock false
 have s3:=(ho.fall keep).stock false
 simp only[aW,if_true,Bool.false_eq_true,if_false,hfall,eX]at s1 s2 s3
 have e3:am (hfall h keep) false=am ⟨h.id,false,h.room,⟨h.lg.rs.take (dW h.lg keep).toNat,dW h.lg keep⟩⟩ false:=rfl
 rw[e,e3]
 constructor
 ·obtain⟨s4,e4,e5⟩:=dv s3 h.lg.f.toNat
  rw[List.take_take,Nat.min_eq_left (by omega),s1]at e4
  simp only[Option.some.injEq]at e4;subst e4
  exact ij (ho.stOk true) e5 ht
 ·obtain⟨s4,e4,e5⟩:=dv s2 (dW h.lg keep).toNat
  rw[s3]at e4
  simp only[Option.some.injEq]at e4;subst e4
  exact ij ((ho.fall keep).stOk false) e5 ht
theorem dk_force{d:Desk}:(d.up=true->ak (bU d) true=ak d false)/\ak (bU d) false=ak d false:=by
 unfold bU
 refine⟨fun hu=>?_,by split<;>rfl⟩
 rw[if_pos hu]
 unfold ak aj fV aW
 simp
theorem xo{d:Desk}(h:DkOk d)(keep:Int):ak (dfall d keep) true=ak (dfall d keep) false/\tpre (ak d true) (ak (dfall d keep) true)/\tpre (ak (dfall d keep) true) (ak d false):=by
 have hk:=h.lg.keep keep
 have h0:=h.lg.lo
 have e:ak (dfall d keep) true=ak (dfall d keep) false:=by
  unfold ak aj dfall eX aW
  simp only[if_true,Bool.false_eq_true,if_false]
  rw[List.take_take,Nat.min_self]
 refine⟨e,?_⟩
 have s1:=h.trips true
 have s2:=h.trips false
 have s3:=(h.fall keep).trips false
 simp only[aW,if_true,Bool.false_eq_true,if_false,dfall,eX]at s1 s2 s3
 have e3:ak (dfall d keep) false=ak ⟨false,⟨d.lg.rs.take (dW d.lg keep).toNat,dW d.lg keep⟩,[]⟩ false:=rfl
 rw[e,e3]
 constructor
 ·obtain⟨s4,e4,e5,_⟩:=cS s3 d.lg.f.toNat
  rw[List.take_take,Nat.min_eq_left (by omega),s1]at e4
  simp only[Option.some.injEq]at e4;subst e4
  exact il e5
 ·obtain⟨s4,e4,e5,_⟩:=cS s2 (dW d.lg keep).toNat
  rw[s3]at e4
  simp only[Option.some.injEq]at e4;subst e4
  exact il e5
def vw(w:Wd):V:=⟨ak w.dk true,ak w.dk false,w.dk.td,w.ns,fun h t=>hAt (am (houseAt w h) true).hs t,fun h t=>hAt (am (houseAt w h) false).hs t⟩
theorem gS{w:Wd}(ho:WOk w){i j:Int}(hi:isH i)(hj:isH j)(x:House):houseAt (setHouse w i x) j=if j=i then x else houseAt w j:=by
 have hl:=ho.len
 obtain⟨h1,h2⟩:=hi
 obtain⟨h3,h4⟩:=hj
 unfold Dx.houseAt setHouse
 simp only[List.getElem?_set]
 by_cases e:j=i
 ·subst e;simp;rw[if_pos (by omega)];rfl
 ·rw[if_neg (by omega),if_neg e]
section
variable {w:Wd}
theorem mg{d:Desk}:vw {w with dk:=d}={vw w with F:=ak d true,A:=ak d false,td:=d.td}:=rfl
theorem pm(ho:WOk w)(I:Inv (vw w)){r:Rec}(hr:aF r=true)(h:cg (ak w.dk false) r=true->Inv {vw w with A:=cv (vw w).A r}):Inv (vw {w with dk:=aZ w.dk r}):=by
 by_cases hc:w.dk.up=true/\cg (ak w.dk false) r=true
 ·obtain⟨e1,e2,e3⟩:=jI ho.dk hr hc
  have:vw {w with dk:=aZ w.dk r}={vw w with A:=cv (vw w).A r}:=by
   rw[mg,e2,e3,(fN _ _).1];rfl
  rw[this];exact h hc.2
 ·rw[kl hc];exact I
theorem yh(ho:WOk w)(I:Inv (vw w))(m:List Int):Inv (vw {w with dk:=fF w.dk m}):=by
 unfold fF
 split
 ·rename_i hr
  exact pm ho I hr fun hm=>I.begin hr hm rfl
 ·exact I
theorem zm(ho:WOk w)(I:Inv (vw w))(t:Int):Inv (vw {w with dk:=iU w.dk t}):=by
 unfold iU
 split
 ·rename_i ht
  have ht:=in_iff.1 ht
  refine pm ho I (rj (k:=6) (by omega) ht) fun hm=>?_
  have hs:(vw w).sA t=1:=by
   simp only[cg]at hm
   split at hm
   ·omega
   ·split at hm
    ·cases hm
    ·show (tAt (ak w.dk false) t).s=1;simpa using hm
  exact I.no ht hs
 ·exact I
theorem yi(ho:WOk w)(I:Inv (vw w)){x:Word}(hn:NetOk (vw w) x):Inv (vw {w with dk:=gG w.dk x}):=by
 unfold gG
 split
 case isFalse=>exact I
 rename_i hc
 have hd1:=ho.dk.tell hc
 simp only[dh,Bool.and_eq_true,decide_eq_true_eq,wordOk_iff]at hc
 obtain⟨hup,hx,h4,_⟩:=hc
 obtain⟨t1,t2⟩:=gX w.dk x
 have htd:(cw w.dk x).td=(vw w).td\/(cw w.dk x).td=(vw w).td++[x]:=by
  unfold cw;split
  ·exact .inl rfl
  ·exact .inr rfl
 have key:=I.hear hx h4 hn htd
 have e1:vw {w with dk:=cw w.dk x}={vw w with td:=(cw w.dk x).td}:=by
  rw[mg];unfold ak;rw[t2];rfl
 have ek:ig (cw w.dk x) x.t=V.kind {vw w with td:=(cw w.dk x).td} x.t:=by
  unfold ig V.kind lr ak V.sA V.sF
  rw[t2]
  simp only[vw,ak,Bool.and_eq_true,decide_eq_true_eq,beq_iff_eq]
  rfl
 unfold d4
 rw[ek]
 unfold V.decide at key
 split
 ·rename_i hk
  rw[if_pos hk]at key
  obtain⟨k1,k2⟩:=key
  obtain⟨k3,k4⟩:=k2 hk
  have hcc:(cw w.dk x).up=true/\cg (ak (cw w.dk x) false) ⟨V.kind {vw w with td:=(cw w.dk x).td} x.t,x.t,[]⟩=true:=by
   refine⟨by rw[t1];exact hup,?_⟩
   unfold ak;rw[t2];exact k4
  obtain⟨w1,w2,w3⟩:=jI hd1 k3 hcc
  rw[mg,w2,w3,(fN _ _).1]
  have e2:ak (cw w.dk x) true=ak w.dk true:=by unfold ak;rw[t2]
  have e3:ak (cw w.dk x) false=ak w.dk false:=by unfold ak;rw[t2]
  rw[e2,e3]
  exact k1
 ·rename_i hk
  rw[if_neg hk]at key
  rw[e1];exact key.1
theorem u9(ho:WOk w)(I:Inv (vw w)):Inv (vw {w with dk:=bU w.dk}):=by
 obtain⟨e1,e2⟩:=dk_force (d:=w.dk)
 have e3:(bU w.dk).td=w.dk.td:=by unfold bU;split<;>rfl
 by_cases hu:w.dk.up=true
 ·refine I.fwd (v':=vw {w with dk:=bU w.dk}) ⟨?_,fun _ _ _ _=>hle.rfl' _⟩ e2 e3 rfl (fun _ _ _ _=>rfl) ?_ I.hle I.okF
  ·show tpre (ak w.dk true) (ak (bU w.dk) true)
   rw[e1 hu];exact wR ho.dk
  ·show tpre (ak (bU w.dk) true) (ak w.dk false)
   rw[e1 hu];exact tpre.rfl' _
 ·have:bU w.dk=w.dk:=by unfold bU;rw[if_neg hu]
  rw[this];exact I
theorem yj(ho:WOk w)(I:Inv (vw w))(keep:Int):Inv (vw {w with dk:=dfall w.dk keep}):=by
 obtain⟨e1,e2,e3⟩:=xo ho.dk keep
 have:=I.dfall e2 e3 ((ho.dk.fall keep).trOk true)
 rw[mg,<-e1];exact this
theorem yk(I:Inv (vw w)):Inv (vw {w with dk:=jG w.dk}):=I
theorem cT(ho:WOk w){i:Int}(hi:isH i)(x:House){h t:Int}(hh:isH h) :
  (vw (setHouse w i x)).hF h t=(if h=i then hAt (am x true).hs t else(vw w).hF h t)/\(vw (setHouse w i x)).hA h t=(if h=i then hAt (am x false).hs t else(vw w).hA h t):=by
 simp only[vw,gS ho hi hh x]
 constructor<;>split<;>rfl
theorem va(ho:WOk w)(I:Inv (vw w)){i:Int}(hi:isH i):Inv (vw (setHouse w i (cf (houseAt w i)))):=by
 obtain⟨_,hho,_⟩:=ho.houseAt hi
 obtain⟨e1,e2⟩:=hs_force (h:=houseAt w i)
 have hF:∀ h t,isH h->(vw (setHouse w i (cf (houseAt w i)))).hF h t=(vw w).hF h t\/(vw (setHouse w i (cf (houseAt w i)))).hF h t=(vw w).hA h t:=fun h t hh=>by
  rw[(cT ho hi _ hh).1]
  by_cases e:h=i
  ·subst e
   rw[if_pos rfl]
   by_cases hu:(houseAt w h).up=true
   ·rw[e1 hu];exact .inr rfl
   ·have:cf (houseAt w h)=houseAt w h:=by unfold cf;rw[if_neg hu]
    rw[this];exact .inl rfl
  ·rw[if_neg e];exact .inl rfl
 refine I.fwd ⟨tpre.rfl' _,fun h t hh ht=>?_⟩ rfl rfl rfl (fun h t hh ht=>?_) I.pre (fun h t hh ht=>?_) (fun h t hh ht=>?_)
 ·rcases hF h t hh with e|e<;>rw[e]
  ·exact hle.rfl' _
  ·exact I.hle h t hh ht
 ·rw[(cT ho hi _ hh).2,e2]
  split
  ·rename_i e;subst e;rfl
  ·rfl
 ·rcases hF h t hh with e|e<;>rw[e]
  ·exact I.hle h t hh ht
  ·exact hle.rfl' _
 ·rcases hF h t hh with e|e<;>rw[e]
  ·exact I.okF h t hh ht
  ·exact I.okA h t hh ht
theorem yl(ho:WOk w)(I:Inv (vw w)){i:Int}(hi:isH i)(keep:Int):Inv (vw (setHouse w i (hfall (houseAt w i) keep))):=by
 obtain⟨_,hho,_⟩:=ho.houseAt hi
 obtain⟨e1,e2⟩:=xn hho keep
 have hf:=hho.fall keep
 refine I.hfall rfl rfl rfl rfl (fun h t hh ht=>?_) (fun h t hh ht=>?_) (fun h t hh ht=>?_) (fun h t hh ht=>?_) (fun h t hh ht=>?_)
 ·rw[(cT ho hi _ hh).1]
  split
  ·rename_i e;subst e;exact(e2 ht.1).1
  ·exact hle.rfl' _
 ·rw[(cT ho hi _ hh).2,<-e1]
  split
  ·rename_i e;subst e;exact(e2 ht.1).2
  ·exact hle.rfl' _
 ·rw[(cT ho hi _ hh).1,(cT ho hi _ hh).2,<-e1]
  split
  ·exact hle.rfl' _
  ·exact I.hle h t hh ht
 ·rw[(cT ho hi _ hh).2]
  split
  ·exact nT hf false ht
  ·exact I.okA h t hh ht
 ·rw[(cT ho hi _ hh).1]
  split
  ·exact nT hf true ht
  ·exact I.okF h t hh ht
theorem ym(ho:WOk w)(I:Inv (vw w)){i:Int}(hi:isH i):Inv (vw (setHouse w i (lq (houseAt w i)))):=by
 refine I.hwrite rfl rfl rfl rfl (fun h t hh ht=>?_) (fun h t hh ht=>?_) (fun h t hh ht=>?_) (fun h t hh ht hs=>?_)
 ·rw[(cT ho hi _ hh).1];split
  ·rename_i e;subst e;rfl
  ·rfl
 all_goals
  have e:(vw (setHouse w i (lq (houseAt w i)))).hA h t=(vw w).hA h t:=by
   rw[(cT ho hi _ hh).2];split
   ·rename_i e;subst e;rfl
   ·rfl
 ·rw[e];exact I.hle h t hh ht
 ·rw[e];exact I.okA h t hh ht
 ·rw[e]at hs
  exact HoldFit.congr (v:=vw w) rfl e (I.hold h t hh ht hs)
theorem yn(ho:WOk w)(I:Inv (vw w)){x:Word}(hx:WdOk x)(hn:NetOk (vw w) x) :
  Inv (vw (setHouse w x.h (de (houseAt w x.h) x).1))/\∀ y,(de (houseAt w x.h) x).2=some y->NetOk (vw (setHouse w x.h (de (houseAt w x.h) x).1)) y:=by
 have hi:isH x.h:=hx.h
 obtain⟨_,hho,hid⟩:=ho.houseAt hi
 have same:setHouse w x.h (houseAt w x.h)=w:=by
  obtain⟨e,_,_⟩:=ho.houseAt hi
  have hl:=(List.getElem?_eq_some_iff.1 e).1
  have he:=(List.getElem?_eq_some_iff.1 e).2
  unfold setHouse
  rw[<-he,List.set_getElem_self]
 unfold de
 split
 ·simp only[same];exact⟨I,by simp⟩
 rename_i hc
 simp only[Bool.or_eq_true,Bool.not_eq_true',decide_eq_true_eq,bne_iff_ne,not_or,Bool.not_eq_false]at hc
 have hk3:x.k<=3:=by omega
 split
 ·rename_i hm
  obtain⟨e1,e2⟩:=sB hho (d8 hx) hm
  have hrt:=BV x
  have hl:=(hho.stOk false).len
  have hF:∀ h t,isH h->isT t->(vw (setHouse w x.h {houseAt w x.h with lg:=dA (houseAt w x.h).lg (bS x)})).hF h t=(vw w).hF h t:=fun h t hh ht=>by
   rw[(cT ho hi _ hh).1];split
   ·rename_i e;subst e;rw[e1];rfl
   ·rfl
  have hA:∀ h t,isH h->isT t->(vw (setHouse w x.h {houseAt w x.h with lg:=dA (houseAt w x.h).lg (bS x)})).hA h t=if h=x.h/\t=x.t then jW ((vw w).hA h t) (bS x) else(vw w).hA h t:=fun h t hh ht=>by
   rw[(cT ho hi _ hh).2]
   by_cases e:h=x.h
   ·subst e
    rw[if_pos rfl,e2,Ab hl (d8 hx) ht.1,hrt]
    by_cases et:t=x.t
    ·subst et;rw[if_pos rfl,if_pos ⟨rfl,rfl⟩];rfl
    ·rw[if_neg et,if_neg (fun h=>et h.2)];rfl
   ·rw[if_neg e,if_neg (fun h=>e h.1)]
  have hhle:∀ h t,isH h->isT t->hle ((vw w).hA h t) ((vw (setHouse w x.h {houseAt w x.h with lg:=dA (houseAt w x.h).lg (bS x)})).hA h t):=fun h t hh ht=>by
   rw[(cT ho hi _ hh).2]
   split
   ·rename_i e;subst e;rw[e2];exact xl hl (d8 hx) hm ht.1
   ·exact hle.rfl' _
  refine⟨I.hwrite rfl rfl rfl rfl hF (fun h t hh ht=>(I.hle h t hh ht).trans (hhle h t hh ht)) (fun h t hh ht=>?_) (fun h t hh ht hs=>?_),by simp⟩
  ·have:=nT (hho.write (d8 hx) hm) false ht
   rw[(cT ho hi _ hh).2];split
   ·exact this
   ·exact I.okA h t hh ht
  ·by_cases e:h=x.h/\t=x.t
   ·obtain⟨rfl,rfl⟩:=e
    have ea:=hA x.h x.t hh ht
    rw[if_pos ⟨rfl,rfl⟩]at ea
    refine⟨hn.s,hn.w,?_,?_,?_,?_⟩<;>rw[ea]
    all_goals
     have hst:(vw w).hA x.h x.t=hAt (am (houseAt w x.h) false).hs x.t:=rfl
     have hmay:=hm
     simp only[may,fI,hrt]at hmay
     rw[<-hst]at hmay
     have hok:=I.okA x.h x.t hh ht
     have hmm:∀ {v':V},v'.F=(vw w).F->V.want v' x.t x.h=(vw w).want x.t x.h:=fun e=>by unfold V.want;rw[e]
     have hss:∀ {v':V},v'.F=(vw w).F->V.sF v' x.t=(vw w).sF x.t:=fun e=>by unfold V.sF;rw[e]
     try rw[hmm rfl]
     try rw[hss rfl]
     have f:=fun h=>I.hold x.h x.t hh ht h
     have k1:=hn.k1
     have k2:=hn.k2
     have k3:=hn.k3
     unfold bS at hmay ⊢
     unfold jW
     have hk1:=hx.k.1
     have hzero:((vw w).hA x.h x.t).s=0->((vw w).hA x.h x.t).m=0:=fun e=>by
      unfold bg at hok;rw[if_pos e]at hok;simpa using hok
     by_cases h1:x.k=1
     ·simp[h1]at hmay ⊢
      try exact k1 h1
     ·by_cases h2:x.k=2
      ·simp[h2]at hmay ⊢
       try exact(f (by omega)).m (by omega)
       try exact k2 h2
      ·simp[h1,h2]at hmay ⊢
       first
        | exact k3 (by omega)
        | (by_cases h0:((vw w).hA x.h x.t).s=0
           ·exact .inr (hzero h0)
           ·exact .inl ((f h0).m (by omega)))
        | skip
   ·have ea:=hA h t hh ht
    rw[if_neg e]at ea
    rw[ea]at hs
    exact HoldFit.congr (v:=vw w) rfl ea (I.hold h t hh ht hs)
 ·split
  ·rename_i h1
   simp only[same]
   refine⟨I,fun y hy=>?_⟩
   simp only[Option.some.injEq]at hy;subst hy
   rw[hid]
   exact⟨hn.s,hn.w,by simp,by simp,by simp,by simp,by simp,by simp⟩
  ·simp only[same]
   refine⟨I,fun y hy=>?_⟩
   unfold answer at hy
   rw[hid]at hy
   have hst:fI (am (houseAt w x.h) true) x.t=((vw w).hF x.h x.t).s:=rfl
   rw[hst]at hy
   split at hy
   ·rename_i hh;simp only[Option.some.injEq]at hy;subst hy
    exact⟨hn.s,hn.w,by simp,by simp,by simp,fun _=>by simp only;omega,by simp,by simp⟩
   ·split at hy
    ·simp only[Option.some.injEq]at hy;subst hy
     exact⟨hn.s,hn.w,by simp,by simp,by simp,by simp,by simp,by simp⟩
    ·split at hy
     ·rename_i hh;simp only[Option.some.injEq]at hy;subst hy
      exact⟨hn.s,hn.w,by simp,by simp,by simp,by simp,fun _=>hh.2,by simp⟩
     ·split at hy
      ·rename_i hh;simp only[Option.some.injEq]at hy;subst hy
       exact⟨hn.s,hn.w,by simp,by simp,by simp,by simp,by simp,fun _=>hh.2⟩
      ·cases hy
end
end Dx
namespace Dx
variable {w:Wd}
theorem ES(w:Wd)(ns:List Word):vw {w with ns:=ns}={vw w with ns:=ns}:=rfl
theorem NetOk.ns{x:Word}{ns:List Word}(h:NetOk (vw w) x):NetOk (vw {w with ns:=ns}) x:=NetOk.congr (v:=vw w) rfl rfl h
theorem NetOk.ns'{x:Word}{ns:List Word}(h:NetOk (vw {w with ns:=ns}) x):NetOk (vw w) x:=NetOk.congr (v:=vw {w with ns:=ns}) rfl rfl h
theorem qa(I:Inv (vw w)){x:Word}(hx:WdOk x)(hn:NetOk (vw w) x):Inv (vw (iA w x)):=by
 unfold iA
 split
 ·rw[ES]
  refine I.nets fun y hy=>?_
  rcases List.mem_append.1 hy with hy|hy
  ·exact⟨I.nso y hy,I.net y hy⟩
  ·simp at hy;exact hy ▸ ⟨hx,hn⟩
 ·exact I
theorem sC(I:Inv (vw w))(i:Int):Inv (vw (ez w i)):=by
 unfold ez
 rw[ES]
 exact I.nets fun y hy=>⟨I.nso y (List.mem_of_mem_eraseIdx hy),I.net y (List.mem_of_mem_eraseIdx hy)⟩
theorem Ca(ho:WOk w){x:Word}(hx:x∈bI w.dk):WdOk x/\NetOk (vw w) x:=by
 obtain⟨h1,h2,_,_,h5,n,h6,h7,h8⟩:=iY ho.dk hx
 have hk:=h1.k.1
 have hs:(vw w).sF x.t=x.k:=h5
 have hl:=cp (l:=ak w.dk true) (t:=x.t) (by omega)
 have hm:=(tripOk_iff.1 ((ho.dk.trOk true).ok _ (fa hl))).1
 have hw:(vw w).want x.t x.h=n:=by
  unfold V.want mAt
  show ((tAt (ak w.dk true) x.t).m[(x.h-1).toNat]?).getD 0=n
  rw[h6];rfl
 have hn:=gk hm (List.mem_of_getElem? h6)
 refine⟨h1,by omega,by omega,fun e=>?_,fun e=>.inl (by omega),fun e=>.inl (by omega),fun e=>by omega,fun e=>by omega,fun e=>by omega⟩
 rw[hw]
 unfold gH at h8
 split at h8
 ·cases h8
 ·have h9:=congrArg Word.m (List.mem_singleton.1 h8)
  simp only[e,if_true]at h9
  exact h9
theorem yo(ho:WOk w)(I:Inv (vw w)){x:Word}(hx:WdOk x)(hn:NetOk (vw w) x):Inv (vw (bH w x).1)/\∀ y,(bH w x).2=some y->WdOk y/\NetOk (vw (bH w x).1) y:=by
 have hok:=ho.hear hx
 unfold bH at hok ⊢
 split
 ·exact⟨yi ho I hn,by simp⟩
 ·rename_i hk
  rw[if_neg hk]at hok
  have:=yn ho I hx hn
  exact⟨this.1,fun y hy=>⟨(hok.2 y hy).1,this.2 y hy⟩⟩
theorem zn(ho:WOk w)(I:Inv (vw w))(e:Ev):Inv (vw (jX w e)):=by
 unfold jX
 split
 ·exact I
 ·rename_i x hx
  have hx:x∈w.ns:=by
   split at hx
   ·exact List.mem_of_getElem? hx
   ·cases hx
  have hx1:=I.nso x hx
  have hx2:=I.net x hx
  split
  ·exact sC I _
  ·split
   ·exact qa I hx1 hx2
   ·have k:=yo (ho.take e.a) (sC I e.a) hx1 (NetOk.ns (w:=w) hx2)
    cases hy:(bH (ez w e.a) x).2 with
    | none=>exact k.1
    | some y=>exact qa k.1 (k.2 y hy).1 (k.2 y hy).2
theorem yp(ho:WOk w)(I:Inv (vw w))(e:Ev):Inv (vw (gI w e)):=by
 unfold gI
 split
 ·exact yh ho I _
 ·split
  ·exact zm ho I _
  ·split
   ·split
    ·rename_i x hx
     split at hx
     ·have:=Ca ho (List.mem_of_getElem? hx)
      exact qa I this.1 this.2
     ·cases hx
    ·exact I
   ·exact I
theorem vb(ho:WOk w)(I:Inv (vw w))(i:Int):Inv (vw (cR w i)):=by
 unfold cR
 split
 ·exact u9 ho I
 ·split
  ·rename_i h;exact va ho I (in_iff.1 h)
  ·exact I
theorem yq(ho:WOk w)(I:Inv (vw w))(e:Ev):Inv (vw (cd w e)):=by
 unfold cd
 split
 case isFalse=>exact I
 rename_i ha
 have ha:=in_iff.1 ha
 split
 ·exact vb ho I _
 ·split
  ·split
   ·exact yj ho I _
   ·exact yl ho I ⟨by omega,by omega⟩ _
  ·split
   ·split
    ·exact yk I
    ·exact ym ho I ⟨by omega,by omega⟩
   ·exact I
theorem xp(ho:WOk w)(I:Inv (vw w))(e:Ev):Inv (vw (wdo w e)):=by
 unfold wdo
 split
 ·exact yp ho I e
 ·split
  ·exact zn ho I e
  ·split
   ·exact yq ho I e
   ·exact I
theorem vc(ho:WOk w)(I:Inv (vw w))(es:List Ev):Inv (vw (bA w es)):=by
 induction es generalizing w with
 | nil=>exact I
 | cons e es ih=>exact ih (ho.do_ e) (xp ho I e)
theorem Cb{d:Desk}(h:DkOk d)(x:Word):ak (gG d x) true=ak d true:=by
 unfold gG
 split
 case isFalse=>rfl
 rename_i hc
 have hd1:=h.tell hc
 simp only[dh,Bool.and_eq_true,decide_eq_true_eq,wordOk_iff]at hc
 have e:ak (cw d x) true=ak d true:=by unfold ak;rw[(gX d x).2]
 unfold d4
 split
 ·rename_i hk
  have hr:=pi hc.2.1.t hk
  by_cases c:(cw d x).up=true/\cg (ak (cw d x) false) ⟨ig (cw d x) x.t,x.t,[]⟩=true
  ·rw[(jI hd1 hr c).2.1,e]
  ·rw[kl c,e]
 ·exact e
theorem Cc{h:House}(ho:HsOk h){x:Word}(hx:WdOk x):am (de h x).1 true=am h true:=by
 unfold de
 split
 ·rfl
 ·split
  ·rename_i hm;exact(sB ho (d8 hx) hm).1
  ·split<;>rfl
theorem Cd(ho:WOk w){x:Word}(hx:WdOk x):(vw (bH w x).1).F=(vw w).F/\∀ h t,isH h->(vw (bH w x).1).hF h t=(vw w).hF h t:=by
 unfold bH
 split
 ·exact⟨Cb ho.dk x,fun _ _ _=>rfl⟩
 ·refine⟨rfl,fun h t hh=>?_⟩
  rw[(cT ho hx.h _ hh).1]
  split
  ·rename_i e;subst e
   rw[Cc (ho.houseAt hx.h).2.1 hx];rfl
  ·rfl
theorem Ce{rooms:List Int}{w:Wd}(h:aV rooms=some w):Inv (vw w):=by
 have ho:=co h
 unfold aV at h
 split at h
 case isFalse=>cases h
 rename_i hc
 simp only[Option.some.injEq]at h
 have e0:∀ i,isH i->(houseAt w i).lg=⟨[],0⟩:=fun i hi=>by
  obtain⟨e,_,_⟩:=ho.houseAt hi
  have hh:w.hs=ch rooms:=by rw[<-h]
  rw[hh]at e
  simp only[ch,List.getElem?_map,Option.map_eq_some_iff]at e
  obtain⟨p,_,e⟩:=e
  rw[<-e]
 have hz:∀ i t b,isH i->isT t->hAt (am (houseAt w i) b).hs t=⟨0,0⟩:=fun i t b hi ht=>by
  have hs:=(ho.houseAt hi).2.1.stock b
  have:aW (houseAt w i).lg b=[]:=by rw[e0 i hi];cases b<;>rfl
  rw[this]at hs
  have:=(stockOf_some.1 hs).2
  simp only[bE,Option.some.injEq]at this
  rw[<-this]
  unfold hAt bR
  simp only[List.getElem?_replicate]
  split<;>rfl
 have dt:∀ b,ak w.dk b=[]:=fun b=>by rw[<-h];cases b<;>rfl
 have dtd:w.dk.td=[]:=by rw[<-h];rfl
 have dns:w.ns=[]:=by rw[<-h]
 have t0:∀ t,(tAt ([]:List Trip) t).s=0:=fun t=>by simp[tAt]
 have sA:∀ t,(vw w).sA t=0:=fun t=>by unfold V.sA;show (tAt (ak w.dk false) t).s=0;rw[dt];exact t0 t
 refine⟨⟨wR ho.dk,ho.dk.trOk false,fun i t hi ht=>xm (ho.houseAt hi).2.1 ht.1,fun i t hi ht=>nT (ho.houseAt hi).2.1 false ht,fun i t hi ht=>nT (ho.houseAt hi).2.1 true ht,?_,?_,?_,?_,fun i t hi ht hs=>?_⟩,fun t ht=>?_⟩
 ·intro x hx;rw[show (vw w).td=[] from dtd]at hx;cases hx
 ·intro x hx;rw[show (vw w).ns=[] from dns]at hx;cases hx
 ·intro x hx;rw[show (vw w).ns=[] from dns]at hx;cases hx
 ·intro x hx;rw[show (vw w).td=[] from dtd]at hx;cases hx
 ·have:=hz i t false hi ht
  rw[show (vw w).hA i t=⟨0,0⟩ from this]at hs
  exact absurd rfl hs
 ·exact⟨fun h=>by rw[sA]at h;omega,fun h=>by rw[sA]at h;omega,fun h=>by rw[sA]at h;omega,fun h=>by rw[sA]at h;omega,fun h=>by rw[sA]at h;omega,fun h=>by rw[sA]at h;omega⟩
theorem cF{rooms:List Int}{es:List Ev}(h:aU rooms es=some w):WOk w/\Inv (vw w):=by
 unfold aU at h
 split at h
 ·cases h
 ·simp only[Option.map_eq_some_iff]at h
  obtain⟨w0,h1,rfl⟩:=h
  exact⟨(co h1).plays es,vc (co h1) (Ce h1) es⟩
end Dx
namespace Dx
theorem ju:∀ {rs:List Rec} {l l':List Trip},bN rs l=some l'->(∀ r∈rs,r.k=4\/r.k=6)->(∀ t∈l,t.s=1\/t.s=3)->∀ t∈l',t.s=1\/t.s=3
 | [],l,l',h,_,hl=>by simp only[bN,Option.some.injEq]at h;subst h;exact hl
 | r::rs,l,l',h,hr,hl=>by
  simp only[bN]at h
  split at h
  case isFalse=>cases h
  rename_i hc
  refine ju h (fun x hx=>hr x (by simp[hx])) fun t ht=>?_
  unfold cv at ht
  rcases hr r (by simp)with e|e
  ·rw[if_pos e]at ht
   rcases List.mem_append.1 ht with ht|ht
   ·exact hl t ht
   ·simp at ht;subst ht;exact .inl rfl
  ·rw[if_neg (by omega),if_neg (by omega),if_pos e]at ht
   rcases List.mem_or_eq_of_mem_set ht with ht|ht
   ·exact hl t ht
   ·subst ht;exact .inr rfl
structure Quiet (w:Wd):Prop where
 ns:w.ns=[]
 hs:∀ h∈w.hs,h.lg.rs=[]
 rs:∀ r∈w.dk.lg.rs,r.k=4\/r.k=6
 td:w.dk.td=[]
theorem Quiet.set{w:Wd}(q:Quiet w){i:Int}{h:House}(hh:h.lg.rs=[]):Quiet (setHouse w i h) :=
 ⟨q.ns,fun x hx=>by
  rcases List.mem_or_eq_of_mem_set hx with hx|hx
  ·exact q.hs x hx
  ·exact hx ▸ hh,q.rs,q.td⟩
theorem Quiet.at{w:Wd}(q:Quiet w)(i:Int):(houseAt w i).lg.rs=[]:=by
 unfold houseAt
 cases e:w.hs[(i-1).toNat]? with
 | none=>rfl
 | some h=>exact q.hs h (List.mem_of_getElem? e)
theorem Quiet.write{w:Wd}(q:Quiet w){r:Rec}(hr:r.k=4\/r.k=6):Quiet {w with dk:=aZ w.dk r}:=by
 refine⟨q.ns,q.hs,fun x hx=>?_,by rw[show ({w with dk:=aZ w.dk r}:Wd).dk=aZ w.dk r from rfl,(fN _ _).1];exact q.td⟩
 have hx:x∈(aZ w.dk r).lg.rs:=hx
 unfold aZ at hx
 split at hx
 ·unfold dA at hx
  split at hx
  ·exact q.rs x hx
  ·rcases List.mem_append.1 hx with hx|hx
   ·exact q.rs x hx
   ·simp at hx;exact hx ▸ hr
 ·exact q.rs x hx
theorem Quiet.do_{w:Wd}(q:Quiet w){e:Ev}(he:e.k≠3):Quiet (wdo w e):=by
 unfold wdo
 split
 ·unfold gI
  split
  ·unfold fF;split
   ·exact q.write (.inl rfl)
   ·exact q
  ·split
   ·unfold iU;split
    ·exact q.write (.inr rfl)
    ·exact q
   ·exact q
 ·split
  ·unfold jX
   rw[q.ns]
   simp only[List.getElem?_nil,ite_self]
   exact q
  ·split
   ·unfold cd
    split
    case isFalse=>exact q
    split
    ·unfold cR
     split
     ·refine⟨q.ns,q.hs,?_,?_⟩
      ·have:(bU w.dk).lg.rs=w.dk.lg.rs:=by unfold bU;split<;>rfl
       intro r hr;exact q.rs r (this ▸ hr)
      ·have:(bU w.dk).td=w.dk.td:=by unfold bU;split<;>rfl
       exact this.trans q.td
     ·split
      ·refine q.set ?_
       have:(cf (houseAt w e.a)).lg.rs=(houseAt w e.a).lg.rs:=by unfold cf;split<;>rfl
       rw[this];exact q.at _
      ·exact q
    ·split
     ·split
      ·exact⟨q.ns,q.hs,fun r hr=>q.rs r (List.mem_of_mem_take hr),rfl⟩
      ·refine q.set ?_
       show (eX (houseAt w e.a).lg e.b).rs=[]
       unfold eX
       rw[q.at];simp
     ·split
      ·split
       ·exact⟨q.ns,q.hs,q.rs,q.td⟩
       ·exact q.set (q.at _)
      ·exact q
   ·exact q
theorem Quiet.plays{w:Wd}(q:Quiet w):∀ {es:List Ev},(∀ e∈es,e.k≠3)->Quiet (bA w es)
 | [],_=>q
 | e::es,h=>(q.do_ (h e (by simp))).plays (fun x hx=>h x (by simp[hx]))
theorem Quiet.new{rooms:List Int}{w:Wd}(h:aV rooms=some w):Quiet w:=by
 unfold aV at h
 split at h
 case isFalse=>cases h
 simp only[Option.some.injEq]at h;subst h
 refine⟨rfl,fun x hx=>?_,by simp[deskNew],rfl⟩
 simp only[ch,List.mem_map]at hx
 obtain⟨p,_,rfl⟩:=hx
 rfl
theorem Quiet.trips{w:Wd}(q:Quiet w)(ho:WOk w):∀ t∈ak w.dk false,t.s=1\/t.s=3 :=
 ju ho.dk.tr q.rs (by simp)
theorem kG{rooms:List Int}{es:List Ev}{w:Wd}(h:aU rooms es=some w)(p:Ev->Bool):∃ w0 w',aV rooms=some w0/\w'=bA w0 (es.filter p)/\aU rooms (es.filter p)=some w':=by
 unfold aU at h
 split at h
 ·cases h
 rename_i hl
 simp only[Option.map_eq_some_iff]at h
 obtain⟨w0,h1,_⟩:=h
 have:=List.length_filter_le p es
 exact⟨w0,_,h1,rfl,by unfold aU;rw[if_neg (by omega),h1];rfl⟩
structure Loose (w:Wd):Prop where
 ns:w.ns=[]
 hs:∀ h∈w.hs,h.lg.rs=[]
 f:w.dk.lg.f=0
theorem Loose.words{w:Wd}(q:Loose w):bI w.dk=[]:=by
 unfold bI ak aj aW
 simp[q.f,bb,bN,di]
theorem Loose.set{w:Wd}(q:Loose w){i:Int}{h:House}(hh:h.lg.rs=[]):Loose (setHouse w i h) :=
 ⟨q.ns,fun x hx=>by
  rcases List.mem_or_eq_of_mem_set hx with hx|hx
  ·exact q.hs x hx
  ·exact hx ▸ hh,q.f⟩
theorem Loose.at{w:Wd}(q:Loose w)(i:Int):(houseAt w i).lg.rs=[]:=by
 unfold houseAt
 cases e:w.hs[(i-1).toNat]? with
 | none=>rfl
 | some h=>exact q.hs h (List.mem_of_getElem? e)
theorem Loose.write{w:Wd}(q:Loose w)(r:Rec):Loose {w with dk:=aZ w.dk r} :=
 ⟨q.ns,q.hs,(fN _ _).2.2.trans q.f⟩
theorem Loose.do_{w:Wd}(q:Loose w){e:Ev}(h7:e.k≠7)(h8:e.k≠8):Loose (wdo w e):=by
 unfold wdo
 split
 ·unfold gI
  split
  ·unfold fF;split
   ·exact q.write _
   ·exact q
  ·split
   ·unfold iU;split
    ·exact q.write _
    ·exact q
   ·split
    ·rw[q.words]
     simp only[List.getElem?_nil,ite_self]
     exact q
    ·exact q
 ·split
  ·unfold jX
   rw[q.ns]
   simp only[List.getElem?_nil,ite_self]
   exact q
  ·split
   ·unfold cd
    split
    case isFalse=>exact q
    split
    ·split
     ·exact⟨q.ns,q.hs,q.f⟩
     ·exact q.set (q.at _)
    ·exact q
   ·exact q
theorem Loose.plays{w:Wd}(q:Loose w):∀ {es:List Ev},(∀ e∈es,e.k≠7/\e.k≠8)->Loose (bA w es)
 | [],_=>q
 | e::es,h=>(q.do_ (h e (by simp)).1 (h e (by simp)).2).plays (fun x hx=>h x (by simp[hx]))
theorem Loose.new{rooms:List Int}{w:Wd}(h:aV rooms=some w):Loose w:=by
 have q:=Quiet.new h
 unfold aV at h
 split at h
 case isFalse=>cases h
 simp only[Option.some.injEq]at h;subst h
 exact⟨rfl,q.hs,rfl⟩
theorem Loose.trips{w:Wd}(q:Loose w):ak w.dk true=[]:=by
 unfold ak aj aW
 simp[q.f,bb,bN]
end Dx
namespace Dx
variable {w:Wd}
theorem Fwd.rfl'(v:V):Fwd v v:=⟨tpre.rfl' _,fun _ _ _ _=>hle.rfl' _⟩
theorem Fwd.trans{a b c:V}(h1:Fwd a b)(h2:Fwd b c):Fwd a c:=⟨h1.F.trans h2.F,fun h t hh ht=>(h1.h h t hh ht).trans (h2.h h t hh ht)⟩
theorem Fwd.same{a b:V}(hF:b.F=a.F)(hh:∀ h t,isH h->b.hF h t=a.hF h t):Fwd a b:=⟨by rw[hF];exact tpre.rfl' _,fun h t hi _=>by rw[hh h t hi];exact hle.rfl' _⟩
theorem sD{d:Desk}(h:DkOk d){r:Rec}(hr:aF r=true):ak (aZ d r) true=ak d true:=by
 by_cases hc:d.up=true/\cg (ak d false) r=true
 ·exact(jI h hr hc).2.1
 ·rw[kl hc]
theorem yr(ho:WOk w)(i:Int):Fwd (vw w) (vw (cR w i)):=by
 unfold cR
 split
 ·refine⟨?_,fun _ _ _ _=>hle.rfl' _⟩
  show tpre (ak w.dk true) (ak (bU w.dk) true)
  by_cases hu:w.dk.up=true
  ·rw[dk_force.1 hu];exact wR ho.dk
  ·have:bU w.dk=w.dk:=by unfold bU;rw[if_neg hu]
   rw[this];exact tpre.rfl' _
 ·split
  ·rename_i hi
   have hi:isH i:=in_iff.1 hi
   obtain⟨_,hho,_⟩:=ho.houseAt hi
   refine⟨tpre.rfl' _,fun h t hh ht=>?_⟩
   rw[(cT ho hi _ hh).1]
   split
   ·rename_i e;subst e
    by_cases hu:(houseAt w h).up=true
    ·rw[hs_force.1 hu];exact xm hho ht.1
    ·have:cf (houseAt w h)=houseAt w h:=by unfold cf;rw[if_neg hu]
     rw[this];exact hle.rfl' _
   ·exact hle.rfl' _
  ·exact Fwd.rfl' _
theorem Fu(ho:WOk w)(I:Inv (vw w))(e:Ev):Fwd (vw w) (vw (wdo w e)):=by
 unfold wdo
 split
 ·unfold gI
  split
  ·unfold fF;split
   ·rename_i hr;exact Fwd.same (sD ho.dk hr) fun _ _ _=>rfl
   ·exact Fwd.rfl' _
  ·split
   ·unfold iU;split
    ·rename_i ht;exact Fwd.same (sD ho.dk (rj (k:=6) (by omega) (in_iff.1 ht))) fun _ _ _=>rfl
    ·exact Fwd.rfl' _
   ·split
    ·split
     ·unfold iA;split<;>exact Fwd.same rfl fun _ _ _=>rfl
     ·exact Fwd.rfl' _
    ·exact Fwd.rfl' _
 ·split
  ·unfold jX
   split
   ·exact Fwd.rfl' _
   ·rename_i x hx
    have hx:WdOk x:=by
     split at hx
     ·exact ho.ns x (List.mem_of_getElem? hx)
     ·cases hx
    split
    ·exact Fwd.same rfl fun _ _ _=>rfl
    ·split
     ·unfold iA;split<;>exact Fwd.same rfl fun _ _ _=>rfl
     ·have k:=Cd (ho.take e.a) hx
      have k2:Fwd (vw w) (vw (bH (ez w e.a) x).1):=Fwd.same k.1 k.2
      cases (bH (ez w e.a) x).2 with
      | none=>exact k2
      | some y =>
       show Fwd (vw w) (vw (iA (bH (ez w e.a) x).1 y))
       refine k2.trans ?_
       unfold iA
       split<;>exact Fwd.same rfl fun _ _ _=>rfl
  ·split
   ·unfold cd
    split
    case isFalse=>exact Fwd.rfl' _
    rename_i ha
    have ha:=in_iff.1 ha
    split
    ·exact yr ho _
    ·split
     ·split
      ·exact⟨(xo ho.dk e.b).2.1,fun _ _ _ _=>hle.rfl' _⟩
      ·have hi:isH e.a:=⟨by omega,by omega⟩
       obtain⟨_,hho,_⟩:=ho.houseAt hi
       refine⟨tpre.rfl' _,fun h t hh ht=>?_⟩
       rw[(cT ho hi _ hh).1]
       split
       ·rename_i e;subst e;exact((xn hho _).2 ht.1).1
       ·exact hle.rfl' _
     ·split
      ·split
       ·exact Fwd.rfl' _
       ·have hi:isH e.a:=⟨by omega,by omega⟩
        refine Fwd.same rfl fun h t hh=>?_
        rw[(cT ho hi _ hh).1]
        split
        ·rename_i e;subst e;rfl
        ·rfl
      ·exact Fwd.rfl' _
   ·exact Fwd.rfl' _
theorem yt(ho:WOk w)(I:Inv (vw w))(es:List Ev):Fwd (vw w) (vw (bA w es)):=by
 induction es generalizing w with
 | nil=>exact Fwd.rfl' _
 | cons e es ih=>exact(Fu ho I e).trans (ih (ho.do_ e) (xp ho I e))
def dj(w:Wd):List Int:=w.hs.map (·.room)
theorem im{i:Int}{x:House}(hx:x.room=(houseAt w i).room):dj (setHouse w i x)=dj w:=by
 unfold dj setHouse
 rw[List.map_set,hx]
 unfold houseAt
 by_cases h:(i-1).toNat<w.hs.length
 ·rw[List.getElem?_eq_getElem h]
  simp only[Option.getD_some]
  rw[<-List.getElem_map (f:=fun x:House=>x.room) (h:=by simpa using h),List.set_getElem_self]
 ·rw[List.set_eq_of_length_le (by simp;omega)]
theorem kn(x:Word):dj (iA w x)=dj w:=by unfold iA;split<;>rfl
theorem vd(x:Word):dj (bH w x).1=dj w:=by
 unfold bH
 split
 ·rfl
 ·exact im (sr _ _).2.2
theorem zo(e:Ev):dj (wdo w e)=dj w:=by
 unfold wdo
 split
 ·unfold gI
  split
  ·rfl
  ·split
   ·rfl
   ·split
    ·split
     ·exact kn _
     ·rfl
    ·rfl
 ·split
  ·unfold jX
   split
   ·rfl
   ·split
    ·rfl
    ·split
     ·exact kn _
     ·rename_i x _ _ _
      have k:dj (bH (ez w e.a) x).1=dj w:=vd x
      cases (bH (ez w e.a) x).2 with
      | none=>exact k
      | some y=>exact(kn y).trans k
  ·split
   ·unfold cd
    split
    case isFalse=>rfl
    split
    ·unfold cR
     split
     ·rfl
     ·split
      ·exact im (kg _).2.1
      ·rfl
    ·split
     ·split
      ·rfl
      ·exact im rfl
     ·split
      ·split
       ·rfl
       ·exact im rfl
      ·rfl
   ·rfl
theorem rU(es:List Ev):dj (bA w es)=dj w:=by
 induction es generalizing w with
 | nil=>rfl
 | cons e es ih=>exact(ih (w:=wdo w e)).trans (zo e)
theorem yu{rooms:List Int}(h:aV rooms=some w):dj w=rooms:=by
 unfold aV at h
 split at h
 case isFalse=>cases h
 simp only[Option.some.injEq]at h;subst h
 unfold dj ch
 rw[List.map_map]
 show List.map (fun p=>p.1) (rooms.zipIdx 1)=rooms
 simp
theorem ve{rooms:List Int}{es:List Ev}(h:aU rooms es=some w):dj w=rooms:=by
 unfold aU at h
 split at h
 ·cases h
 simp only[Option.map_eq_some_iff]at h
 obtain⟨w0,h1,rfl⟩:=h
 exact(rU es).trans (yu h1)
theorem ko{rooms:List Int}{es:List Ev}(h:aU rooms es=some w)(n:Nat):∃ w1,aU rooms (es.take n)=some w1/\w=bA w1 (es.drop n)/\WOk w1/\Inv (vw w1):=by
 have h':=h
 unfold aU at h
 split at h
 ·cases h
 rename_i hl
 simp only[Option.map_eq_some_iff]at h
 obtain⟨w0,h1,rfl⟩:=h
 have h2:aU rooms (es.take n)=some (bA w0 (es.take n)):=by
  unfold aU
  rw[if_neg (by rw[List.length_take];omega),h1];rfl
 obtain⟨o,I⟩:=cF h2
 refine⟨_,h2,?_,o,I⟩
 have e:∀(a b:List Ev) (w:Wd),bA w (a++b)=bA (bA w a) b:=by
  intro a
  induction a with
  | nil=>intro b w;rfl
  | cons x a ih=>intro b w;exact ih b (wdo w x)
 rw[<-e,List.take_append_drop]
end Dx
