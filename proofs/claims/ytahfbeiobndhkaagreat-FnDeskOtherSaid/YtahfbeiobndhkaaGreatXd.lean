import Derived.Test.YtahfbeiobndhkaaGreatXc
set_option linter.all false
namespace Dx
open Go
def Ctx.at(cx:Ctx)(M:Nat->Prop)(N:Nm)(env:List C)(rd:List Nat):Ctx:={cx with M0:=M,E0:=env,pin:=cx.pin++rd.map fun k=>(k,N k)}
section
variable {Φ:Phi} {cx:Ctx} {M M':Nat->Prop} {N N':Nm} {env env':List C} {s s':St} {tm tm':Array Value} {w w':World} {o:Out} {a:Act} {P:Program} {op:Oper}
theorem Sat.anchor(h:Sat cx M N env s tm w){rd:List Nat}(hrd:∀ k∈rd,k∈s.pk):Sat (cx.at M N env rd) M N env s tm w :=
 {os:=h.os,tape:=h.tape,output:=h.output,size:=h.size,frame:=h.frame,rlt:=h.rlt,mlt:=h.mlt,mto:=fun _ hb=>hb,mfrom:=fun _ hb=>.inl hb,
  pin:=fun p hp=>by
   simp only[Ctx.at,List.mem_append,List.mem_map]at hp
   rcases hp with hp|⟨k,hk,rfl⟩
   ·exact h.pin p hp
   ·exact⟨hrd k hk,KI.same.rfl' _⟩
  pre:=⟨[],(List.append_nil _).symm⟩
  nv:=h.nv,slen:=h.slen,slots:=h.slots,objs:=h.objs,blt:=h.blt,nodup:=h.nodup,apart:=h.apart,dist:=h.dist}
theorem Sat.back{rd:List Nat}(h0:Sat cx M N env s tm w)(h:Sat (cx.at M N env rd) M' N' env' s' tm' w'):Sat cx M' N' env' s' tm' w' :=
 {os:=h.os,tape:=h.tape,output:=h.output,size:=h.size,frame:=h.frame,rlt:=h.rlt,mlt:=h.mlt,mto:=fun b hb=>h.mto b (h0.mto b hb),
  mfrom:=fun b hb=>(h.mfrom b hb).elim (fun hm=>h0.mfrom b hm) .inr
  pin:=fun p hp=>h.pin p (List.mem_append_left _ hp)
  pre:=by
   obtain⟨ds,e1⟩:=h0.pre
   obtain⟨ds',e2⟩:=h.pre
   exact⟨ds++ds',by rw[e2,<-List.append_assoc,<-e1];rfl⟩
  nv:=h.nv,slen:=h.slen,slots:=h.slots,objs:=h.objs,blt:=h.blt,nodup:=h.nodup,apart:=h.apart,dist:=h.dist}
theorem Sat.at_pin{rd:List Nat}(h:Sat (cx.at M N env rd) M' N' env' s' tm' w'){k:Nat}(hk:k∈rd):k∈s'.pk/\KI.same (N' k) (N k) :=
 h.pin (k,N k) (List.mem_append_right _ (List.mem_map.2 ⟨k,hk,rfl⟩))
def z4:List (Nat×SObj)->Option Nat
 | []=>none
 | (k,.foc _ _ _ _ _)::_=>some k
 | _::r=>z4 r
def shut:Nat->St->(St->Tree)->Tree
 | 0,s,K=>match z4 s.hp with
  | none=>K s
  | some _=>.fail
 | n+1,s,K=>match z4 s.hp with
  | none=>K s
  | some k=>match ar s.hp k with
   | some (.foc e row l i vs)=>la s k e row l i vs fun s'=>shut n s' K
   | _=>.fail
theorem oF{K:St->Tree}:∀(n:Nat) {M:Nat->Prop} {N:Nm} {env:List C} {s:St},den Φ (shut n s K) env=some o->Sat cx M N env s tm w->mz Φ K o cx tm w
 | 0,M,N,env,s,hn,hs=>by
  simp only[shut]at hn
  split at hn
  ·exact⟨s,env,M,N,hn,hs⟩
  ·cases hn
 | n+1,M,N,env,s,hn,hs=>by
  simp only[shut]at hn
  split at hn
  ·exact⟨s,env,M,N,hn,hs⟩
  ·split at hn
   case h_2=>cases hn
   rename_i k _ e row l i vs hg
   obtain⟨s',env',M',N',h1,h2⟩:=jI hn hs hg
   exact oF n h1 h2
mutual
def SV.sls:SV->List Nat
 | .sl k=>[k]
 | .fn _ vs=>SV.slsL vs
 | .agg vs=>SV.slsL vs
 | .tuple vs=>SV.slsL vs
 | _=>[]
def SV.slsL:List SV->List Nat
 | []=>[]
 | x::xs=>x.sls++SV.slsL xs
end
def BS(s:St):List SV->List Nat
 | []=>[]
 | .ptr k _::xs=>match ar s.hp k with
  | some (.cells vs)=>SV.slsL vs++BS s xs
  | _=>BS s xs
 | x::xs=>x.sls++BS s xs
def oG:List Nat->St->(St->Tree)->Tree
 | [],s,K=>K s
 | k::r,s,K=>match ar s.hp k with
  | some (.foc e row l i vs)=>la s k e row l i vs fun s=>oG r s K
  | _=>oG r s K
theorem gu{K:St->Tree}:∀(ks:List Nat) {M:Nat->Prop} {N:Nm} {env:List C} {s:St},den Φ (oG ks s K) env=some o->Sat cx M N env s tm w->mz Φ K o cx tm w
 | [],M,N,env,s,hn,hs=>⟨s,env,M,N,hn,hs⟩
 | k::r,M,N,env,s,hn,hs=>by
  simp only[oG]at hn
  split at hn
  ·rename_i e row l i vs hg
   obtain⟨s',env',M',N',h1,h2⟩:=jI hn hs hg
   exact gu r h1 h2
  ·exact gu r hn hs
def z5(s:St):List SV->Bool
 | []=>false
 | .sl k::r=>match ar s.hp k with
  | none=>true
  | some _=>z5 s r
 | _::r=>z5 s r
mutual
def SV.blobK(k:Nat):SV->SV
 | .sl j=>match Nat.beq j k with
  | true=>.blob
  | false=>.sl j
 | .fn f vs=>.fn f (SV.blobKs k vs)
 | .agg vs=>.agg (SV.blobKs k vs)
 | .tuple vs=>.tuple (SV.blobKs k vs)
 | x=>x
def SV.blobKs(k:Nat):List SV->List SV
 | []=>[]
 | x::xs=>x.blobK k::SV.blobKs k xs
end
def SObj.blobK(k:Nat):SObj->SObj
 | .cells vs=>.cells (SV.blobKs k vs)
 | .arr e row l'=>.arr e row l'
 | .foc e row l' i vs=>.foc e row l' i (SV.blobKs k vs)
 | .map es=>.map es
 | .smap es=>.smap es
 | .bld T e a=>.bld T e a
def qe(k:Nat):List (Nat×SObj)->List (Nat×SObj)
 | []=>[]
 | (j,o)::r=>(j,o.blobK k)::qe k r
def blobS(k:Nat)(d:Tmp)(s:St):St:={s with sl:=vz (SV.blobKs k s.sl) d (.sl k),hp:=qe k s.hp}
theorem l8(k:Nat):∀(hp:List (Nat×SObj)) (j:Nat),ar (qe k hp) j=(ar hp j).map (SObj.blobK k)
 | [],_=>rfl
 | (i,o)::r,j=>by
  simp only[qe]
  rw[aq,aq]
  split
  ·rfl
  ·exact l8 k r j
theorem jO(k:Nat):∀ xs:List SV,(SV.blobKs k xs).length=xs.length
 | []=>rfl
 | x::xs=>by simp[SV.blobKs,jO k xs]
theorem l9(k:Nat):∀(xs:List SV) (i:Nat),cr (SV.blobKs k xs) i=(cr xs i).blobK k
 | [],i=>by simp[SV.blobKs,cr,SV.blobK]
 | x::xs,0=>rfl
 | x::xs,i+1=>l9 k xs i
mutual
theorem vW{R:Nat->Prop}{k:Nat}(hk:∃ A n c,(N k).v=.slice A n c):∀(x:SV) (v:Value),svm w M R N env x v->svm w M R N env (x.blobK k) v
 | .sl j,v,h=>by
  simp only[SV.blobK]
  split
  ·rename_i e
   have:=br e;subst this
   rw[svm]at h
   obtain⟨A,n,c,e2⟩:=hk
   rw[svm,h,e2];exact⟨rfl,rfl⟩
  ·exact h
 | .fn f vs,v,h=>by
  simp only[SV.blobK];rw[svm]at h ⊢
  obtain⟨cs,h1,h2⟩:=h
  exact⟨cs,h1,eY hk vs _ h2⟩
 | .agg vs,v,h=>by
  simp only[SV.blobK];rw[svm]at h ⊢
  obtain⟨cs,h1,h2⟩:=h
  exact⟨cs,h1,eY hk vs _ h2⟩
 | .tuple vs,v,h=>by
  simp only[SV.blobK];rw[svm]at h ⊢
  obtain⟨cs,h1,h2⟩:=h
  exact⟨cs,h1,eY hk vs _ h2⟩
 | .any,_,h|.int _ _,_,h|.bool _,_,h|.str _,_,h|.view _ _,_,h|.nil,_,h|.ptr _ _,_,h|.eptr _ _ _ _,_,h|.vptr _ _,_,h|.nilptr,_,h|.blob,_,h=>h
theorem eY{R:Nat->Prop}{k:Nat}(hk:∃ A n c,(N k).v=.slice A n c):∀(xs:List SV) (vs:List Value),svms w M R N env xs vs->svms w M R N env (SV.blobKs k xs) vs
 | [],_,h=>h
 | x::xs,vs,h=>by
  simp only[SV.blobKs];rw[svms]at h ⊢
  obtain⟨v,vs',h1,h2,h3⟩:=h
  exact⟨v,vs',h1,vW hk x v h2,eY hk xs vs' h3⟩
end
theorem CZ{R:Nat->Prop}{k:Nat}(hk:∃ A n c,(N k).v=.slice A n c){j:Nat}{o:SObj}(h:obm w M R N env j o):obm w M R N env j (o.blobK k):=by
 cases o with
 | cells vs =>
  obtain⟨b,arr,us,h1,h2,h3,h4,h5⟩:=h
  exact⟨b,arr,us,h1,h2,h3,h4,eY hk vs us h5⟩
 | arr e row l'=>exact h
 | foc e row l' i vs =>
  obtain⟨vals,X1,X2,j',es,h1,h2,h3,h4,h5,h6,h7,h8,h9⟩:=h
  exact⟨vals,X1,X2,j',es,h1,h2,h3,h4,h5,h6,eY hk vs _ h7,by rw[jO];exact h8,h9⟩
 | map es=>exact h
 | smap es=>exact h
 | bld T e a=>exact h
theorem Sat.blobS(h:Sat cx M N env s a.tmps w){k:Nat}{d:Tmp}(hg:Eo s k=true)(hd:cr s.sl d=.sl k):Sat cx M N env (blobS k d s) a.tmps w:=by
 have hk:=h.slVal hg
 have old:∀ j o,ar (qe k s.hp) j=some o->∃ o',ar s.hp j=some o'/\o=o'.blobK k:=fun j o hg=>by
  rw[l8]at hg
  cases hq:ar s.hp j with
  | none=>rw[hq]at hg;cases hg
  | some o'=>rw[hq]at hg;simp only[Option.map_some,Option.some.injEq]at hg;exact⟨o',rfl,hg.symm⟩
 exact {h with
  slen:=by simp[Dx.blobS,gS,jO,h.slen]
  slots:=fun i=>by
   show svm w M cx.R N env (cr (vz (SV.blobKs k s.sl) d (.sl k)) i) _
   rw[gS,vA]
   split
   ·rename_i e
    have:=h.slots i
    rw[e.1,hd]at this
    rw[e.1];exact this
   ·rw[l9];exact vW hk _ _ (h.slots i)
  objs:=fun j o hg=>by obtain⟨o',h1,rfl⟩:=old j o hg;exact CZ hk (h.objs j o' h1)
  blt:=fun j o b hg hb=>by obtain⟨o',h1,_⟩:=old j o hg;exact h.blt j o' b h1 hb
  nodup:=fun j o hg=>by obtain⟨o',h1,_⟩:=old j o hg;exact h.nodup j o' h1
  apart:=fun j o b hg hb=>by obtain⟨o',h1,_⟩:=old j o hg;exact h.apart j o' b h1 hb
  dist:=fun j j' o o' b h1 h2=>by
   obtain⟨o1,g1,_⟩:=old j o h1
   obtain⟨o2,g2,_⟩:=old j' o' h2
   exact h.dist j j' o1 o2 b g1 g2}
def At.same:At->At->Bool
 | .v i,.v j=>Nat.beq i j
 | .n x,.n y=>x==y
 | _,_=>false
def IJ(T:Tab)(s:St)(k e:Nat)(row:List Sh)(l j:At)(K:St->Tree):Tree :=
 match T e with
 | some ie=>match uk ie.zero with
  | some ks=>EL s k e row l j ks K
  | none=>.fail
 | none=>.fail
def mM(T:Tab)(s:St)(k:Nat)(j:At)(K:St->Tree):Tree :=
 match ar s.hp k with
 | some (.foc e row l i vs)=>match At.same i j || z5 s vs with
  | true=>K s
  | false=>la s k e row l i vs fun s'=>match ar s'.hp k with
   | some (.arr e row l)=>IJ T s' k e row l j K
   | _=>.fail
 | some (.arr e row l)=>IJ T s k e row l j K
 | _=>.fail
theorem AH{T:Tab}{k e:Nat}{row:List Sh}{l j:At}{K:St->Tree}(hn:den Φ (IJ T s k e row l j K) env=some o)(hs:Sat cx M N env s tm w)(hg:ar s.hp k=some (.arr e row l)):mz Φ K o cx tm w:=by
 unfold IJ at hn
 split at hn
 case h_2=>cases hn
 split at hn
 case h_2=>cases hn
 exact CR hn hs hg
theorem iX{T:Tab}{k:Nat}{j:At}{K:St->Tree}(hn:den Φ (mM T s k j K) env=some o)(hs:Sat cx M N env s tm w):mz Φ K o cx tm w:=by
 unfold mM at hn
 split at hn
 ·rename_i e row l i vs hg
  split at hn
  ·exact⟨s,env,M,N,hn,hs⟩
  ·obtain⟨s',env',M',N',h1,h2⟩:=jI hn hs hg
   dsimp only at h1
   split at h1
   case h_2=>cases h1
   rename_i hg'
   exact AH h1 h2 hg'
 ·rename_i hg
  exact AH hn hs hg
 ·cases hn
def Et(s:St)(k:Nat)(K:St->Tree):Tree :=
 match ar s.hp k with
 | some (.arr _ _ l)=>K (frz k l s)
 | _=>.fail
def isSome{α:Type}:Option α->Bool
 | some _=>true
 | none=>false
def IK(G:Env)(s:St)(op:Op)(K:St->Tree):Tree :=
 match op with
 | .load t x=>match opnd s.sl x with
  | .eptr k _ j off=>match ar s.hp k,G.T t with
   | some (.arr _ row _),some i=>match bL ((row.drop off).take i.sz)with
    | true=>K s
    | false=>mM G.T s k j K
   | _,_=>mM G.T s k j K
  | _=>K s
 | .store _ x _=>match opnd s.sl x with
  | .eptr k _ j _=>match ar s.hp k with
   | some (.arr _ row _)=>match bL row with
    | true=>K s
    | false=>mM G.T s k j K
   | _=>mM G.T s k j K
  | _=>K s
 | .slice _ x lo _ _=>match opnd s.sl x with
  | .sl k=>oG [k] s fun s=>match G.tr with
   | true=>K s
   | false=>Et s k K
  | _=>K s
 | .call c=>match c.callee with
  | .value _=>match dv s.sl c with
   | some (_,xs)=>oG (BS s xs) s K
   | none=>K s
  | .builtin .append=>match c.args.toList with
   | .tmp d::ys=>oG (SV.slsL (cr s.sl d::ys.map (opnd s.sl))) s fun s=>match cr s.sl d with
    | .sl k=>match Eo s k with
     | true=>K (blobS k d s)
     | false=>.fail
    | _=>K s
   | ys=>oG (SV.slsL (ys.map (opnd s.sl))) s K
  | _=>K s
 | _=>K s
theorem AI{G:Env}{op:Op}{K:St->Tree}(hn:den Φ (IK G s op K) env=some o)(hs:Sat cx M N env s a.tmps w):mz Φ K o cx a.tmps w:=by
 have stay:den Φ (K s) env=some o->mz Φ K o cx a.tmps w:=fun h=>⟨s,env,M,N,h,hs⟩
 unfold IK at hn
 split at hn
 ·split at hn
  ·split at hn
   ·split at hn
    ·exact stay hn
    ·exact iX hn hs
   ·exact iX hn hs
  ·exact stay hn
 ·split at hn
  ·split at hn
   ·split at hn
    ·exact stay hn
    ·exact iX hn hs
   ·exact iX hn hs
  ·exact stay hn
 ·split at hn
  ·obtain⟨s',env',M',N',h1,h2⟩:=gu _ hn hs
   split at h1
   ·exact⟨s',env',M',N',h1,h2⟩
   ·unfold Et at h1
    dsimp only at h1
    split at h1
    case h_2=>cases h1
    rename_i e row l hg
    exact⟨_,_,_,_,h1,h2.frz hg⟩
  ·exact stay hn
 ·split at hn
  ·split at hn
   ·exact gu _ hn hs
   ·exact stay hn
  ·split at hn
   ·rename_i d ys hy
    obtain⟨s',env',M',N',h1,h2⟩:=gu _ hn hs
    dsimp only at h1
    split at h1
    ·rename_i k hd
     split at h1
     case h_2=>cases h1
     rename_i hsl
     exact⟨_,env',M',N',h1,h2.blobS hsl hd⟩
    ·exact⟨_,env',M',N',h1,h2⟩
   ·exact gu _ hn hs
  ·exact stay hn
 ·exact stay hn
def eqb:Bool->Bool->Bool
 | true,true=>true
 | false,false=>true
 | _,_=>false
theorem KQ(a b:Bool):eqb a b=(a==b):=by cases a<;>cases b<;>rfl
def vX{α:Type}:List α->Nat->Option α
 | [],_=>none
 | x::_,0=>some x
 | _::l,n+1=>vX l n
theorem sZ{α:Type}:∀(l:List α) (n:Nat),vX l n=l[n]?
 | [],n=>by simp[vX]
 | x::l,0=>rfl
 | x::l,n+1=>by simp[vX,sZ l n]
inductive Gd where
 | run
 | skip
 | ask (d:Tmp) (a:At) (want:Bool)
 | bad
def gd(ops:List Oper)(s:St)(o:Oper):Gd :=
 match o.guard with
 | none=>.run
 | some (j,want)=>match vX ops j with
  | some oj=>match oj.dst with
   | some d=>match cr s.sl d with
    | .bool (.b b)=>match eqb b want with
     | true=>.run
     | false=>.skip
    | .bool a=>.ask d a want
    | .tuple []=>.skip
    | _=>.bad
   | none=>.bad
  | none=>.bad
theorem yL{ops:Array Oper}{j d:Nat}{oj:Oper}{tm:Array Value}{b:Bool}(hj:ops[j]?=some oj)(hd:oj.dst=some d)(hv:tm.getD d undef=.bool b):yielded ops tm j=some b:=by
 unfold yielded
 rw[hj,Option.bind_some,hd,Option.bind_some]
 rw[Array.getD]at hv
 split at hv
 ·rename_i hlt
  rw[Array.getElem?_eq_getElem hlt]
  have:tm[d]=.bool b:=hv
  rw[this]
 ·cases hv
theorem BT{ops:Array Oper}{op:Oper}(hs:Sat cx M N env s tm w):(gd ops.toList s op=.run->Region.wanted op (yielded ops tm)=true)/\(gd ops.toList s op=.skip->Region.wanted op (yielded ops tm)=false):=by
 unfold gd
 split
 ·rename_i hno
  exact⟨fun _=>by simp[Region.wanted,hno],fun h=>by cases h⟩
 ·rename_i j want hj
  split
  case h_2=>exact⟨fun h=>(by cases h),fun h=>(by cases h)⟩
  rename_i oj hoj
  rw[sZ,Array.getElem?_toList]at hoj
  split
  case h_2=>exact⟨fun h=>(by cases h),fun h=>(by cases h)⟩
  rename_i d hod
  split
  ·rename_i b hb
   have hv:=hs.slots d
   rw[hb,svm]at hv
   have hy:=yL hoj hod hv
   have hw:Region.wanted op (yielded ops tm)=eqb b want:=by simp[Region.wanted,hj,hy,KQ,At.den]
   rw[hw]
   split
   ·rename_i e;exact⟨fun _=>e,fun h=>(by cases h)⟩
   ·rename_i e;exact⟨fun h=>(by cases h),fun _=>e⟩
  ·exact⟨fun h=>(by cases h),fun h=>(by cases h)⟩
  ·rename_i ht
   have hv:=hs.slots d
   rw[ht,svm]at hv
   obtain⟨cs,h1,h2⟩:=hv
   rw[svms]at h2
   have hcs:cs=#[]:=by apply Array.ext';exact h2
   subst hcs
   have hy:yielded ops tm j=none:=by
    unfold yielded
    rw[hoj,Option.bind_some,hod,Option.bind_some]
    rw[Array.getD]at h1
    split at h1
    ·rename_i hlt
     rw[Array.getElem?_eq_getElem hlt]
     have:tm[d]=.tuple #[]:=h1
     rw[this]
    ·rename_i hlt
     rw[Array.getElem?_eq_none (by omega)]
   exact⟨fun h=>(by cases h),fun _=>by simp[Region.wanted,hj,hy]⟩
  ·exact⟨fun h=>(by cases h),fun h=>(by cases h)⟩
theorem lD{R:Nat->Prop}:svm w M R N env (.tuple []) undef:=by
 rw[svm];exact⟨#[],rfl,by simp[svms]⟩
theorem Eu{ops:List Oper}{op:Oper}{d:Tmp}{x:At}{want:Bool}(h:gd ops s op=.ask d x want):cr s.sl d=.bool x:=by
 unfold gd at h
 repeat' split at h
 all_goals first
  | (cases h;done)
  | (simp only[Gd.ask.injEq]at h;obtain⟨rfl,rfl,rfl⟩:=h;assumption)
theorem C0{tm:Array Value}{d:Nat}{v:Value}(h:tm.getD d undef=v):tm.setIfInBounds d v=tm:=by
 apply Array.ext (by simp)
 intro i h1 h2
 rw[Array.getElem_setIfInBounds]
 split
 ·rename_i e;subst e
  rw[<-h,Array.getD,dif_pos h2];rfl
 ·rfl
theorem Sat.know(h:Sat cx M N env s tm w){d:Nat}{x:At}(hd:cr s.sl d=.bool x){b:Bool}(hb:(x.den env).toBool=b):Sat cx M N env (ct s (some d) (.bool (.b b))) tm w:=by
 have hv:=h.slots d
 rw[hd,svm,hb]at hv
 have:=h.put (some d) (x:=.bool (.b b)) (v:=.bool b) (by rw[svm];rfl)
 dsimp only at this
 rwa [C0 hv]at this
def Now(Φ:Phi)(K:St->Tree)(o:Out)(cx:Ctx)(a:Act)(w:World):Prop:=∃ s env M N,den Φ (K s) env=some o/\Sat cx M N env s a.tmps w/\a.defers=[]
def IL(s:St)(d:Tmp)(x:At)(K:St->Tree):Tree:=.ite x (K (ct s (some d) (.bool (.b true)))) (K (ct s (some d) (.bool (.b false))))
theorem AJ{d:Tmp}{x:At}{K:St->Tree}(hn:den Φ (IL s d x K) env=some o)(hs:Sat cx M N env s tm w)(hd:cr s.sl d=.bool x):∃ b,den Φ (K (ct s (some d) (.bool (.b b)))) env=some o/\Sat cx M N env (ct s (some d) (.bool (.b b))) tm w:=by
 unfold IL at hn
 rw[den]at hn
 cases hb:(x.den env).toBool with
 | true=>rw[hb]at hn;exact⟨true,hn,hs.know hd hb⟩
 | false=>rw[hb]at hn;exact⟨false,hn,hs.know hd hb⟩
def opT(G:Env)(op:Oper)(s:St)(rd:List Nat)(K:St->Tree):Tree:=IK G s op.op fun s=>dOp G op s rd K
def BU(G:Env)(ops:List Oper)(op:Oper)(s:St)(K:St->Tree):Tree :=
 match gd ops s op with
 | .run=>opT G op s [] K
 | .skip=>K (ct s op.dst (.tuple []))
 | _=>.fail
def yM(G:Env)(ops:List Oper):List Oper->St->(St->Tree)->Tree
 | [],s,K=>K s
 | op::os,s,K=>match gd ops s op with
  | .ask d x _=>IL s d x fun s=>BU G ops op s fun s=>yM G ops os s K
  | _=>BU G ops op s fun s=>yM G ops os s K
theorem FR{G:Env}(hG:EnvOk P G Φ){K:St->Tree}{rd:List Nat}(hn:den Φ (opT G op s rd K) env=some o)(hs:Sat cx M N env s a.tmps w)(hd:a.defers=[])(Q:Exit->Act->World->Prop):op.wp P a w (Now Φ K o cx) Q:=by
 obtain⟨s',env',M',N',h1,h2⟩:=AI hn hs
 refine Oper.wp_mono ?_ (Es hG h1 h2 Q)
 rintro a' w' ⟨s2,env2,M2,N2,g1,g2,g3,_⟩
 exact⟨s2,env2,M2,N2,g1,g2,g3.trans hd⟩
theorem vY{G:Env}(hG:EnvOk P G Φ){ops:Array Oper}{i:Nat}(hi:ops[i]?=some op){K:St->Tree}(hn:den Φ (BU G ops.toList op s K) env=some o)(hs:Sat cx M N env s a.tmps w)(hd:a.defers=[])(Q:Exit->Act->World->Prop)
  {R:Act->World->Prop} (hR:∀ a w,Now Φ K o cx a w->R a w):wpOp P ops Q i R a w:=by
 unfold wpOp
 rw[hi]
 dsimp only
 obtain⟨g1,g2⟩:=BT (ops:=ops) (op:=op) hs
 unfold BU at hn
 split at hn
 ·rename_i e
  rw[if_pos (g1 e)]
  exact .inl (Oper.wp_mono hR (FR hG hn hs hd Q))
 ·rename_i e
  rw[if_neg (by rw[g2 e];simp)]
  refine hR _ _ ⟨_,env,M,N,hn,?_,(aX a op.dst undef).2.trans hd⟩
  rw[(aX a op.dst undef).1]
  exact hs.put op.dst lD
 ·cases hn
theorem FS{G:Env}(hG:EnvOk P G Φ){ops:Array Oper}{Q:Exit->Act->World->Prop}{K:St->Tree}(hQ:∀ a w,Now Φ K o cx a w->Q .normal a w):∀(n i:Nat),n=ops.size-i->∀ {s:St} {env:List C},den Φ (yM G ops.toList (ops.toList.drop i) s K) env=some o ->
  ∀ {M:Nat->Prop} {N:Nm} {a:Act} {w:World},Sat cx M N env s a.tmps w->a.defers=[]->wpOps P ops Q ((List.range ops.size).drop i) a w:=by
 intro n
 induction n with
 | zero =>
  intro i hn s env hv M N a w hs hd
  have hi:ops.size<=i:=by omega
  rw[List.drop_eq_nil_of_le (by simpa using hi)]at hv ⊢
  rw[yM]at hv
  exact hQ a w ⟨s,env,M,N,hv,hs,hd⟩
 | succ n ih =>
  intro i hn s env hv M N a w hs hd
  have hi:i<ops.size:=by omega
  have e1:ops.toList.drop i=ops[i]::ops.toList.drop (i+1):=by
   rw[List.drop_eq_getElem_cons (by simpa using hi)];simp
  have e2:(List.range ops.size).drop i=i::(List.range ops.size).drop (i+1):=by
   rw[List.drop_eq_getElem_cons (by simpa using hi)];simp
  rw[e1,yM]at hv
  rw[e2,wpOps_cons]
  have next:∀ a w,Now Φ (fun s=>yM G ops.toList (ops.toList.drop (i+1)) s K) o cx a w->wpOps P ops Q ((List.range ops.size).drop (i+1)) a w:=by
   rintro a w ⟨s',env',M',N',h1,h2,h3⟩
   exact ih (i+1) (by omega) h1 h2 h3
  split at hv
  ·rename_i d x want hask
   obtain⟨b,h1,h2⟩:=AJ hv hs (Eu hask)
   exact vY hG (Array.getElem?_eq_getElem hi) h1 h2 hd Q next
  ·exact vY hG (Array.getElem?_eq_getElem hi) hv hs hd Q next
end
end Dx
namespace Dx
open Go
def SW(cx:Ctx)(M:Nat->Prop)(N:Nm)(rd:List Nat)(w:World):World->Prop:=fun w'=>(∀ b,M b\/cx.R b->w'.heap[b]?=w.heap[b]?)/\∀ k∈rd,∀ b∈(N k).φ,w'.heap[b]?=w.heap[b]?
theorem SW.rfl'{cx:Ctx}{M:Nat->Prop}{N:Nm}{rd:List Nat}{w:World}:SW cx M N rd w w:=⟨fun _ _=>rfl,fun _ _ _ _=>rfl⟩
theorem ma{P:Program}{md:Region.Mode}{ops:Array Oper}{Q:Exit->Act->World->Prop}{S S':World->Prop}(h:∀ w,S w->S' w):∀(fuel:Nat) (listed:Array Bool) (a:Act) (w:World),wpAnyH P md ops Q S fuel listed a w->wpAnyH P md ops Q S' fuel listed a w
 | 0,_,_,_,hh=>hh
 | fuel+1,_,_,_,hh=>⟨hh.1,fun i hi=>wpOp_mono (fun a' w' h'=>⟨h w' h'.1,ma h fuel _ a' w' h'.2⟩) (hh.2 i hi)⟩
def cO(rd:List Nat)(s:St):Bool:=match rd with
 | []=>true
 | k::r=>match ar s.hp k with
  | some (.cells _)=>cO r s
  | _=>false
theorem cK{s:St}:∀ {rd:List Nat},cO rd s=true->∀ k∈rd,∃ vs,ar s.hp k=some (.cells vs)
 | [],_,k,hk=>by simp at hk
 | j::r,h,k,hk=>by
  simp only[cO]at h
  split at h
  case h_2=>cases h
  rename_i vs hg
  rcases List.mem_cons.1 hk with rfl|hk
  ·exact⟨vs,hg⟩
  ·exact cK h k hk
theorem c9{s s':St}(h:s'.hp=s.hp):∀ {rd:List Nat},cO rd s'=cO rd s
 | []=>rfl
 | k::r=>by simp only[cO,h,c9 h]
def yN(rd:List Nat)(s:St)(op:Op)(n:NF):Bool :=
 match n with
 | .bad|.mk _ _|.erow _ _ _ _ _ _=>false
 | _=>match op with
  | .load _ x=>match opnd s.sl x with
   | .ptr k _=>qb k rd
   | .vptr _ _=>true
   | _=>false
  | _=>true
section
variable {Φ:Phi} {cx:Ctx} {M:Nat->Prop} {N:Nm} {env:List C} {s:St} {tm:Array Value} {w:World} {o:Out} {a:Act} {P:Program} {op:Oper}
theorem fU(s:St)(d:Option Tmp)(v:SV):(ct s d v).hp=s.hp/\(ct s d v).pk=s.pk:=by cases d<;>exact⟨rfl,rfl⟩
theorem C1{T:Tab}{eqn:Nat->Option Nat}(hT:bK P T)(hE:Cd P eqn){rd:List Nat}{K:St->Tree}(hn:den Φ ((nf T eqn s op.op).tree s op.dst K) env=some o)(hs:Sat cx M N env s a.tmps w)(hq:yN rd s op.op (nf T eqn s op.op)=true) :
  ∃ val s' env',eJ P op a w val/\den Φ (K s') env'=some o/\Sat cx M N env' s' (a.put op.dst val).tmps w/\s'.hp=s.hp/\s'.pk=s.pk:=by
 have hok:=IH hT hE hs op
 have fin:∀ {val:Value} {v:SV} {s1:St} {env1:List C},eJ P op a w val->Sat cx M N env1 s1 a.tmps w->svm w M cx.R N env1 v val->den Φ (K (ct s1 op.dst v)) env1=some o->s1.hp=s.hp->s1.pk=s.pk ->
   ∃ val s' env',eJ P op a w val/\den Φ (K s') env'=some o/\Sat cx M N env' s' (a.put op.dst val).tmps w/\s'.hp=s.hp/\s'.pk=s.pk:=by
  intro val v s1 env1 h1 h2 h3 h4 h5 h6
  refine⟨val,_,env1,h1,h4,?_,(fU s1 op.dst v).1.trans h5,(fU s1 op.dst v).2.trans h6⟩
  rw[(aX a op.dst val).1]
  exact h2.put op.dst h3
 cases hn':nf T eqn s op.op with
 | bad=>rw[hn']at hn;cases hn
 | q v =>
  rw[hn']at hn hok
  obtain⟨val,h1,h2⟩:=hok
  exact fin h1 hs h2 hn rfl rfl
 | lt p args vt =>
  rw[hn']at hn hok
  obtain⟨val,h1,h2⟩:=hok
  obtain⟨x,s',ds,g1,g2,g3,g4,g5,g6,g7,_⟩:=cF (f:=fun a s=>K (ct s op.dst (vt.sv a))) hn hs
  exact fin h1 g2 (VT.svm (VT.sim g3 h2) rfl) g1 g5 g7
 | ckl p args p' args' vt =>
  rw[hn']at hn hok
  obtain⟨hc,hn⟩:=b9 hn
  obtain⟨val,h1,h2⟩:=hok hc
  obtain⟨x,s',ds,g1,g2,g3,g4,g5,g6,g7,_⟩:=cF (f:=fun a s=>K (ct s op.dst (vt.sv a))) hn hs
  exact fin h1 g2 (VT.svm (VT.sim g3 h2) rfl) g1 g5 g7
 | ck p args v =>
  rw[hn']at hn hok
  obtain⟨hc,hn⟩:=b9 hn
  obtain⟨val,h1,h2⟩:=hok hc
  exact fin h1 hs h2 hn rfl rfl
 | vrow t l i ks =>
  rw[hn']at hn hok
  simp only[NF.tree]at hn
  split at hn
  case h_2=>cases hn
  rename_i hso
  rw[den]at hn
  obtain⟨j,r,hj,hr,hk,hn⟩:=iU hn
  obtain⟨b,off,arr,ty,fr,h1,h2,h3,h4⟩:=hok j r hj hr hk
  have hlen:=aJ hk
  have hm:=hs.more hso r
  rw[hlen]at hm
  refine fin h1 hm ?_ hn rfl rfl
  rw[svm]
  refine⟨b,off,arr,ty,fr,rfl,h2,h3,?_⟩
  have:=cE (N:=N) (env:=env) [] hk h4
  rw[List.append_nil]at this
  rw[hs.nv,gf,<-hlen]
  exact this
 | erow l i ks ag off n=>rw[hn']at hq;cases hq
 | mk v ob=>rw[hn']at hq;cases hq
theorem uZ{rd:List Nat}{n:NF}(hq:yN rd s op.op n=true)(hs:Sat cx M N env s a.tmps w)(hrd:cO rd s=true){w':World}(hS:SW cx M N rd w w'):Alike op a w w':=by
 intro t x b ofs sp ho hx
 have hq':(match opnd s.sl x with|.ptr k _=>qb k rd|.vptr _ _=>true|_=>false)=true:=by
  rw[ho]at hq
  cases n<;>first|(cases hq;done)|exact hq
 have hv:=hs.opnd x
 split at hq'
 ·rename_i k off he
  have hk:=memN_iff.1 hq'
  obtain⟨vs,hg⟩:=cK hrd k hk
  obtain⟨b',arr,us,e1,e2,_⟩:=hs.objs k _ hg
  rw[he,svm]at hv
  obtain⟨b2,h1,h2⟩:=hv
  rw[h2]at hx
  simp only[Value.pointer.injEq,Option.some.injEq,Addr.mk.injEq]at hx
  rw[e1]at h1
  simp only[Value.pointer.injEq,Option.some.injEq,Addr.mk.injEq,and_true]at h1
  refine hS.2 k hk b ?_
  rw[e2,h1,hx.1];simp
 ·rename_i t' cells he
  rw[he,svm]at hv
  obtain⟨b2,o2,arr,T,fr,h1,h2,_⟩:=hv
  rw[h1]at hx
  simp only[Value.pointer.injEq,Option.some.injEq,Addr.mk.injEq]at hx
  refine hS.1 b ?_
  rw[<-hx.1]
  cases t' with
  | true=>exact .inl h2
  | false=>exact h2
 ·cases hq'
def Cg(i:Nat):List (Nat×Oper)->Bool
 | []=>false
 | (j,_)::r=>match Nat.beq i j with
  | true=>true
  | false=>Cg i r
def jP(i:Nat):List (Nat×Oper)->List (Nat×Oper)
 | []=>[]
 | (j,x)::r=>match Nat.beq i j with
  | true=>jP i r
  | false=>(j,x)::jP i r
theorem memI_iff{i:Nat}:∀ {l:List (Nat×Oper)},Cg i l=true↔∃ x,(i,x)∈l
 | []=>by simp[Cg]
 | (j,x)::r=>by
  simp only[Cg]
  split
  ·rename_i e;have:=br e;subst this;simp only[true_iff];exact⟨x,List.mem_cons_self⟩
  ·rename_i e
   have hne:=Nat.ne_of_beq_eq_false e
   rw[memI_iff]
   simp[hne]
theorem po{i j:Nat}{x:Oper}:∀ {l:List (Nat×Oper)},(j,x)∈jP i l↔(j,x)∈l/\j≠i
 | []=>by simp[jP]
 | (k,y)::r=>by
  simp only[jP]
  split
  ·rename_i e
   have:=br e;subst this
   rw[po]
   simp only[List.mem_cons,Prod.mk.injEq]
   constructor
   ·rintro⟨h1,h2⟩;exact⟨.inr h1,h2⟩
   ·rintro⟨h1|h1,h2⟩
    ·exact absurd h1.1 h2
    ·exact⟨h1,h2⟩
  ·rename_i e
   have hne:=Nat.ne_of_beq_eq_false e
   simp only[List.mem_cons,Prod.mk.injEq,po]
   constructor
   ·rintro(⟨rfl,rfl⟩|h)
    ·exact⟨.inl ⟨rfl,rfl⟩,fun h=>hne h.symm⟩
    ·exact⟨.inr h.1,h.2⟩
   ·rintro⟨h|h,h2⟩
    ·exact .inl h
    ·exact .inr ⟨h,h2⟩
theorem AK(i:Nat):∀ l:List (Nat×Oper),(jP i l).length<=l.length
 | []=>by simp[jP]
 | (k,y)::r=>by
  have:=AK i r
  simp only[jP]
  split<;>simp<;>omega
theorem AL{i:Nat}{x:Oper}:∀ {l:List (Nat×Oper)},(i,x)∈l->(jP i l).length<l.length
 | [],h=>by simp at h
 | (k,y)::r,h=>by
  simp only[jP]
  split
  ·have:=AK i r;simp;omega
  ·rename_i e
   rcases List.mem_cons.1 h with h|h
   ·simp only[Prod.mk.injEq]at h;exact absurd h.1 (Nat.ne_of_beq_eq_false e)
   ·have:=AL h;simp;omega
structure DInv (ops:Array Oper) (listed:Array Bool) (rem:List (Nat×Oper)):Prop where
 size:listed.size=ops.size
 mem:∀ j oj,(j,oj)∈rem↔ops[j]?=some oj/\listed.getD j true=false
theorem DInv.del{ops:Array Oper}{listed:Array Bool}{rem:List (Nat×Oper)}(h:DInv ops listed rem)(i:Nat):DInv ops (listed.setIfInBounds i true) (jP i rem):=by
 refine⟨by simp[h.size],fun j oj=>?_⟩
 rw[po,h.mem]
 by_cases e:j=i
 ·subst e
  simp only[ne_eq,not_true_eq_false,and_false,false_iff,not_and]
  intro _
  have:(listed.setIfInBounds j true).getD j true=true:=by
   rw[Array.getD]
   split
   ·simp
   ·rfl
  rw[this];simp
 ·rw[getD_set_ne true (Ne.symm e)]
  simp[e]
def IM(n:Nat)(rem:List (Nat×Oper))(op:Oper):Bool:=op.after.toList.all fun e=>match Region.binds .any e with
 | true=>Nat.blt e.on n && !Cg e.on rem
 | false=>true
def vZ(n:Nat)(rem:List (Nat×Oper)):List (Nat×Oper)->List (Nat×Oper)
 | []=>[]
 | (i,op)::r=>match IM n rem op with
  | true=>(i,op)::vZ n rem r
  | false=>vZ n rem r
theorem rdyL_mem{n:Nat}{rem:List (Nat×Oper)}{p:Nat×Oper}:∀ {l:List (Nat×Oper)},p∈vZ n rem l↔p∈l/\IM n rem p.2=true
 | []=>by simp[vZ]
 | (i,op)::r=>by
  simp only[vZ]
  split
  ·rename_i e
   rw[List.mem_cons,rdyL_mem,List.mem_cons]
   constructor
   ·rintro(rfl|h)
    ·exact⟨.inl rfl,e⟩
    ·exact⟨.inr h.1,h.2⟩
   ·rintro⟨h|h,h2⟩
    ·exact .inl h
    ·exact .inr ⟨h,h2⟩
  ·rename_i e
   rw[rdyL_mem,List.mem_cons]
   constructor
   ·rintro⟨h1,h2⟩;exact⟨.inr h1,h2⟩
   ·rintro⟨h|h,h2⟩
    ·rw[h]at h2;rw[h2]at e;cases e
    ·exact⟨h,h2⟩
theorem rW{ops:Array Oper}{listed:Array Bool}{rem:List (Nat×Oper)}(h:DInv ops listed rem){j:Nat}:listed.getD j false=true↔j<ops.size/\Cg j rem=false:=by
 have key:listed.getD j true=false↔j<listed.size/\listed[j]?=some false:=by
  rw[Array.getD];split
  ·rename_i hlt;rw[Array.getElem?_eq_getElem hlt];simp[hlt]
  ·rename_i hlt;simp[hlt]
 constructor
 ·intro hj
  have hlt:j<listed.size:=by
   rw[Array.getD]at hj
   split at hj
   ·assumption
   ·cases hj
  refine⟨by rw[<-h.size];exact hlt,?_⟩
  cases hm:Cg j rem with
  | false=>rfl
  | true =>
   obtain⟨x,hx⟩:=memI_iff.1 hm
   have:=((h.mem j x).1 hx).2
   rw[key]at this
   rw[Array.getD,dif_pos hlt]at hj
   have h2:=this.2
   rw[Array.getElem?_eq_getElem hlt]at h2
   simp only[Option.some.injEq]at h2
   have hj':listed[j]=true:=hj
   rw[h2]at hj';cases hj'
 ·rintro⟨hlt,hm⟩
  have hlt2:j<listed.size:=by rw[h.size];exact hlt
  rw[Array.getD,dif_pos hlt2]
  cases hv:listed[j]with
  | true=>exact hv
  | false =>
   have:(j,ops[j])∈rem:=(h.mem j _).2 ⟨Array.getElem?_eq_getElem hlt,by rw[key];exact⟨hlt2,by rw[Array.getElem?_eq_getElem hlt2,hv]⟩⟩
   rw[memI_iff.2 ⟨_,this⟩]at hm;cases hm
theorem v6{ops:Array Oper}{listed:Array Bool}{rem:List (Nat×Oper)}(h:DInv ops listed rem){op:Oper}:IM ops.size rem op=true↔∀ e∈op.after,Region.binds .any e=true->listed.getD e.on false=true:=by
 unfold IM
 rw[List.all_eq_true]
 constructor
 ·intro hh e he hb
  have:=hh e (by simpa using he)
  rw[hb]at this
  simp only[Bool.and_eq_true,Bool.not_eq_true']at this
  exact(rW h).2 ⟨ap this.1,this.2⟩
 ·intro hh e he
  split
  ·rename_i hb
   obtain⟨h1,h2⟩:=(rW h).1 (hh e (by simpa using he) hb)
   simp[el h1,h2]
  ·rfl
theorem gi{ops:Array Oper}{listed:Array Bool}{rem:List (Nat×Oper)}(h:DInv ops listed rem){i:Nat}:i∈Region.ready .any ops listed↔∃ op,(i,op)∈vZ ops.size rem rem:=by
 rw[mem_ready]
 constructor
 ·rintro⟨h1,op,h2,h3⟩
  exact⟨op,rdyL_mem.2 ⟨(h.mem i op).2 ⟨h2,h1⟩,(v6 h).2 h3⟩⟩
 ·rintro⟨op,hm⟩
  obtain⟨h1,h2⟩:=rdyL_mem.1 hm
  obtain⟨h3,h4⟩:=(h.mem i op).1 h1
  exact⟨h4,op,h3,(v6 h).1 h2⟩
def oH(ops:Array Oper)(i:Nat)(oi:Oper):List (Nat×Oper)->Bool
 | []=>true
 | (j,oj)::r=>match Nat.beq j i || (oj.after.toList.any (fun e=>Region.binds .any e && Nat.beq e.on i) || oi.apart ops oj)with
  | true=>oH ops i oi r
  | false=>false
theorem v7{ops:Array Oper}{i:Nat}{oi:Oper}:∀ {rem:List (Nat×Oper)},oH ops i oi rem=true->∀ j oj,(j,oj)∈rem->j≠i->(∀ e∈oj.after,Region.binds .any e=true->e.on≠i)->oi.apart ops oj=true
 | [],_,j,oj,hm,_,_=>by simp at hm
 | (k,ok)::r,h,j,oj,hm,hne,hno=>by
  simp only[oH]at h
  split at h
  case h_2=>cases h
  rename_i e
  rcases List.mem_cons.1 hm with hm|hm
  ·simp only[Prod.mk.injEq]at hm
   obtain⟨rfl,rfl⟩:=hm
   simp only[Bool.or_eq_true]at e
   rcases e with e|e|e
   ·exact absurd (br e) hne
   ·rw[List.any_eq_true]at e
    obtain⟨x,hx,hb⟩:=e
    simp only[Bool.and_eq_true]at hb
    exact absurd (br hb.2) (hno x (by simpa using hx) hb.1)
   ·exact e
  ·exact v7 h j oj hm hne hno
def BV(ops:List Oper)(s:St):List (Nat×Oper)->Option (Tmp×At)
 | []=>none
 | (_,op)::r=>match gd ops s op with
  | .ask d x _=>some (d,x)
  | _=>BV ops s r
theorem v8{ops:List Oper}{d:Tmp}{x:At}:∀ {l:List (Nat×Oper)},BV ops s l=some (d,x)->cr s.sl d=.bool x
 | [],h=>by cases h
 | (i,op)::r,h=>by
  simp only[BV]at h
  split at h
  ·rename_i d' x' want e
   simp only[Option.some.injEq,Prod.mk.injEq]at h
   obtain⟨rfl,rfl⟩:=h
   exact Eu e
  ·exact v8 h
def oI(G:Env)(ops:Array Oper)(opl:List Oper)(rd:List Nat)(s:St)(rem:List (Nat×Oper)):List (Nat×Oper)->Option (Bool×Nat×Oper)
 | []=>none
 | (i,op)::r=>match gd opl s op with
  | .run=>match yN rd s op.op (nf G.T G.eqn s op.op)with
   | true=>match oH ops i op rem with
    | true=>some (true,i,op)
    | false=>oI G ops opl rd s rem r
   | false=>oI G ops opl rd s rem r
  | .skip=>match oH ops i op rem with
   | true=>some (false,i,op)
   | false=>oI G ops opl rd s rem r
  | _=>oI G ops opl rd s rem r
theorem pp{G:Env}{ops:Array Oper}{opl:List Oper}{rd:List Nat}{rem:List (Nat×Oper)}{b:Bool}{i:Nat}{op:Oper}:∀ {l:List (Nat×Oper)},oI G ops opl rd s rem l=some (b,i,op) ->
  (i,op)∈l/\oH ops i op rem=true/\(b=true->gd opl s op=.run/\yN rd s op.op (nf G.T G.eqn s op.op)=true)/\(b=false->gd opl s op=.skip)
 | [],h=>by cases h
 | (j,oj)::r,h=>by
  have rest:oI G ops opl rd s rem r=some (b,i,op)->(i,op)∈(j,oj)::r/\oH ops i op rem=true/\(b=true->gd opl s op=.run/\yN rd s op.op (nf G.T G.eqn s op.op)=true)/\(b=false->gd opl s op=.skip):=fun h=>by
   obtain⟨h1,h2⟩:=pp h
   exact⟨List.mem_cons_of_mem _ h1,h2⟩
  simp only[oI]at h
  split at h
  ·rename_i e1
   split at h
   ·rename_i e2
    split at h
    ·rename_i e3
     simp only[Option.some.injEq,Prod.mk.injEq]at h
     obtain⟨rfl,rfl,rfl⟩:=h
     exact⟨List.mem_cons_self,e3,fun _=>⟨e1,e2⟩,fun h=>by cases h⟩
    ·exact rest h
   ·exact rest h
  ·rename_i e1
   split at h
   ·rename_i e3
    simp only[Option.some.injEq,Prod.mk.injEq]at h
    obtain⟨rfl,rfl,rfl⟩:=h
    exact⟨List.mem_cons_self,e3,fun h=>(by cases h),fun _=>e1⟩
   ·exact rest h
  ·exact rest h
def oJ(f:Nat×Oper->Tree):List (Nat×Oper)->Tree
 | []=>.fail
 | [x]=>f x
 | x::xs=>un (f x) (oJ f xs)
theorem oK{f:Nat×Oper->Tree}:∀ {l:List (Nat×Oper)},den Φ (oJ f l) env=some o->l≠[]/\∀ x∈l,den Φ (f x) env=some o
 | [],h=>by cases h
 | [x],h=>⟨by simp,fun y hy=>by simp only[List.mem_singleton]at hy;subst hy;exact h⟩
 | x::y::r,h=>by
  simp only[oJ]at h
  obtain⟨h1,h2⟩:=lZ h
  refine⟨by simp,fun z hz=>?_⟩
  rcases List.mem_cons.1 hz with rfl|hz
  ·exact h1
  ·exact(oK h2).2 z hz
def IN(G:Env)(opl:List Oper)(rd:List Nat)(op:Oper)(s:St)(K:St->Tree):Tree :=
 match gd opl s op with
 | .run=>IK G s op.op fun s1=>match cO rd s1 with
  | true=>dOp G op s1 rd fun s2=>match cO rd s2 with
   | true=>K s2
   | false=>.fail
  | false=>.fail
 | .skip=>K (ct s op.dst (.tuple []))
 | _=>.fail
def drawn(G:Env)(ops:Array Oper)(opl:List Oper)(n:Nat)(rd:List Nat):Nat->List (Nat×Oper)->St->(St->Tree)->Tree
 | _,[],s,K=>K s
 | 0,_,_,_=>.fail
 | f+1,rem,s,K=>match BV opl s (vZ n rem rem)with
  | some (d,x)=>IL s d x fun s=>drawn G ops opl n rd f rem s K
  | none=>match oI G ops opl rd s rem (vZ n rem rem)with
   | some (true,i,op)=>(nf G.T G.eqn s op.op).tree s op.dst fun s=>drawn G ops opl n rd f (jP i rem) s K
   | some (false,i,op)=>drawn G ops opl n rd f (jP i rem) (ct s op.dst (.tuple [])) K
   | none=>oJ (fun p=>IN G opl rd p.2 s fun s=>drawn G ops opl n rd f (jP p.1 rem) s K) (vZ n rem rem)
theorem v9{N':Nm}{M':Nat->Prop}{env':List C}{s':St}{tm':Array Value}{w':World}(hs:Sat cx M N env s tm w)(hs':Sat cx M' N' env' s' tm' w'){k:Nat}{vs vs':List SV}(h:ar s.hp k=some (.cells vs))(h':ar s'.hp k=some (.cells vs'))
  (hk:KI.same (N' k) (N k)):(N' k).φ=(N k).φ:=by
 obtain⟨b,_,_,e1,e2,_⟩:=hs.objs k _ h
 obtain⟨b',_,_,e1',e2',_⟩:=hs'.objs k _ h'
 rw[hk.1,e1]at e1'
 simp only[Value.pointer.injEq,Option.some.injEq,Addr.mk.injEq]at e1'
 rw[e2,e2',e1'.1]
theorem C2{G:Env}(hG:EnvOk P G Φ){ops:Array Oper}(hsel:Region.noSelect ops=true){Q:Exit->Act->World->Prop}{K:St->Tree}(hQ:∀ a w,Now Φ K o cx a w->Q .normal a w)(hQp:∀ c a w,¬ Q (.panic c) a w){rd:List Nat} :
  ∀(f:Nat) (rem:List (Nat×Oper)) (s:St) (env:List C) (listed:Array Bool) (M:Nat->Prop) (N:Nm) (a:Act) (w:World) (fh:Nat),DInv ops listed rem->rem.length<=fh->cO rd s=true->(∀ k∈rd,k∈s.pk) ->
   den Φ (drawn G ops ops.toList ops.size rd f rem s K) env=some o->Sat cx M N env s a.tmps w->a.defers=[]->wpAnyH P .any ops Q (SW cx M N rd w) fh listed a w:=by
 have done:∀(s:St) (env:List C) (listed:Array Bool) (M:Nat->Prop) (N:Nm) (a:Act) (w:World) (fh:Nat),DInv ops listed []->den Φ (K s) env=some o->Sat cx M N env s a.tmps w->a.defers=[]->wpAnyH P .any ops Q (SW cx M N rd w) fh listed a w:=by
  intro s env listed M N a w fh hI hn hs hd
  refine wpAnyH_done ?_ (hQ a w ⟨s,env,M,N,hn,hs,hd⟩) fh
  rw[List.eq_nil_iff_forall_not_mem]
  intro i hi
  obtain⟨op,hm⟩:=(gi hI).1 hi
  simp[vZ]at hm
 intro f
 induction f with
 | zero =>
  intro rem s env listed M N a w fh hI hl hc hp hn hs hd
  cases rem with
  | nil=>rw[drawn]at hn;exact done s env listed M N a w fh hI hn hs hd
  | cons p rem=>rw[drawn]at hn<;>first|(cases hn;done)|simp
 | succ f ih =>
  intro rem s env listed M N a w fh hI hl hc hp hn hs hd
  cases hrem:rem with
  | nil=>subst hrem;rw[drawn]at hn;exact done s env listed M N a w fh hI hn hs hd
  | cons p0 rem0 =>
   rw[drawn]at hn
   case x_4=>intro h;rw[h]at hrem;cases hrem
   obtain⟨fh,rfl⟩:∃ m,fh=m+1:=⟨fh-1,by rw[hrem]at hl;simp at hl;omega⟩
   have hselw:∀(j:Nat) (x:Oper) cs b,ops[j]?=some x->x.op≠.select cs b:=fun j x cs b h=>Region.noSelect_spec hsel j x cs b h
   have free:∀ {i:Nat} {op:Oper},oH ops i op rem=true->∀ j oj,ops[j]?=some oj->j≠i->listed.getD j true=false->(∀ e∈oj.after,Region.binds .any e=true->e.on≠i)->op.apart ops oj=true :=
    fun hf j oj h1 h2 h3 h4=>v7 hf j oj ((hI.mem j oj).2 ⟨h1,h3⟩) h2 h4
   have less:∀ {i:Nat} {op:Oper},(i,op)∈rem->(jP i rem).length<=fh:=fun hm=>by have:=AL hm;omega
   split at hn
   ·rename_i d x hask
    obtain⟨b,h1,h2⟩:=AJ hn hs (v8 hask)
    exact ih rem _ env listed M N a w (fh+1) hI hl (by rw[c9 (fU _ _ _).1];exact hc) (by rw[(fU _ _ _).2];exact hp) h1 h2 hd
   ·split at hn
    ·rename_i i op hq
     obtain⟨hm,hf,hb,_⟩:=pp hq
     obtain⟨hgd,hqu⟩:=hb rfl
     have hmr:=(rdyL_mem.1 hm).1
     obtain⟨val,s',env',h1,h2,h3,h4,h5⟩:=C1 hG.tab hG.eq hn hs hqu
     refine wpAnyH_first ((hI.mem i op).1 hmr).1 hselw (fun c a w h=>absurd h (hQp c _ w)) fh listed a w (free hf) ((gi hI).2 ⟨op,hm⟩) (.inl ⟨(BT hs).1 hgd,fun w' hw'=>h1 w' (uZ hqu hs hc hw')⟩) SW.rfl' ?_
     exact ih (jP i rem) s' env' _ M N _ w fh (hI.del i) (less hmr) (by rw[c9 h4];exact hc) (by rw[h5];exact hp) h2 h3 ((aX a op.dst val).2.trans hd)
    ·rename_i i op hq
     obtain⟨hm,hf,_,hb⟩:=pp hq
     have hgd:=hb rfl
     have hmr:=(rdyL_mem.1 hm).1
     refine wpAnyH_first (v:=undef) ((hI.mem i op).1 hmr).1 hselw (fun c a w h=>absurd h (hQp c _ w)) fh listed a w (free hf) ((gi hI).2 ⟨op,hm⟩) (.inr ⟨(BT hs).2 hgd,rfl⟩) SW.rfl' ?_
     refine ih (jP i rem) _ env _ M N _ w fh (hI.del i) (less hmr) (by rw[c9 (fU _ _ _).1];exact hc) (by rw[(fU _ _ _).2];exact hp) hn ?_ ((aX a op.dst undef).2.trans hd)
     rw[(aX a op.dst undef).1]
     exact hs.put op.dst lD
    ·obtain⟨hne,hall⟩:=oK hn
     refine wpAnyH_all rfl ?_ ?_
     ·intro h0
      obtain⟨p,hp0⟩:=List.exists_mem_of_ne_nil _ hne
      have:p.1∈Region.ready .any ops listed:=(gi hI).2 ⟨p.2,hp0⟩
      rw[h0]at this;simp at this
     ·intro i hi
      obtain⟨op,hm⟩:=(gi hI).1 hi
      have hmr:=(rdyL_mem.1 hm).1
      have hd1:=hall (i,op) hm
      have hio:=((hI.mem i op).1 hmr).1
      unfold wpOp
      rw[hio]
      dsimp only at hd1 ⊢
      unfold IN at hd1
      obtain⟨g1,g2⟩:=BT (ops:=ops) (op:=op) hs
      split at hd1
      ·rename_i e
       rw[if_pos (g1 e)]
       refine .inl ?_
       have ha:=hs.anchor hp
       obtain⟨s1,env1,M1,N1,k1,k2⟩:=AI hd1 ha
       dsimp only at k1
       split at k1
       case h_2=>cases k1
       rename_i hc1
       have hs1:=hs.back k2
       have hp1:∀ k∈rd,k∈s1.pk:=fun k hk=>(k2.at_pin hk).1
       have hb:=hs1.anchor hp1
       refine Oper.wp_mono ?_ (Es hG k1 hb Q)
       rintro a' w' ⟨s2,env2,M2,N2,j1,j2,j3,j4,j5⟩
       dsimp only at j1
       split at j1
       case h_2=>cases j1
       rename_i hc2
       have hs2:=hs1.back j2
       have hp2:∀ k∈rd,k∈s2.pk:=fun k hk=>(j2.at_pin hk).1
       have hphi:∀ k∈rd,(N1 k).φ=(N k).φ/\(N2 k).φ=(N1 k).φ:=fun k hk=>by
        obtain⟨vs0,q0⟩:=cK hc k hk
        obtain⟨vs1,q1⟩:=cK hc1 k hk
        obtain⟨vs2,q2⟩:=cK hc2 k hk
        exact⟨v9 hs hs1 q0 q1 (k2.at_pin hk).2,v9 hs1 hs2 q1 q2 (j2.at_pin hk).2⟩
       have hR:∀ b,cx.R b->w'.heap[b]?=w.heap[b]?:=fun b hb=>(hs2.frame b hb).trans (hs.frame b hb).symm
       have hS:SW cx M N rd w w':=by
        refine⟨fun b hb=>?_,fun k hk b hb=>?_⟩
        ·rcases hb with hb|hb
         ·exact j4 b (k2.mto b hb)
         ·exact hR b hb
        ·obtain⟨vs1,q1⟩:=cK hc1 k hk
         exact(j5 k hk vs1 q1).2 b (by rw[(hphi k hk).1];exact hb)
       refine⟨hS,ma ?_ _ _ _ _ (ih (jP i rem) s2 env2 _ M2 N2 a' w' fh (hI.del i) (less hmr) hc2 hp2 j1 hs2 (j3.trans hd))⟩
       rintro w'' ⟨h1,h2⟩
       refine⟨fun b hb=>?_,fun k hk b hb=>?_⟩
       ·refine(h1 b ?_).trans (hS.1 b hb)
        rcases hb with hb|hb
        ·exact .inl (j2.mto b (k2.mto b hb))
        ·exact .inr hb
       ·refine(h2 k hk b ?_).trans (hS.2 k hk b hb)
        rw[(hphi k hk).2,(hphi k hk).1];exact hb
      ·rename_i e
       rw[if_neg (by rw[g2 e];simp)]
       refine⟨SW.rfl',?_⟩
       refine ih (jP i rem) _ env _ M N _ w fh (hI.del i) (less hmr) (by rw[c9 (fU _ _ _).1];exact hc) (by rw[(fU _ _ _).2];exact hp) hd1 ?_ ((aX a op.dst undef).2.trans hd)
       rw[(aX a op.dst undef).1]
       exact hs.put op.dst lD
      ·cases hd1
mutual
def SV.ptrs:SV->List Nat
 | .ptr k _=>[k]
 | .fn _ vs=>SV.ptrsL vs
 | .agg vs=>SV.ptrsL vs
 | _=>[]
def SV.ptrsL:List SV->List Nat
 | []=>[]
 | x::xs=>x.ptrs++SV.ptrsL xs
end
def IP:List (Nat×List Nat)->Nat->Option (List Nat)
 | [],_=>none
 | (k,v)::r,j=>match Nat.beq j k with
  | true=>some v
  | false=>IP r j
def IQ(s:St)(m:List (Nat×List Nat)):Operand->List Nat
 | .tmp t=>match IP m t with
  | some l=>l
  | none=>(cr s.sl t).ptrs
 | _=>[]
def uu(s:St):List (Nat×List Nat)->List Oper->List Nat
 | _,[]=>[]
 | m,op::r=>match op.op with
  | .load _ _=>uu s m r
  | .fieldAddr _ x _|.move x|.assign x|.nilCheck x=>match op.dst with
   | some d=>uu s ((d,IQ s m x)::m) r
   | none=>uu s m r
  | o=>(o.operands.toList.flatMap (IQ s m))++uu s m r
def FT(wr:List Nat):List (Nat×SObj)->List Nat
 | []=>[]
 | (k,.cells _)::r=>match qb k wr with
  | true=>FT wr r
  | false=>k::FT wr r
 | _::r=>FT wr r
def idx{α:Type}:Nat->List α->List (Nat×α)
 | _,[]=>[]
 | i,x::xs=>(i,x)::idx (i+1) xs
theorem AM{α:Type}{j:Nat}{x:α}:∀ {l:List α} {i:Nat},(j,x)∈idx i l↔i<=j/\l[j-i]?=some x
 | [],i=>by simp[idx]
 | y::l,i=>by
  simp only[idx,List.mem_cons,Prod.mk.injEq,AM]
  constructor
  ·rintro(⟨rfl,rfl⟩|⟨h1,h2⟩)
   ·simp
   ·refine⟨by omega,?_⟩
    rw[show j-i=(j-(i+1))+1 by omega,List.getElem?_cons_succ];exact h2
  ·rintro⟨h1,h2⟩
   by_cases e:j=i
   ·subst e;simp at h2;exact .inl ⟨rfl,h2.symm⟩
   ·refine .inr ⟨by omega,?_⟩
    rw[show j-i=(j-(i+1))+1 by omega,List.getElem?_cons_succ]at h2;exact h2
theorem AN{α:Type}:∀ {l:List α} {i:Nat},(idx i l).length=l.length
 | [],i=>rfl
 | y::l,i=>by simp[idx,AN]
def qf(G:Env)(ops:Array Oper)(s:St)(K:St->Tree):Tree :=
 match Region.noSelect ops,FT (uu s [] ops.toList) s.hp with
 | true,rd=>match cO rd s with
  | true=>drawn G ops ops.toList ops.size rd (ops.size+ops.size) (idx 0 ops.toList) {s with pk:=rd++s.pk} fun s2=>K {s2 with pk:=s.pk}
  | false=>.fail
 | false,_=>.fail
theorem BJ{G:Env}(hG:EnvOk P G Φ){ops:Array Oper}{id:Nat}{Q:Exit->Act->World->Prop}{K:St->Tree}(hQ:∀ a w,Now Φ K o cx a w->Q .normal a w)(hQp:∀ c a w,¬ Q (.panic c) a w)
  (hn:den Φ (qf G ops s K) env=some o) (hs:Sat cx M N env s a.tmps w) (hd:a.defers=[]):(Code.region id ops true).wp P Q a w:=by
 unfold qf at hn
 split at hn
 case h_2=>cases hn
 rename_i hsel
 split at hn
 case h_2=>cases hn
 rename_i hc
 refine wp_region_held hG.mixed (C2 (cx:=cx) hG hsel (K:=fun s2=>K {s2 with pk:=s.pk}) ?_ hQp _ _ _ env _ M N a _ _ ?_ ?_ (by rw[c9 (s':={s with pk:=FT (uu s [] ops.toList) s.hp++s.pk}) (s:=s) rfl];exact hc) ?_ hn ?_ hd)
 ·rintro a' w' ⟨s2,env2,M2,N2,h1,h2,h3⟩
  exact hQ a' w' ⟨_,env2,M2,N2,h1,{h2 with pin:=fun p hp=>⟨(hs.pin p hp).1,(h2.pin p hp).2⟩},h3⟩
 ·refine⟨by simp,fun j oj=>?_⟩
  rw[AM]
  simp only[Nat.zero_le,true_and,Nat.sub_zero,Array.getElem?_toList]
  constructor
  ·intro h
   have hlt:=(Array.getElem?_eq_some_iff.1 h).1
   exact⟨h,by simp[hlt]⟩
  ·exact fun h=>h.1
 ·rw[AN];simp
 ·intro k hk;exact List.mem_append_left _ hk
 ·exact {hs.drew _ with pin:=fun p hp=>⟨List.mem_append_right _ (hs.pin p hp).1,(hs.pin p hp).2⟩}
end
end Dx
namespace Dx
open Go
structure Head where
 ks:List CK
 sl:List (Nat×SV)
 hp:List (Nat×SObj)
 rm:List Nat
 nn:Nat
def shK(nx k:Nat):Nat:=match Nat.ble 1000 k with
 | true=>nx+(k-1000)
 | false=>k
def shA(nv:Nat):At->At
 | .v i=>match Nat.ble 1000 i with
  | true=>.v (i-1000)
  | false=>.v (nv+i)
 | a=>a
mutual
def SV.sh(nx nv:Nat):SV->SV
 | .any=>.any
 | .int k a=>.int k (shA nv a)
 | .bool a=>.bool (shA nv a)
 | .str a=>.str (shA nv a)
 | .fn f vs=>.fn f (SV.shs nx nv vs)
 | .view t a=>.view t (shA nv a)
 | .nil=>.nil
 | .sl k=>.sl (shK nx k)
 | .ptr k o=>.ptr (shK nx k) o
 | .eptr k sz i o=>.eptr (shK nx k) sz (shA nv i) o
 | .vptr t vs=>.vptr t (SV.shs nx nv vs)
 | .nilptr=>.nilptr
 | .blob=>.blob
 | .agg vs=>.agg (SV.shs nx nv vs)
 | .tuple vs=>.tuple (SV.shs nx nv vs)
def SV.shs(nx nv:Nat):List SV->List SV
 | []=>[]
 | x::xs=>x.sh nx nv::SV.shs nx nv xs
end
def SObj.sh(nx nv:Nat):SObj->SObj
 | .cells vs=>.cells (SV.shs nx nv vs)
 | .arr e row l=>.arr e row (shA nv l)
 | .foc e row l i vs=>.foc e row (shA nv l) (shA nv i) (SV.shs nx nv vs)
 | .map es=>.map es
 | .smap es=>.smap es
 | .bld T e a=>.bld T e (shA nv a)
def hpSh(nx nv:Nat)(base:List (Nat×SObj)):List (Nat×SObj)->List (Nat×SObj)
 | []=>base
 | (k,o)::r=>(shK nx k,o.sh nx nv)::hpSh nx nv base r
def Ew:List Nat->List (Nat×SObj)->List (Nat×SObj)
 | [],hp=>hp
 | k::r,hp=>Ew r (cw hp k)
def IR:List (Nat×SObj)->List Nat
 | []=>[]
 | (k,_)::r=>k::IR r
def Ex:List SV->List Nat->List SV
 | l,[]=>l
 | l,d::ds=>Ex (vz l d .any) ds
def IS(nx nv:Nat):List SV->List (Nat×SV)->List SV
 | l,[]=>l
 | l,(d,v)::r=>IS nx nv (vz l d (v.sh nx nv)) r
def ko(h:Head)(s:St)(ds:List Nat):St :=
 ⟨IS s.nx s.nv (Ex s.sl ds) h.sl,hpSh s.nx s.nv (Ew (h.rm++IR h.hp) s.hp) h.hp,s.nx+h.nn,s.nv+h.ks.length,s.pk⟩
structure Gs where
 as:List (Nat×At)
 ms:List (Nat×Nat)
def yO{α:Type}:List (Nat×α)->Nat->Option α
 | [],_=>none
 | (k,v)::r,j=>match Nat.beq j k with
  | true=>some v
  | false=>yO r j
def gsA(nv0:Nat)(a b:At)(g:Gs):Gs:=match a with
 | .v i=>match Nat.ble nv0 i,yO g.as i with
  | true,none=>⟨(i,b)::g.as,g.ms⟩
  | _,_=>g
 | _=>g
def gsK(nx0 k j:Nat)(g:Gs):Gs:=match Nat.ble nx0 k,yO g.ms k with
 | true,none=>⟨g.as,(k,j)::g.ms⟩
 | _,_=>g
mutual
def gsV(nv0 nx0:Nat):SV->SV->Gs->Gs
 | .int _ a,.int _ b,g=>gsA nv0 a b g
 | .bool a,.bool b,g=>gsA nv0 a b g
 | .str a,.str b,g=>gsA nv0 a b g
 | .view _ a,.view _ b,g=>gsA nv0 a b g
 | .view _ a,.nil,g=>gsA nv0 a .e g
 | .sl k,.sl j,g=>gsK nx0 k j g
 | .ptr k _,.ptr j _,g=>gsK nx0 k j g
 | .eptr k _ i _,.eptr j _ i' _,g=>gsA nv0 i i' (gsK nx0 k j g)
 | .fn _ xs,.fn _ ys,g=>Ch nv0 nx0 xs ys g
 | .vptr _ xs,.vptr _ ys,g=>Ch nv0 nx0 xs ys g
 | .agg xs,.agg ys,g=>Ch nv0 nx0 xs ys g
 | .tuple xs,.tuple ys,g=>Ch nv0 nx0 xs ys g
 | _,_,g=>g
def Ch(nv0 nx0:Nat):List SV->List SV->Gs->Gs
 | x::xs,y::ys,g=>Ch nv0 nx0 xs ys (gsV nv0 nx0 x y g)
 | _,_,g=>g
end
def gsO(nv0 nx0:Nat):SObj->SObj->Gs->Gs
 | .cells xs,.cells ys,g=>Ch nv0 nx0 xs ys g
 | .arr _ _ a,.arr _ _ b,g=>gsA nv0 a b g
 | .bld _ _ a,.bld _ _ b,g=>gsA nv0 a b g
 | _,_,g=>g
def tc(nx0:Nat)(ms:List (Nat×Nat))(k:Nat):Option Nat:=match Nat.blt k nx0 with
 | true=>some k
 | false=>yO ms k
def gsH(nv0 nx0:Nat)(hp':List (Nat×SObj)):List (Nat×SObj)->Gs->Gs
 | [],g=>g
 | (k,o)::r,g=>match tc nx0 g.ms k with
  | some j=>match ar hp' j with
   | some o'=>gsH nv0 nx0 hp' r (gsO nv0 nx0 o o' g)
   | none=>gsH nv0 nx0 hp' r g
  | none=>match o with
   | .arr _ _ a=>gsH nv0 nx0 hp' r (gsA nv0 a .e g)
   | _=>gsH nv0 nx0 hp' r g
def qg(as:List (Nat×At)):Nat->List CK->List Cell
 | _,[]=>[]
 | i,k::ks=>⟨k,match yO as i with
  | some a=>a
  | none=>.e⟩::qg as (i+1) ks
theorem gB(env:List C)(as:List (Nat×At)):∀(ks:List CK) (i:Nat),ak ks (aK env (qg as i ks))=true/\c8 (qg as i ks)=ks
 | [],i=>⟨rfl,rfl⟩
 | k::ks,i=>by
  have ih:=gB env as ks (i+1)
  simp only[qg,aK,ak,c8,ih.2,and_true]
  have:∀ a:At,fG k (Cell.den env ⟨k,a⟩)=true:=by
   intro a
   cases k<;>simp[Cell.den,fG]
   rename_i k;cases k<;>rfl
  rw[this]
  exact ih.1
def oL:At->At->Bool
 | .v i,.v j=>Nat.beq i j
 | .n x,.n y=>x==y
 | .b x,.b y=>x==y
 | .s x,.s y=>decide (x=y)
 | .e,.e=>true
 | _,_=>false
theorem dg{a b:At}(h:oL a b=true):a=b:=by
 cases a<;>cases b<;>simp only[oL,Bool.false_eq_true]at h
 ·rw[br h]
 ·rw[eq_of_beq h]
 ·rw[eq_of_beq h]
 ·rw[of_decide_eq_true h]
 ·rfl
section
variable (nv0 nx0:Nat) (xs:List Cell) (ms:List (Nat×Nat))
def leI(a b:At):Bool:=match a with
 | .v i=>match Nat.blt i nv0 with
  | true=>oL (.v i) b
  | false=>match vX xs (i-nv0)with
   | some ⟨.int _,c⟩=>oL c b
   | _=>false
 | a=>oL a b
def leB(a b:At):Bool:=match a with
 | .v i=>match Nat.blt i nv0 with
  | true=>oL (.v i) b
  | false=>match vX xs (i-nv0)with
   | some ⟨.bool,c⟩=>oL c b
   | _=>false
 | a=>oL a b
def leS(a b:At):Bool:=match a with
 | .v i=>match Nat.blt i nv0 with
  | true=>oL (.v i) b
  | false=>match vX xs (i-nv0)with
   | some ⟨.str,c⟩=>oL c b
   | _=>false
 | a=>oL a b
def leL(a b:At):Bool:=match a with
 | .v i=>match Nat.blt i nv0 with
  | true=>oL (.v i) b
  | false=>match vX xs (i-nv0)with
   | some ⟨.list,c⟩=>oL c b
   | _=>false
 | a=>oL a b
def isK(k j:Nat):Bool:=match tc nx0 ms k with
 | some i=>Nat.beq i j
 | none=>false
def noK(k:Nat):Bool:=match tc nx0 ms k with
 | some _=>false
 | none=>true
def imp:Bool->Bool->Bool
 | true,b=>b
 | false,_=>true
mutual
def leV:SV->SV->Bool
 | .any,_=>true
 | .int k a,.int k' b=>ep k k' && leI nv0 xs a b
 | .bool a,.bool b=>leB nv0 xs a b
 | .str a,.str b=>leS nv0 xs a b
 | .view t a,.view t' b=>imp t t' && leL nv0 xs a b
 | .view _ a,.nil=>leL nv0 xs a .e
 | .nil,.nil=>true
 | .sl k,.sl j=>isK nx0 ms k j
 | .sl k,.nil=>noK nx0 ms k
 | .ptr k o,.ptr j o'=>isK nx0 ms k j && Nat.beq o o'
 | .eptr k sz i o,.eptr j sz' i' o'=>(isK nx0 ms k j && leI nv0 xs i i') && (Nat.beq sz sz' && Nat.beq o o')
 | .nilptr,.nilptr=>true
 | .blob,.blob=>true
 | .fn f us,.fn g vs=>Nat.beq f g && kc us vs
 | .vptr t us,.vptr t' vs=>imp t t' && kc us vs
 | .agg us,.agg vs=>kc us vs
 | .tuple us,.tuple vs=>kc us vs
 | _,_=>false
def kc:List SV->List SV->Bool
 | [],[]=>true
 | u::us,v::vs=>match leV u v with
  | true=>kc us vs
  | false=>false
 | _,_=>false
end
def leO:SObj->SObj->Bool
 | .cells us,.cells vs=>kc nv0 nx0 xs ms us vs
 | .arr e row l,.arr e' row' l'=>((Nat.beq e e' || Nat.beq e (BIG+e') && eH e') && Sh.beqs row row') && leL nv0 xs l l'
 | .map es,.map es'=>decide (es=es')
 | .smap es,.smap es'=>decide (es=es')
 | .bld T e a,.bld T' e' b=>(Nat.beq T T' && Nat.beq e e') && leS nv0 xs a b
 | _,_=>false
def leH(hp':List (Nat×SObj)):List (Nat×SObj)->Bool
 | []=>true
 | (k,o)::r=>(match tc nx0 ms k with
  | some j=>match ar hp' j with
   | some o'=>leO nv0 nx0 xs ms o o'
   | none=>false
  | none=>match o with
   | .arr _ row l=>Nat.blt 0 row.length && leL nv0 xs l .e
   | _=>false) && leH hp' r
def IT(k k':Nat):Bool:=match tc nx0 ms k,tc nx0 ms k' with
 | some i,some j=>!Nat.beq i j
 | _,_=>true
def injB(hp:List (Nat×SObj)):Bool:=hp.all fun p=>hp.all fun q=>Nat.beq p.1 q.1 || IT nx0 ms p.1 q.1
def pkB(pk:List Nat):Bool:=pk.all fun k=>isK nx0 ms k k
def le(t s:St):Bool:=(Nat.beq t.nv (nv0+xs.length) && kc nv0 nx0 xs ms t.sl s.sl) && ((leH nv0 nx0 xs ms s.hp t.hp && injB nx0 ms t.hp) && pkB nx0 ms t.pk)
end
section
variable {Φ:Phi} {cx:Ctx} {M R:Nat->Prop} {N:Nm} {env env0:List C} {s t:St} {tm:Array Value} {w:World} {o:Out} {nv0 nx0:Nat} {xs:List Cell} {ms:List (Nat×Nat)}
theorem C3{l:List C}{i:Nat}{c:C}(h:l[i]?=some c):aa l i=c:=by
 induction l generalizing i with
 | nil=>simp at h
 | cons x l ih=>cases i with
  | zero=>simpa [aa] using h
  | succ i=>exact ih (by simpa using h)
theorem wg{env:List C}:∀ {xs:List Cell} {i:Nat} {x:Cell},xs[i]?=some x->(aK env xs)[i]?=some (x.den env)
 | [],i,x,h=>by simp at h
 | y::xs,0,x,h=>by simp at h;subst h;simp[aK]
 | y::xs,i+1,x,h=>by simp[aK];exact wg (by simpa using h)
structure Env2 (nv0:Nat) (xs:List Cell) (env0 env:List C):Prop where
 len:env0.length=nv0
 pre:∃ ds,env=env0++ds
theorem uw(h:Env2 nv0 xs env0 env){i:Nat}(hi:Nat.blt i nv0=true):(At.v i).den (env0++aK env xs)=(At.v i).den env:=by
 obtain⟨ds,e⟩:=h.pre
 have hlt:i<env0.length:=by rw[h.len];exact ap hi
 simp only[At.den]
 have e1:aa env i=aa env0 i:=by rw[e];exact cp hlt
 rw[cp hlt,e1]
theorem ux(h:Env2 nv0 xs env0 env){i:Nat}{x:Cell}(hi:Nat.blt i nv0=false)(hx:vX xs (i-nv0)=some x):(At.v i).den (env0++aK env xs)=x.den env:=by
 have hge:nv0<=i:=Nat.le_of_not_lt fun hlt=>by rw[el hlt]at hi;cases hi
 simp only[At.den]
 rw[show i=env0.length+(i-nv0) by rw[h.len];omega,bD]
 rw[sZ]at hx
 exact C3 (wg hx)
theorem kT{a:At}(h:∀ i,a≠.v i)(env env':List C):a.den env=a.den env':=by
 cases a<;>first|rfl|exact absurd rfl (h _)
theorem Ey(h:Env2 nv0 xs env0 env){a b:At}(hl:leI nv0 xs a b=true):(a.den (env0++aK env xs)).toInt=(b.den env).toInt:=by
 unfold leI at hl
 split at hl
 ·split at hl
  ·rename_i hi;rw[uw h hi,dg hl]
  ·rename_i hi
   split at hl
   ·rename_i hx;rw[ux h hi hx,<-dg hl];rfl
   ·cases hl
 ·rename_i hne;rw[<-dg hl,kT hne]
theorem KR(h:Env2 nv0 xs env0 env){a b:At}(hl:leB nv0 xs a b=true):(a.den (env0++aK env xs)).toBool=(b.den env).toBool:=by
 unfold leB at hl
 split at hl
 ·split at hl
  ·rename_i hi;rw[uw h hi,dg hl]
  ·rename_i hi
   split at hl
   ·rename_i hx;rw[ux h hi hx,<-dg hl];rfl
   ·cases hl
 ·rename_i hne;rw[<-dg hl,kT hne]
theorem Ez(h:Env2 nv0 xs env0 env){a b:At}(hl:leS nv0 xs a b=true):(a.den (env0++aK env xs)).toStr=(b.den env).toStr:=by
 unfold leS at hl
 split at hl
 ·split at hl
  ·rename_i hi;rw[uw h hi,dg hl]
  ·rename_i hi
   split at hl
   ·rename_i hx;rw[ux h hi hx,<-dg hl];rfl
   ·cases hl
 ·rename_i hne;rw[<-dg hl,kT hne]
theorem uy(h:Env2 nv0 xs env0 env){a b:At}(hl:leL nv0 xs a b=true):(a.den (env0++aK env xs)).toList=(b.den env).toList:=by
 unfold leL at hl
 split at hl
 ·split at hl
  ·rename_i hi;rw[uw h hi,dg hl]
  ·rename_i hi
   split at hl
   ·rename_i hx;rw[ux h hi hx,<-dg hl];rfl
   ·cases hl
 ·rename_i hne;rw[<-dg hl,kT hne]
def lc(nx0:Nat)(ms:List (Nat×Nat))(N:Nm):Nm:=fun k=>match tc nx0 ms k with
 | some j=>N j
 | none=>⟨.slice none 0 0,[],[],0,[]⟩
theorem oM{k j:Nat}(h:isK nx0 ms k j=true):tc nx0 ms k=some j/\lc nx0 ms N k=N j:=by
 unfold isK at h
 split at h
 ·rename_i i e
  have:=br h;subst this
  exact⟨e,by unfold lc;rw[e]⟩
 ·cases h
theorem EA{t t':Bool}{b:Nat}(h:imp t t'=true)(hb:MR M R t' b):MR M R t b:=by
 cases t with
 | false =>
  cases t' with
  | false=>exact hb
  | true=>exact .inl hb
 | true =>
  have:t'=true:=h
  subst this;exact hb
mutual
theorem EB(h:Env2 nv0 xs env0 env):∀(p x:SV) (v:Value),leV nv0 nx0 xs ms p x=true->svm w M R N env x v->svm w M R (lc nx0 ms N) (env0++aK env xs) p v
 | .any,_,_,_,_=>by rw[svm];trivial
 | .int k a,x,v,hl,hx=>by
  cases x<;>simp only[leV,Bool.false_eq_true,Bool.and_eq_true]at hl
  rw[svm]at hx ⊢
  rw[Ey h hl.2,cQ hl.1];exact hx
 | .bool a,x,v,hl,hx=>by
  cases x<;>simp only[leV,Bool.false_eq_true]at hl
  rw[svm]at hx ⊢
  rw[KR h hl];exact hx
 | .str a,x,v,hl,hx=>by
  cases x<;>simp only[leV,Bool.false_eq_true]at hl
  rw[svm]at hx ⊢
  rw[Ez h hl];exact hx
 | .view t a,x,v,hl,hx=>by
  cases x<;>simp only[leV,Bool.false_eq_true,Bool.and_eq_true]at hl
  ·rw[svm]at hx ⊢
   rw[uy h hl.2]
   exact repC.mono (fun b hb=>⟨EA hl.1 hb,rfl⟩) _ _ hx
  ·rw[svm]at hx
   rw[svm]
   rw[uy h hl]
   subst hx
   rw[repC]
   exact⟨none,0,rfl,Nat.le_refl _,Nat.zero_le _,.inl rfl⟩
 | .nil,x,v,hl,hx=>by
  cases x<;>simp only[leV,Bool.false_eq_true]at hl
  rw[svm]at hx ⊢;exact hx
 | .nilptr,x,v,hl,hx=>by
  cases x<;>simp only[leV,Bool.false_eq_true]at hl
  rw[svm]at hx ⊢;exact hx
 | .blob,x,v,hl,hx=>by
  cases x<;>simp only[leV,Bool.false_eq_true]at hl
  rw[svm]at hx ⊢;exact hx
 | .sl k,x,v,hl,hx=>by
  cases x<;>simp only[leV,Bool.false_eq_true]at hl
  ·rw[svm]at hx
   rw[svm]
   subst hx
   unfold noK at hl
   split at hl
   ·cases hl
   ·rename_i e;unfold lc;rw[e]
  ·rw[svm]at hx ⊢
   rw[(oM hl).2];exact hx
 | .ptr k ofs,x,v,hl,hx=>by
  cases x<;>simp only[leV,Bool.false_eq_true,Bool.and_eq_true]at hl
  rw[svm]at hx ⊢
  rw[(oM hl.1).2,br hl.2];exact hx
 | .eptr k sz i ofs,x,v,hl,hx=>by
  cases x<;>simp only[leV,Bool.false_eq_true,Bool.and_eq_true]at hl
  rw[svm]at hx ⊢
  rw[(oM hl.1.1).2,br hl.2.1,br hl.2.2,Ey h hl.1.2];exact hx
 | .fn f us,x,v,hl,hx=>by
  cases x<;>simp only[leV,Bool.false_eq_true,Bool.and_eq_true]at hl
  rw[svm]at hx ⊢
  obtain⟨cs,h1,h2⟩:=hx
  exact⟨cs,by rw[br hl.1];exact h1,ji h us _ _ hl.2 h2⟩
 | .vptr t us,x,v,hl,hx=>by
  cases x<;>simp only[leV,Bool.false_eq_true,Bool.and_eq_true]at hl
  rename_i t' vs
  rw[svm]at hx ⊢
  obtain⟨b,ofs,arr,T,fr,h1,h2,h3,h4⟩:=hx
  have hlen:us.length=vs.length:=pq us vs hl.2
  exact⟨b,ofs,arr,T,fr,h1,EA hl.1 h2,h3,ji h us _ _ hl.2 (by rw[hlen];exact h4)⟩
 | .agg us,x,v,hl,hx=>by
  cases x<;>simp only[leV,Bool.false_eq_true]at hl
  rw[svm]at hx ⊢
  obtain⟨cs,h1,h2⟩:=hx
  exact⟨cs,h1,ji h us _ _ hl h2⟩
 | .tuple us,x,v,hl,hx=>by
  cases x<;>simp only[leV,Bool.false_eq_true]at hl
  rw[svm]at hx ⊢
  obtain⟨cs,h1,h2⟩:=hx
  exact⟨cs,h1,ji h us _ _ hl h2⟩
theorem ji(h:Env2 nv0 xs env0 env):∀(us vs:List SV) (vals:List Value),kc nv0 nx0 xs ms us vs=true->svms w M R N env vs vals->svms w M R (lc nx0 ms N) (env0++aK env xs) us vals
 | [],vs,vals,hl,hx=>by
  cases vs with
  | nil=>rw[svms]at hx ⊢;exact hx
  | cons=>simp[kc]at hl
 | u::us,vs,vals,hl,hx=>by
  cases vs with
  | nil=>simp[kc]at hl
  | cons v vs =>
   simp only[kc]at hl
   split at hl
   case h_2=>cases hl
   rename_i h1
   rw[svms]at hx ⊢
   obtain⟨y,ys,h2,h3,h4⟩:=hx
   exact⟨y,ys,h2,EB h u v y h1 h3,ji h us vs ys hl h4⟩
theorem pq:∀(us vs:List SV),kc nv0 nx0 xs ms us vs=true->us.length=vs.length
 | [],vs,hl=>by cases vs<;>simp_all [kc]
 | u::us,vs,hl=>by
  cases vs with
  | nil=>simp[kc]at hl
  | cons v vs =>
   simp only[kc]at hl
   split at hl
   case h_2=>cases hl
   simp[pq us vs hl]
end
theorem wh:∀ {us vs:List SV},kc nv0 nx0 xs ms us vs=true->∀ k,leV nv0 nx0 xs ms (cr us k) (cr vs k)=true
 | [],vs,hl,k=>by
  simp only[cr];rw[leV]
 | u::us,[],hl,k=>by simp[kc]at hl
 | u::us,v::vs,hl,k=>by
  simp only[kc]at hl
  split at hl
  case h_2=>cases hl
  rename_i h1
  cases k with
  | zero=>exact h1
  | succ k=>exact wh hl k
theorem oN{hp':List (Nat×SObj)}:∀ {hp:List (Nat×SObj)},leH nv0 nx0 xs ms hp' hp=true->∀ {k:Nat} {ob:SObj},ar hp k=some ob ->
  (∃ j ob',tc nx0 ms k=some j/\ar hp' j=some ob'/\leO nv0 nx0 xs ms ob ob'=true)\/(tc nx0 ms k=none/\∃ e row l,ob=.arr e row l/\0<row.length/\leL nv0 xs l .e=true)
 | [],_,k,ob,hg=>by simp[ar]at hg
 | (k',ob')::r,hl,k,ob,hg=>by
  simp only[leH,Bool.and_eq_true]at hl
  rw[aq]at hg
  split at hg
  ·rename_i e;subst e
   simp only[Option.some.injEq]at hg;subst hg
   have h1:=hl.1
   split at h1
   ·rename_i j hj
    split at h1
    ·rename_i o2 h2;exact .inl ⟨j,o2,hj,h2,h1⟩
    ·cases h1
   ·rename_i hj
    split at h1
    ·rename_i e row l
     simp only[Bool.and_eq_true]at h1
     exact .inr ⟨hj,e,row,l,rfl,ap h1.1,h1.2⟩
    ·cases h1
  ·exact oN hl.2 hg
theorem IU(hpk:∀ p,p∈cx.pin->p.1∈t.pk)(hE:cx.E0=env0)(hl:le nv0 nx0 xs ms t s=true)(hn:env0.length=nv0)(h:Sat cx M N env s tm w):Sat cx M (lc nx0 ms N) (env0++aK env xs) t tm w:=by
 unfold le at hl
 simp only[Bool.and_eq_true]at hl
 obtain⟨⟨c1,c2⟩,⟨c3,c4⟩,c5⟩:=hl
 have hE2:Env2 nv0 xs env0 env:=⟨hn,by obtain⟨ds,e⟩:=h.pre;exact⟨ds,by rw[e,hE]⟩⟩
 have hphi:∀ k ob b,ar t.hp k=some ob->b∈(lc nx0 ms N k).φ->∃ j ob',tc nx0 ms k=some j/\ar s.hp j=some ob'/\b∈(N j).φ:=by
  intro k ob b hg hb
  rcases oN c3 hg with ⟨j,ob',e1,e2,_⟩|⟨e1,_⟩
  ·unfold lc at hb;rw[e1]at hb;exact⟨j,ob',e1,e2,hb⟩
  ·unfold lc at hb;rw[e1]at hb;simp at hb
 refine {os:=h.os,tape:=h.tape,output:=h.output,size:=h.size,frame:=h.frame,rlt:=h.rlt,mlt:=h.mlt,mto:=h.mto,mfrom:=h.mfrom,pin:=?_,pre:=⟨_,by rw[hE]⟩,nv:=?_,slen:=?_,slots:=?_,objs:=?_,blt:=?_,nodup:=?_,apart:=?_,dist:=?_}
 ·intro p hp
  have h1:=hpk p hp
  unfold pkB at c5
  rw[List.all_eq_true]at c5
  refine⟨h1,?_⟩
  rw[(oM (N:=N) (c5 _ h1)).2]
  exact(h.pin p hp).2
 ·rw[br c1,List.length_append,cU,hn]
 ·rw[pq (w:=w) (M:=M) (R:=cx.R) (N:=N) (env:=env) (env0:=env0) _ _ c2];exact h.slen
 ·exact fun k=>EB hE2 _ _ _ (wh c2 k) (h.slots k)
 ·intro k ob hg
  rcases oN c3 hg with ⟨j,ob',e1,e2,e3⟩|⟨e1,e,row,l,rfl,e2,e3⟩
  ·have hN:lc nx0 ms N k=N j:=by unfold lc;rw[e1]
   have hob:=h.objs j _ e2
   cases ob with
   | cells us =>
    cases ob'<;>simp only[leO,Bool.false_eq_true]at e3
    obtain⟨b,arr,vs,h1,h2,h3,h4,h5⟩:=hob
    rw[obm,hN]
    exact⟨b,arr,vs,h1,h2,h3,h4,ji hE2 _ _ _ e3 h5⟩
   | arr e row l =>
    cases ob'<;>simp only[leO,Bool.false_eq_true,Bool.and_eq_true]at e3
    rw[obm]at hob ⊢
    rw[hN,uy hE2 e3.2,Sh.beqs_ok _ _ e3.1.2]
    exact vH e3.1.1 hob
   | foc e row l i vs=>cases ob'<;>simp[leO]at e3
   | map es =>
    cases ob'<;>simp only[leO,Bool.false_eq_true,decide_eq_true_eq]at e3
    subst e3
    rw[obm]at hob ⊢
    rw[hN]
    exact hob
   | smap es =>
    cases ob'<;>simp only[leO,Bool.false_eq_true,decide_eq_true_eq]at e3
    subst e3
    rw[obm]at hob ⊢
    rw[hN]
    exact hob
   | bld T e a =>
    cases ob'<;>simp only[leO,Bool.false_eq_true,Bool.and_eq_true]at e3
    rw[obm]at hob ⊢
    rw[hN,Ez hE2 e3.2,br e3.1.1,br e3.1.2]
    exact hob
  ·have hN:lc nx0 ms N k=⟨.slice none 0 0,[],[],0,[]⟩:=by unfold lc;rw[e1]
   rw[obm,hN,uy hE2 e3,shC]
   exact⟨[],[],[],rfl,rfl,.inl (World.ownsRow_nil w 0 e row.length),rfl,e2,Nat.zero_le _⟩
 ·intro k ob b hg hb
  obtain⟨j,ob',_,e2,e3⟩:=hphi k ob b hg hb
  exact h.blt j ob' b e2 e3
 ·intro k ob hg
  rcases oN c3 hg with ⟨j,ob',e1,e2,_⟩|⟨e1,_⟩
  ·have hN:lc nx0 ms N k=N j:=by unfold lc;rw[e1]
   rw[hN];exact h.nodup j ob' e2
  ·have hN:lc nx0 ms N k=⟨.slice none 0 0,[],[],0,[]⟩:=by unfold lc;rw[e1]
   rw[hN];simp
 ·intro k ob b hg hb
  obtain⟨j,ob',_,e2,e3⟩:=hphi k ob b hg hb
  exact h.apart j ob' b e2 e3
 ·intro k k' o1 o2 b hg hg' hb hb'
  obtain⟨j,ob',i1,e2,e3⟩:=hphi k o1 b hg hb
  obtain⟨j',ob2,i2,e2',e3'⟩:=hphi k' o2 b hg' hb'
  have hjj:=h.dist j j' ob' ob2 b e2 e2' e3 e3'
  unfold injB at c4
  rw[List.all_eq_true]at c4
  have:=c4 _ (vC hg)
  rw[List.all_eq_true]at this
  have:=this _ (vC hg')
  simp only[Bool.or_eq_true]at this
  rcases this with h5|h5
  ·exact br h5
  ·unfold IT at h5
   rw[i1,i2,hjj]at h5
   simp at h5
end
end Dx
namespace Dx
open Go
structure How where
 loops:Nat->Option Head
 meets:Nat->Option Head
 ends:Nat->Option Head
mutual
def frzV:SV->SV->List Nat
 | .view _ _,.sl k=>[k]
 | .agg us,.agg vs=>BW us vs
 | _,_=>[]
def BW:List SV->List SV->List Nat
 | u::us,v::vs=>frzV u v++BW us vs
 | _,_=>[]
end
def FU(hp':List (Nat×SObj)):List (Nat×SObj)->List Nat
 | []=>[]
 | (k,.cells us)::r=>match ar hp' k with
  | some (.cells vs)=>BW us vs++FU hp' r
  | _=>FU hp' r
 | _::r=>FU hp' r
def frzS(sl:List SV):List (Nat×SV)->List Nat
 | []=>[]
 | (i,u)::r=>frzV u (cr sl i)++frzS sl r
def eZ:List Nat->St->(St->Tree)->Tree
 | [],s,K=>K s
 | k::r,s,K=>match ar s.hp k with
  | some (.arr _ _ l)=>eZ r (frz k l s) K
  | _=>eZ r s K
def guess(nv0 nx0:Nat)(t s:St):Gs:=gsH nv0 nx0 s.hp t.hp (gsH nv0 nx0 s.hp t.hp (Ch nv0 nx0 t.sl s.sl ⟨[],[]⟩))
def BX(nv0 nx0:Nat)(ks:List CK)(t s:St)(K:List Cell->Tree):Tree :=
 match guess nv0 nx0 t s with
 | ⟨as,ms⟩=>match qg as nv0 ks with
  | xs=>match le nv0 nx0 xs ms t s with
   | true=>K xs
   | false=>.fail
def uz(nv0 nx0:Nat)(ks:List CK)(t s:St):Tree :=
 shut s.hp.length s fun s=>eZ (BW t.sl s.sl++FU s.hp t.hp) s fun s=>BX nv0 nx0 ks t s .jump
def z6(h:Head)(s t:St)(body:St->(St->Tree)->Tree):Tree :=
 BX s.nv s.nx h.ks t s fun xs=>.iter xs (body t fun s2=>uz s.nv s.nx h.ks t s2)
def IV(h:Head)(ds:List Nat)(s:St)(body:St->(St->Tree)->Tree):Tree :=
 shut s.hp.length s fun s=>eZ (frzS s.sl h.sl++FU s.hp h.hp) s fun s=>z6 h s (ko h s ds) body
def EC(h:Head)(s t:St)(ways:(St->Tree)->Tree)(rest:St->Tree):Tree :=
 .join h.ks (ways fun s2=>uz s.nv s.nx h.ks t s2) (rest t)
def yP(h:Head)(ds:List Nat)(s:St)(ways:(St->Tree)->Tree)(rest:St->Tree):Tree:=EC h s (ko h s ds) ways rest
def ld:List Oper->List Nat
 | []=>[]
 | op::r=>match op.dst with
  | some d=>d::ld r
  | none=>ld r
def AO:Code->List Nat
 | .region _ ops _=>ld ops.toList
 | .seq a b=>AO a++AO b
 | .cond _ a b=>AO a++AO b
 | .block _ a=>AO a
 | .loop a=>AO a
 | _=>[]
def iK:Code->Option Nat
 | .region id _ _=>some id
 | .seq a _=>iK a
 | .block _ a=>iK a
 | .cond _ a _=>iK a
 | .loop a=>iK a
 | _=>none
def KS(H:How)(b:Code):Option Head:=match iK b with
 | some id=>H.meets id
 | none=>none
def EZ(s:St):Operand->Bool->St
 | .tmp d,b=>ct s (some d) (.bool (.b b))
 | _,_=>s
def fy(G:Env)(H:How):Code->Option Head->St->(Nat->St->Tree)->(St->Tree)->(St->Tree)->Tree
 | .skip,_,s,_,_,N=>N s
 | .seq a b,_,s,X,R,N=>match KS H b with
  | some h=>yP h (AO a) s (fun J=>fy G H a none s (fun j s=>.up (X j s)) (fun s=>.up (R s)) J) fun s=>fy G H b none s X R N
  | none=>fy G H a none s X R fun s=>fy G H b none s X R N
 | .cond c a b,_,s,X,R,N=>match opnd s.sl c with
  | .bool (.b true)=>fy G H a none s X R N
  | .bool (.b false)=>fy G H b none s X R N
  | .bool x=>.ite x (fy G H a none (EZ s c true) X R N) (fy G H b none (EZ s c false) X R N)
  | _=>.fail
 | .block id c,_,s,X,R,N=>fy G H c (H.loops id) s (fun j s=>match Nat.beq j id with
  | true=>N s
  | false=>X j s) R N
 | .loop c,h,s,X,R,_=>match h with
  | some h=>IV h (AO c) s fun t J=>fy G H c none t (fun j s=>.up (X j s)) (fun s=>.up (R s)) J
  | none=>.fail
 | .exit id,_,s,X,_,_=>X id s
 | .ret,_,s,_,R,_=>R s
 | .region id ops false,_,s,_,_,N=>match H.ends id with
  | some h=>yP h (ld ops.toList) s (fun J=>yM G ops.toList ops.toList s J) N
  | none=>yM G ops.toList ops.toList s N
 | .region id ops true,_,s,_,_,N=>match H.ends id with
  | some h=>yP h (ld ops.toList) s (fun J=>qf G ops s J) N
  | none=>qf G ops s N
 | _,_,_,_,_,_=>.fail
def AP(Φ:Phi)(X:Nat->St->Tree)(R N:St->Tree)(o:Out)(cx:Ctx):Exit->Act->World->Prop
 | .normal,a,w=>Now Φ N o cx a w
 | .exit id,a,w=>Now Φ (X id) o cx a w
 | .ret,a,w=>Now Φ R o cx a w
 | _,_,_=>False
theorem BK{P:Program}{c:Code}{Q:Exit->Act->World->Prop}(I:Nat->Act->World->Prop)
  (round:∀ n a w,I n a w->c.wp P (Exit.then (fun a' w'=>∃ m,m<n/\I m a' w') Q) a w) {a:Act} {w:World} {n:Nat} (h₀:I n a w):(Code.loop c).wp P Q a w:=by
 classical
 let J:Act->World->Prop:=fun a w=>∃ n,I n a w
 have least:∀ a w,J a w->∃ n,I n a w/\∀ m,I m a w->n<=m:=by
  intro a w ⟨n,hn⟩
  induction n using Nat.strongRecOn with
  | _ n ih =>
   by_cases hm:∃ m,m<n/\I m a w
   ·obtain⟨m,h1,h2⟩:=hm;exact ih m h1 h2
   ·exact⟨n,hn,fun m hm'=>Nat.le_of_not_lt fun hlt=>hm ⟨m,hlt,hm'⟩⟩
 let μ:Act->World->Nat:=fun a w=>if h:J a w then Classical.choose (least a w h) else 0
 refine wp_loop J μ ⟨n,h₀⟩ ?_
 intro a w hJ
 have hsp:=Classical.choose_spec (least a w hJ)
 have hμ:μ a w=Classical.choose (least a w hJ):=dif_pos hJ
 refine wp_mono (round _ a w hsp.1) ?_
 intro e a' w' hq
 cases e<;>try exact hq
 obtain⟨m,h1,h2⟩:=hq
 have hJ':J a' w':=⟨m,h2⟩
 have hsp':=Classical.choose_spec (least a' w' hJ')
 have hμ':μ a' w'=Classical.choose (least a' w' hJ'):=dif_pos hJ'
 exact⟨hJ',by rw[hμ,hμ'];exact Nat.lt_of_le_of_lt (hsp'.2 m h2) h1⟩
section
variable {Φ:Phi} {cx:Ctx} {M:Nat->Prop} {N:Nm} {env env0:List C} {s t:St} {tm:Array Value} {w:World} {o o1:Out} {P:Program}
theorem eK{K:St->Tree}:∀(ks:List Nat) {M:Nat->Prop} {s:St},den Φ (eZ ks s K) env=some o->Sat cx M N env s tm w->mz Φ K o cx tm w
 | [],M,s,hn,hs=>⟨s,env,M,N,hn,hs⟩
 | k::r,M,s,hn,hs=>by
  simp only[eZ]at hn
  split at hn
  ·rename_i e row l hg
   exact eK r hn (hs.frz hg)
  ·exact eK r hn hs
theorem wi{ks:List CK}{nv0 nx0:Nat}{K:List Cell->Tree}(hn:den Φ (BX nv0 nx0 ks t s K) env=some o):∃ xs ms,le nv0 nx0 xs ms t s=true/\ak ks (aK env xs)=true/\c8 xs=ks/\den Φ (K xs) env=some o:=by
 unfold BX at hn
 split at hn
 dsimp only at hn
 split at hn
 ·rename_i h;exact⟨_,_,h,(gB env _ ks nv0).1,(gB env _ ks nv0).2,hn⟩
 ·cases hn
theorem wo{ks:List CK}{nv0 nx0:Nat}(hpk:∀ p,p∈cx.pin->p.1∈t.pk)(hE:cx.E0=env0)(hl:env0.length=nv0)(hn:den Φ (uz nv0 nx0 ks t s) env=some o)(hs:Sat cx M N env s tm w) :
  ∃ ps M' N',o=.jump ps/\ak ks ps=true/\Sat cx M' N' (env0++ps) t tm w:=by
 obtain⟨s1,env1,M1,N1,h1,h2⟩:=oF _ hn hs
 obtain⟨s2,env2,M2,N2,h3,h4⟩:=eK _ h1 h2
 obtain⟨xs,ms,h5,h7,_,h6⟩:=wi h3
 rw[den]at h6
 simp only[Option.some.injEq]at h6
 exact⟨aK env2 xs,M2,_,h6.symm,h7,IU hpk hE h5 hl h4⟩
theorem ED{t:Tree}(h:den Φ (.up t) env=some o):∃ o',o=.up o'/\den Φ t env=some o':=by
 rw[den]at h
 unfold upD at h
 split at h
 ·rename_i o' e;simp only[Option.some.injEq]at h;exact⟨o',h.symm,e⟩
 ·cases h
theorem Now.back{K:St->Tree}{a a0:Act}{w0:World}(h0:Sat cx M N env s a0.tmps w0)(h:Now Φ K o (cx.at M N env []) a w):Now Φ K o cx a w:=by
 obtain⟨s',env',M',N',h1,h2,h3⟩:=h
 exact⟨s',env',M',N',h1,h0.back h2,h3⟩
theorem pu{h:Head}{ds:List Nat}{ways:(St->Tree)->Tree}{rest:St->Tree}{X:Nat->St->Tree}{R:St->Tree}{c:Code}{a:Act}{Q:Exit->Act->World->Prop}(hn:den Φ (yP h ds s ways rest) env=some o)(hs:Sat cx M N env s a.tmps w)(hd:a.defers=[])
  (hw:∀ J o1 cx,den Φ (ways J) env=some o1->Sat cx M N env s a.tmps w->c.wp P (AP Φ (fun j s=>.up (X j s)) (fun s=>.up (R s)) J o1 cx) a w)
  (hN:∀ a' w',Now Φ rest o cx a' w'->Q .normal a' w') (hX:∀ id a' w',Now Φ (X id) o cx a' w'->Q (.exit id) a' w') (hR:∀ a' w',Now Φ R o cx a' w'->Q .ret a' w'):c.wp P Q a w:=by
 unfold yP EC at hn
 have hpk:∀ p,p∈(cx.at M N env []).pin->p.1∈(ko h s ds).pk:=fun p hp=>(hs.pin p (by simpa [Ctx.at] using hp)).1
 generalize ko h s ds=t at hn hpk
 rw[den]at hn
 cases hb:den Φ (ways fun s2=>uz s.nv s.nx h.ks t s2) env with
 | none=>rw[hb]at hn;cases hn
 | some o1 =>
  rw[hb]at hn
  have hup:∀ {K:St->Tree} {a':Act} {w':World},Now Φ (fun s=>.up (K s)) o1 (cx.at M N env []) a' w'->Now Φ K o cx a' w':=by
   rintro K a' w' ⟨s',env',M',N',h1,h2,h3⟩
   obtain⟨o2,rfl,h4⟩:=ED h1
   simp only[bi,Option.some.injEq]at hn
   subst hn
   exact⟨s',env',M',N',h4,hs.back h2,h3⟩
  refine wp_mono (hw _ o1 (cx.at M N env []) hb (hs.anchor (by simp))) ?_
  intro e a' w' hq
  cases e<;>try exact hq.elim
  ·obtain⟨s',env',M',N',h1,h2,h3⟩:=hq
   obtain⟨ps,M2,N2,rfl,hk,h4⟩:=wo hpk rfl hs.nv.symm h1 h2
   simp only[bi]at hn
   rw[gU hk]at hn
   exact hN a' w' ⟨t,env++ps,M2,N2,hn,hs.back h4,h3⟩
  ·exact hX _ a' w' (hup hq)
  ·exact hR a' w' (hup hq)
theorem C4{h:Head}{ds:List Nat}{body:St->(St->Tree)->Tree}{X:Nat->St->Tree}{R:St->Tree}{c:Code}{a:Act}{Q:Exit->Act->World->Prop}(hn:den Φ (IV h ds s body) env=some o)(hs:Sat cx M N env s a.tmps w)(hd:a.defers=[])
  (hw:∀(t:St) (J:St->Tree) (o1:Out) (cx:Ctx) (M:Nat->Prop) (N:Nm) (env:List C) (a:Act) (w:World),den Φ (body t J) env=some o1->Sat cx M N env t a.tmps w->a.defers=[]->c.wp P (AP Φ (fun j s=>.up (X j s)) (fun s=>.up (R s)) J o1 cx) a w)
  (hX:∀ id a' w',Now Φ (X id) o cx a' w'->Q (.exit id) a' w') (hR:∀ a' w',Now Φ R o cx a' w'->Q .ret a' w'):(Code.loop c).wp P Q a w:=by
 obtain⟨s1,env1,M1,N1,g1,g2⟩:=oF _ hn hs
 obtain⟨s2,env2,M2,N2,g3,g4⟩:=eK _ g1 g2
 have g3:den Φ (z6 h s2 (ko h s2 ds) body) env2=some o:=g3
 unfold z6 at g3
 have hpk:∀ p,p∈(cx.at M2 N2 env2 []).pin->p.1∈(ko h s2 ds).pk:=fun p hp=>(g4.pin p (by simpa [Ctx.at] using hp)).1
 generalize ko h s2 ds=t at g3 hpk
 obtain⟨xs,ms,h5,hk0,hck,h6⟩:=wi g3
 rw[den,hck]at h6
 have h7:=IU (cx:=cx.at M2 N2 env2 []) hpk rfl h5 g4.nv.symm (g4.anchor (by simp))
 obtain⟨n,hit⟩:=jG h6
 refine BK (I:=fun n a w=>∃ ps M N,ak h.ks ps=true/\ig (fun ps=>den Φ (body t fun s3=>uz s2.nv s2.nx h.ks t s3) (env2++gK ps 0 h.ks)) n ps=some o/\Sat (cx.at M2 N2 env2 []) M N (env2++ps) t a.tmps w/\a.defers=[]) ?_ ⟨_,_,_,hk0,hit,h7,hd⟩
 rintro n a w ⟨ps,M3,N3,hkp,k1,k2,k3⟩
 cases n with
 | zero=>cases k1
 | succ n =>
  simp only[ig]at k1
  rw[gU hkp]at k1
  cases hb:den Φ (body t fun s3=>uz s2.nv s2.nx h.ks t s3) (env2++ps)with
  | none=>rw[hb]at k1;cases k1
  | some o1 =>
   rw[hb]at k1
   have hup:∀ {K:St->Tree} {a':Act} {w':World},Now Φ (fun s=>.up (K s)) o1 (cx.at M2 N2 env2 []) a' w'->Now Φ K o cx a' w':=by
    rintro K a' w' ⟨s',env',M',N',h1,h2,h3⟩
    obtain⟨o2,rfl,h4⟩:=ED h1
    simp only[bi,Option.some.injEq]at k1
    subst k1
    exact⟨s',env',M',N',h4,g4.back h2,h3⟩
   refine wp_mono (hw t _ o1 _ M3 N3 _ a w hb k2 k3) ?_
   intro e a' w' hq
   cases e<;>try exact hq.elim
   ·obtain⟨s',env',M',N',j1,j2,j3⟩:=hq
    obtain⟨ps2,M4,N4,rfl,hk2,j4⟩:=wo hpk rfl g4.nv.symm j1 j2
    simp only[bi]at k1
    exact⟨n,Nat.lt_succ_self n,ps2,M4,N4,hk2,k1,j4,j3⟩
   ·exact hX _ a' w' (hup hq)
   ·exact hR a' w' (hup hq)
theorem AQ{c:Operand}{x:At}{a:Act}(hs:Sat cx M N env s a.tmps w)(hc:opnd s.sl c=.bool x){b:Bool}(hb:(x.den env).toBool=b):Sat cx M N env (EZ s c b) a.tmps w:=by
 cases c with
 | tmp d=>exact hs.know hc hb
 | _=>exact hs
theorem FV{G:Env}(hG:EnvOk P G Φ){H:How}:∀(c:Code) (h:Option Head) (s:St) (X:Nat->St->Tree) (R K:St->Tree) (o:Out) (cx:Ctx) (M:Nat->Prop) (N:Nm) (env:List C) (a:Act) (w:World),
  den Φ (fy G H c h s X R K) env=some o->Sat cx M N env s a.tmps w->a.defers=[]->c.wp P (AP Φ X R K o cx) a w:=by
 intro c
 induction c with
 | skip=>intro h s X R K o cx M N env a w hn hs hd;rw[fy]at hn;exact wp_skip ⟨s,env,M,N,hn,hs,hd⟩
 | ret=>intro h s X R K o cx M N env a w hn hs hd;rw[fy]at hn;exact wp_ret ⟨s,env,M,N,hn,hs,hd⟩
 | exit id=>intro h s X R K o cx M N env a w hn hs hd;rw[fy]at hn;exact wp_exit ⟨s,env,M,N,hn,hs,hd⟩
 | seq x y ihx ihy =>
  intro h s X R K o cx M N env a w hn hs hd
  rw[fy]at hn
  have rest:∀ {K':St->Tree} {a' w'},K'=(fun s=>fy G H y none s X R K)->Now Φ K' o cx a' w'->y.wp P (AP Φ X R K o cx) a' w':=by
   rintro K' a' w' rfl ⟨s',env',M',N',h1,h2,h3⟩
   exact ihy none s' X R K o cx M' N' env' a' w' h1 h2 h3
  refine wp_seq ?_
  split at hn
  ·rename_i hh hm
   refine pu (X:=X) (R:=R) hn hs hd (fun J o1 cx' h1 h2=>ihx none s _ _ J o1 cx' M N env a w h1 h2 hd) ?_ ?_ ?_
   ·exact fun a' w' hq=>rest rfl hq
   ·exact fun id a' w' hq=>hq
   ·exact fun a' w' hq=>hq
  ·refine wp_mono (ihx none s X R _ o cx M N env a w hn hs hd) ?_
   intro e a' w' hq
   cases e<;>try exact hq
   exact rest rfl hq
 | cond c x y ihx ihy =>
  intro h s X R K o cx M N env a w hn hs hd
  rw[fy]at hn
  have hc:=hs.opnd c
  split at hn
  ·rename_i e;rw[e,svm]at hc;exact wp_cond_true hc (ihx none s X R K o cx M N env a w hn hs hd)
  ·rename_i e;rw[e,svm]at hc;exact wp_cond_false hc (ihy none s X R K o cx M N env a w hn hs hd)
  ·rename_i p _ _ e
   rw[den]at hn
   have hv:=hc
   rw[e,svm]at hv
   cases hb:(p.den env).toBool with
   | true =>
    rw[hb]at hn hv
    exact wp_cond_true hv (ihx none _ X R K o cx M N env a w hn (AQ hs e hb) hd)
   | false =>
    rw[hb]at hn hv
    exact wp_cond_false hv (ihy none _ X R K o cx M N env a w hn (AQ hs e hb) hd)
  ·cases hn
 | block id c ih =>
  intro h s X R K o cx M N env a w hn hs hd
  rw[fy]at hn
  refine wp_block ?_
  refine wp_mono (ih _ s _ R K o cx M N env a w hn hs hd) ?_
  intro e a' w' hq
  cases e<;>try exact hq
  rename_i j
  obtain⟨s',env',M',N',h3,h4,h5⟩:=hq
  simp only[Exit.inBlock]
  dsimp only at h3
  split at h3
  ·rename_i e;rw[if_pos (br e)];exact⟨s',env',M',N',h3,h4,h5⟩
  ·rename_i e;rw[if_neg (Nat.ne_of_beq_eq_false e)];exact⟨s',env',M',N',h3,h4,h5⟩
 | loop c ih =>
  intro h s X R K o cx M N env a w hn hs hd
  cases h with
  | none=>rw[fy]at hn;cases hn
  | some hh =>
  rw[fy]at hn
  refine C4 (X:=X) (R:=R) hn hs hd ?_ (fun id a' w' hq=>hq) (fun a' w' hq=>hq)
  intro t J o1 cx' M' N' env' a' w' h1 h2 h3
  exact ih none t _ _ J o1 cx' M' N' env' a' w' h1 h2 h3
 | region id ops draw =>
  intro h s X R K o cx M N env a w hn hs hd
  have seqR:∀(X:Nat->St->Tree) (R J:St->Tree) (o1:Out) (cx':Ctx),den Φ (yM G ops.toList ops.toList s J) env=some o1->Sat cx' M N env s a.tmps w->(Code.region id ops false).wp P (AP Φ X R J o1 cx') a w:=by
   intro X R J o1 cx' h1 h2
   refine wp_region ?_
   have:=FS (cx:=cx') hG (Q:=AP Φ X R J o1 cx') (K:=J) (fun a w h=>h) _ 0 rfl (ops:=ops) (s:=s) (by simpa using h1) h2 hd
   simpa using this
  have drR:∀(X:Nat->St->Tree) (R J:St->Tree) (o1:Out) (cx':Ctx),den Φ (qf G ops s J) env=some o1->Sat cx' M N env s a.tmps w->(Code.region id ops true).wp P (AP Φ X R J o1 cx') a w:=by
   intro X R J o1 cx' h1 h2
   exact BJ hG (Q:=AP Φ X R J o1 cx') (fun a w h=>h) (fun _ _ _ h=>h) h1 h2 hd
  cases draw with
  | false =>
   rw[fy]at hn
   split at hn
   ·exact pu (X:=X) (R:=R) hn hs hd (fun J o1 cx' h1 h2=>seqR _ _ J o1 cx' h1 h2) (fun a' w' hq=>hq) (fun id a' w' hq=>hq) (fun a' w' hq=>hq)
   ·exact seqR X R K o cx hn hs
  | true =>
   rw[fy]at hn
   split at hn
   ·exact pu (X:=X) (R:=R) hn hs hd (fun J o1 cx' h1 h2=>drR _ _ J o1 cx' h1 h2) (fun a' w' hq=>hq) (fun id a' w' hq=>hq) (fun a' w' hq=>hq)
   ·exact drR X R K o cx hn hs
 | rangeFunc f ps x y ihx ihy=>intro h s X R K o cx M N env a w hn;rw[fy]at hn<;>first|(cases hn;done)|simp
 | scope x ih=>intro h s X R K o cx M N env a w hn;rw[fy]at hn<;>first|(cases hn;done)|simp
 | label l=>intro h s X R K o cx M N env a w hn;rw[fy]at hn<;>first|(cases hn;done)|simp
 | goto l=>intro h s X R K o cx M N env a w hn;rw[fy]at hn<;>first|(cases hn;done)|simp
 | refuse y=>intro h s X R K o cx M N env a w hn;rw[fy]at hn<;>first|(cases hn;done)|simp
end
end Dx
namespace Dx
open Go
inductive Ent where
 | no
 | own (svs:List SV)
 | ptr (k:Nat)
def gv(nv:Nat):List (List CK)->List SV×Nat
 | []=>([],nv)
 | ks::kss=>match gv (nv+ks.length) kss with
  | (xs,nv')=>(.vptr false (cR false ks nv)::xs,nv')
def dI(nx nv:Nat):Par->SV×List (Nat×SObj)×Nat×Nat×Ent
 | .ro a ks=>(kN a (cR false ks nv),[],nx,nv+ks.length,.no)
 | .own a shs ks back=>match mkR true nx nv shs ks with
  | (svs,o1,nx1)=>(kN a svs,o1,nx1,nv+ks.length,match back with|true=>.own svs|false=>.no)
 | .ptr shs ks=>match mkR true (nx+1) nv shs ks with
  | (svs,o1,nx1)=>(.ptr nx 0,(nx,.cells svs)::o1,nx1,nv+ks.length,.ptr nx)
 | .rptr ks=>(.vptr false (cR false ks nv),[],nx,nv+ks.length,.no)
 | .fn f kss=>match gv nv kss with
  | (xs,nv')=>(.fn f xs,[],nx,nv',.no)
def qh(nx nv:Nat):List Par->List SV×List (Nat×SObj)×Nat×Nat×List Ent
 | []=>([],[],nx,nv,[])
 | p::ps=>match dI nx nv p with
  | (x,o1,nx1,nv1,e)=>match qh nx1 nv1 ps with
   | (xs,o2,nx2,nv2,es)=>(x::xs,o1++o2,nx2,nv2,e::es)
def EntOk(w0 w:World)(M R:Nat->Prop)(N:Nm)(env:List C):Par->Ent->Value->Prop
 | .own a _ _ true,.own svs,v=>∃ us,isV a us v/\svms w M R N env svs us
 | .ptr shs _,.ptr k,v=>(N k).v=v/\∃ b arr us,v=.pointer (some ⟨b,(N k).pre.length,none⟩)/\w0.heap[b]?=some (.cells arr (N k).ty (0,0))/\arr.toList=(N k).pre++us++(N k).post/\us.length=shs.length
 | .own _ _ _ true,_,_=>False
 | .ptr _ _,_,_=>False
 | _,_,_=>True
def EntOks(w0 w:World)(M R:Nat->Prop)(N:Nm)(env:List C):List Par->List Ent->List Value->Prop
 | [],es,vs=>es=[]/\vs=[]
 | p::ps,es,vs=>∃ e es' v vs',es=e::es'/\vs=v::vs'/\EntOk w0 w M R N env p e v/\EntOks w0 w M R N env ps es' vs'
section
variable {cx:Ctx} {M Z R:Nat->Prop} {N:Nm} {env env0:List C} {w:World}
theorem rX(hZ:∀ b,Z b->R b):∀ {kss:List (List CK)} {cs:List C} {vs:List Value} {env0:List C} (rest:List C),uq w Z kss cs vs->svms w M R N (env0++(cs++rest)) (gv env0.length kss).1 vs/\(gv env0.length kss).2=env0.length+cs.length ∧
  (∀ K:Nat->Bool,SV.alls K (fun _=>true) (gv env0.length kss).1=true)
 | [],cs,vs,env0,rest,h=>by
  obtain⟨rfl,rfl⟩:=h
  exact⟨by simp[gv,svms],by simp[gv],fun _=>rfl⟩
 | ks::kss,cs,vs,env0,rest,h=>by
  obtain⟨c1,c2,v,vs',rfl,rfl,⟨hk,b,ofs,arr,T,fr,h1,h2,h3,h4,h5⟩,hr⟩:=h
  have hkl:=aJ hk
  have ih:=rX hZ (env0:=env0++c1) rest hr
  have e1:(env0++c1).length=env0.length+ks.length:=by simp[hkl]
  have e2:env0++c1++(c2++rest)=env0++(c1++c2++rest):=by simp
  rw[e1,e2]at ih
  simp only[gv]
  generalize gv (env0.length+ks.length) kss=q at ih ⊢
  obtain⟨xs,nv'⟩:=q
  dsimp only at ih ⊢
  refine⟨?_,by rw[ih.2.1];simp;omega,fun K=>?_⟩
  ·rw[svms]
   refine⟨v,vs',rfl,?_,ih.1⟩
   rw[svm]
   refine⟨b,ofs,arr,T,fr,h1,.inr (hZ b h2),h3,?_⟩
   rw[gf,<-hkl]
   have:=cE (w:=w) (M:=M) (R:=R) (t:=false) (N:=N) (env:=env0) (c2++rest) hk (repRow.mono (fun b hb=>⟨.inr (hZ b hb),rfl⟩) _ _ h5)
   rw[List.append_assoc];exact this
  ·simp only[SV.alls,ih.2.2 K,Bool.and_true,SV.all]
   have hb:∀(ks:List CK) (n:Nat),SV.alls K (fun _=>true) (cR false ks n)=true:=by
    intro ks
    induction ks with
    | nil=>intro n;rfl
    | cons k ks ih=>intro n;cases k<;>simp[cR,SV.alls,CK.sv,SV.all,At.all,ih]
   exact hb ks _
theorem jQ(K:Nat->Bool)(t:Bool):∀(ks:List CK) (n:Nat),SV.alls K (fun _=>true) (cR t ks n)=true
 | [],n=>rfl
 | k::ks,n=>by cases k<;>simp[cR,SV.alls,CK.sv,SV.all,At.all,jQ K t ks]
structure InOk (w:World) (M R:Nat->Prop) (N N':Nm) (env:List C) (nx nx':Nat) (objs:List (Nat×SObj)) (X:List Nat):Prop where
 old:∀ k,k<nx->N' k=N k
 news:News w M R N' env objs X
 key:∀ k o,ar objs k=some o->nx<=k/\k<nx'
 all:bq (fun k=>Nat.blt k nx') (fun _=>true) objs=true
 le:nx<=nx'
theorem C5(hZ:∀ b,Z b->R b){p:Par}{cs:List C}{v:Value}{X:List Nat}{env0:List C}(rest:List C){nx:Nat}{N:Nm}(h:Ce w M Z p cs v X)(hn:X.Nodup) :
  ∃ N',InOk w M R N N' (env0++(cs++rest)) nx (dI nx env0.length p).2.2.1 (dI nx env0.length p).2.1 X/\svm w M R N' (env0++(cs++rest)) (dI nx env0.length p).1 v/\(dI nx env0.length p).2.2.2.1=env0.length+cs.length ∧
   (∀ n,(dI nx env0.length p).2.2.1<=n->(dI nx env0.length p).1.all (fun k=>Nat.blt k n) (fun _=>true)=true)/\EntOk w w M R N' (env0++(cs++rest)) p (dI nx env0.length p).2.2.2.2 v ∧
   (match (dI nx env0.length p).2.2.2.2 with|.own svs=>SV.alls (fun k=>Nat.blt k (dI nx env0.length p).2.2.1) (fun _=>true) svs=true|.ptr k=>k<(dI nx env0.length p).2.2.1|.no=>True):=by
 cases p with
 | ro a ks =>
  obtain⟨rfl,hk,vs,h1,h2,h3⟩:=h
  have hkl:=aJ hk
  refine⟨N,⟨fun _ _=>rfl,News.nil,fun k o hg=>by simp[dI,ar]at hg,rfl,Nat.le_refl _⟩,?_,by simp[dI,hkl],?_,trivial,trivial⟩
  ·have:=cE (w:=w) (M:=M) (R:=R) (t:=false) (N:=N) (env:=env0) rest hk (repRow.mono (fun b hb=>⟨.inr (hZ b hb),rfl⟩) _ _ h2)
   rw[List.take_of_length_le (by omega)]at this
   exact iW this h3
  ·intro n _
   exact lz (jQ _ _ _ _)
 | own a shs ks back =>
  obtain⟨hk,vs,h1,h2⟩:=h
  have hkl:=aJ hk
  obtain⟨N1,g⟩:=jc (R:=R) (env0:=env0) rest (nx:=nx) (N:=N) hk h1 hn
  have hge:=eW (t:=true) (shs:=shs) (ks:=ks) (nx:=nx) (nv:=env0.length)
  have hall:=fun n=>gV (t:=true) (V:=fun _=>true) (fun _=>rfl) (shs:=shs) (ks:=ks) (nx:=nx) (nv:=env0.length) (n:=n)
  have hhp:=fun n=>mL (t:=true) (shs:=shs) (ks:=ks) (nx:=nx) (nv:=env0.length) (n:=n)
  simp only[dI]
  generalize mkR true nx env0.length shs ks=q at g hge hall hhp ⊢
  obtain⟨svs,o1,nx1⟩:=q
  dsimp only at g hge hall hhp ⊢
  refine⟨N1,⟨g.old,⟨g.obj,g.dist⟩,g.key,hhp nx1 (Nat.le_refl _),hge⟩,iW g.svs h2,by rw[hkl],fun n hle=>lz (hall n hle),?_,?_⟩
  ·cases back with
   | true=>exact⟨vs,h2,g.svs⟩
   | false=>trivial
  ·cases back with
   | true=>exact hall nx1 (Nat.le_refl _)
   | false=>trivial
 | ptr shs ks =>
  obtain⟨hk,b,pre,us,post,arr,T,X',hv,hh,ha,h1,rfl⟩:=h
  have hkl:=aJ hk
  have hn':=List.nodup_cons.1 hn
  let N0:Nm:=ip N nx ⟨v,pre,post,T,[b]⟩
  obtain⟨N1,g⟩:=jc (R:=R) (env0:=env0) rest (nx:=nx+1) (N:=N0) hk h1 hn'.2
  have hge:=eW (t:=true) (shs:=shs) (ks:=ks) (nx:=nx+1) (nv:=env0.length)
  have hall:=fun n=>gV (t:=true) (V:=fun _=>true) (fun _=>rfl) (shs:=shs) (ks:=ks) (nx:=nx+1) (nv:=env0.length) (n:=n)
  have hhp:=fun n=>mL (t:=true) (shs:=shs) (ks:=ks) (nx:=nx+1) (nv:=env0.length) (n:=n)
  simp only[dI]
  generalize mkR true (nx+1) env0.length shs ks=q at g hge hall hhp ⊢
  obtain⟨svs,o1,nx1⟩:=q
  dsimp only at g hge hall hhp ⊢
  have hnx:N1 nx=⟨v,pre,post,T,[b]⟩:=by rw[g.old nx (Nat.lt_succ_self _)];exact aR N nx _
  have new:∀ k o,ar o1 k=some o->k≠nx:=fun k o hg e=>by have:=(g.key k o hg).1;omega
  refine⟨N1,⟨fun k hk'=>(g.old k (by omega)).trans (aO N _ hk'),⟨?_,?_⟩,?_,?_,by omega⟩,?_,by rw[hkl],fun n hle=>?_,?_,by omega⟩
  ·intro k o hg
   rw[aq]at hg
   split at hg
   ·rename_i e;subst e
    simp only[Option.some.injEq]at hg;subst hg
    rw[hnx]
    refine⟨?_,by simp,fun b' hb'=>by simp at hb';subst hb';exact List.mem_cons_self⟩
    rw[obm,hnx]
    exact⟨b,arr,us,hv,rfl,hh,ha,g.svs⟩
   ·obtain⟨k1,k2,k3⟩:=g.obj k o hg
    exact⟨k1,k2,fun b' hb'=>List.mem_cons_of_mem _ (k3 b' hb')⟩
  ·intro k k' o o' b' hg hg' hb hb'
   rw[aq]at hg hg'
   split at hg<;>split at hg'
   ·omega
   ·rename_i e1 e2;subst e1
    rw[hnx]at hb;simp at hb;subst hb
    exact absurd ((g.obj k' o' hg').2.2 _ hb') hn'.1
   ·rename_i e1 e2;subst e2
    rw[hnx]at hb';simp at hb';subst hb'
    exact absurd ((g.obj k o hg).2.2 _ hb) hn'.1
   ·exact g.dist k k' o o' b' hg hg' hb hb'
  ·intro k o hg
   rw[aq]at hg
   split at hg
   ·rename_i e;subst e;exact⟨Nat.le_refl _,by omega⟩
   ·have:=g.key k o hg;exact⟨by omega,this.2⟩
  ·simp[bq,hhp nx1 (Nat.le_refl _),el (show nx<nx1 by omega),SObj.all,hall nx1 (Nat.le_refl _)]
  ·rw[svm,hnx]
   exact⟨b,hv,by simpa using hv⟩
  ·exact el (by omega)
  ·refine⟨by rw[hnx],b,arr,us,by rw[hnx];exact hv,by rw[hnx];exact hh,by rw[hnx];exact ha,?_⟩
   exact(cD h1).2
 | rptr ks =>
  obtain⟨rfl,hk,b,ofs,arr,T,fr,h1,h2,h3,h4,h5⟩:=h
  have hkl:=aJ hk
  refine⟨N,⟨fun _ _=>rfl,News.nil,fun k o hg=>by simp[dI,ar]at hg,rfl,Nat.le_refl _⟩,?_,by simp[dI,hkl],?_,trivial,trivial⟩
  ·simp only[dI]
   rw[svm]
   refine⟨b,ofs,arr,T,fr,h1,.inr (hZ b h2),h3,?_⟩
   rw[gf,<-hkl]
   exact cE (w:=w) (M:=M) (R:=R) (t:=false) (N:=N) (env:=env0) rest hk (repRow.mono (fun b hb=>⟨.inr (hZ b hb),rfl⟩) _ _ h5)
  ·intro n _
   exact jQ _ _ _ _
 | fn f kss =>
  obtain⟨rfl,caps,hv,hr⟩:=h
  have hc:=rX (M:=M) (N:=N) hZ (env0:=env0) rest hr
  refine⟨N,?_⟩
  simp only[dI]
  generalize gv env0.length kss=q at hc ⊢
  obtain⟨xs,nv'⟩:=q
  dsimp only at hc ⊢
  refine⟨⟨fun _ _=>rfl,News.nil,fun k o hg=>by simp[ar]at hg,rfl,Nat.le_refl _⟩,?_,hc.2.1,fun n _=>hc.2.2 _,trivial,trivial⟩
  rw[svm]
  exact⟨caps,hv,hc.1⟩
theorem EntOk.lift{w0:World}{N':Nm}{n:Nat}(hN:∀ k,k<n->N' k=N k){p:Par}{e:Ent}{v:Value}(he:match e with|.own svs=>SV.alls (fun k=>Nat.blt k n) (fun _=>true) svs=true|.ptr k=>k<n|.no=>True)(h:EntOk w0 w M R N env p e v):EntOk w0 w M R N' env p e v:=by
 cases p with
 | own a shs ks back =>
  cases back with
  | false=>cases e<;>trivial
  | true =>
   cases e with
   | own svs =>
    obtain⟨us,h1,h2⟩:=h
    exact⟨us,h1,svms.mono (K:=fun k=>Nat.blt k n) (V:=fun _=>true) (fun _ hb=>⟨hb,rfl⟩) (fun _ _=>rfl) (fun k hk=>KI.same.of (hN k (ap hk))) (fun _ _=>rfl) _ _ he h2⟩
   | no=>exact h.elim
   | ptr k=>exact h.elim
 | ptr shs ks =>
  cases e with
  | ptr k =>
   have hk:N' k=N k:=hN k he
   obtain⟨h1,h2⟩:=h
   refine⟨by rw[hk];exact h1,?_⟩
   rw[hk];exact h2
  | no=>exact h.elim
  | own svs=>exact h.elim
 | ro a ks=>cases e<;>trivial
 | rptr ks=>cases e<;>trivial
 | fn f kss=>cases e<;>trivial
theorem AR(hZ:∀ b,Z b->R b):∀ {ps:List Par} {cs:List C} {vs:List Value} {X:List Nat} {env0:List C} (rest:List C) {nx:Nat} {N:Nm},oD w M Z ps cs vs X->X.Nodup ->
  ∃ N',InOk w M R N N' (env0++(cs++rest)) nx (qh nx env0.length ps).2.2.1 (qh nx env0.length ps).2.1 X/\svms w M R N' (env0++(cs++rest)) (qh nx env0.length ps).1 vs/\(qh nx env0.length ps).2.2.2.1=env0.length+cs.length ∧
   EntOks w w M R N' (env0++(cs++rest)) ps (qh nx env0.length ps).2.2.2.2 vs
 | [],cs,vs,X,env0,rest,nx,N,h,hn=>by
  obtain⟨rfl,rfl,rfl⟩:=h
  exact⟨N,⟨fun _ _=>rfl,News.nil,fun k o hg=>by simp[qh,ar]at hg,rfl,Nat.le_refl _⟩,by simp[qh,svms],by simp[qh],rfl,rfl⟩
 | p::ps,cs,vs,X,env0,rest,nx,N,h,hn=>by
  obtain⟨c1,c2,v,vs',X1,X2,rfl,rfl,rfl,h1,h2⟩:=h
  have hn':=List.nodup_append.1 hn
  obtain⟨N1,g1,g2,g3,g4,g5,g6⟩:=C5 (R:=R) hZ (env0:=env0) (c2++rest) (nx:=nx) (N:=N) h1 hn'.1
  simp only[qh]
  generalize dI nx env0.length p=q at g1 g2 g3 g4 g5 g6 ⊢
  obtain⟨x,o1,nx1,nv1,e⟩:=q
  dsimp only at g1 g2 g3 g4 g5 g6 ⊢
  have ih:=AR hZ (env0:=env0++c1) rest (nx:=nx1) (N:=N1) h2 hn'.2.1
  have e1:(env0++c1).length=nv1:=by rw[g3];simp
  have e2:env0++c1++(c2++rest)=env0++(c1++c2++rest):=by simp
  have e3:env0++(c1++(c2++rest))=env0++(c1++c2++rest):=by simp
  rw[e1,e2]at ih
  rw[e3]at g1 g2 g5
  obtain⟨N2,j1,j2,j3,j4⟩:=ih
  generalize qh nx1 nv1 ps=q2 at j1 j2 j3 j4 ⊢
  obtain⟨xs,o2,nx2,nv2,es⟩:=q2
  dsimp only at j1 j2 j3 j4 ⊢
  have hle:=j1.le
  have wide:bq (fun k=>Nat.blt k nx2) (fun _=>true) o1=true:=sV (fun k hk=>el (by have:=ap hk;omega)) (fun k o _ ho=>SObj.all_K (fun k hk=>el (by have:=ap hk;omega)) o ho) g1.all
  refine⟨N2,⟨fun k hk=>(j1.old k (by have:=g1.le;omega)).trans (g1.old k hk),(g1.news.lift2 g1.all fun k hk=>j1.old k hk).append j1.news hn,?_,gz wide j1.all,Nat.le_trans g1.le hle⟩,?_,?_,?_⟩
  ·intro k o hg
   rw[fF]at hg
   split at hg
   ·rename_i o' e'
    have:=g1.key k o' e'
    exact⟨this.1,by omega⟩
   ·have:=j1.key k o hg
    have:=g1.le
    exact⟨by omega,by omega⟩
  ·rw[svms]
   refine⟨v,vs',rfl,?_,j2⟩
   exact svm.mono (K:=fun k=>Nat.blt k nx1) (V:=fun _=>true) (fun _ hb=>⟨hb,rfl⟩) (fun _ _=>rfl) (fun k hk=>KI.same.of (j1.old k (ap hk))) (fun _ _=>rfl) _ _ (g4 nx1 (Nat.le_refl _)) g2
  ·rw[j3];simp;omega
  ·exact⟨e,es,v,vs',rfl,rfl,EntOk.lift (fun k hk=>j1.old k hk) g6 g5,j4⟩
end
end Dx
namespace Dx
open Go
def Ci(T:Tab)(s:St):List ResultVar->Option (List SV)
 | []=>some []
 | .tmp t::r=>match Ci T s r with
  | some xs=>some (cr s.sl t::xs)
  | none=>none
 | .cell t ty::r=>match nf T (fun _=>none) s (.load ty (.tmp t)),Ci T s r with
  | .q v,some xs=>some (v::xs)
  | _,_=>none
def AS:St->List Ret->List SV->Option (St×List Cell)
 | s,[],[]=>some (s,[])
 | s,r::rs,x::xs=>match r.ptr with
  | false=>match ei r.agg x with
   | some vs=>match jb s r.shs vs with
    | some (s1,cs)=>match cg r.ks cs,AS s1 rs xs with
     | true,some (s2,ds)=>some (s2,cs++ds)
     | _,_=>none
    | none=>none
   | none=>none
  | true=>match x with
   | .ptr k 0=>match ar s.hp k with
    | some (.cells vs)=>match jb s r.shs vs with
     | some (s1,cs)=>match ar s1.hp k,cg r.ks cs,AS {s1 with hp:=cw s1.hp k} rs xs with
      | some (.cells _),true,some (s2,ds)=>some (s2,cs++ds)
      | _,_,_=>none
     | none=>none
    | _=>none
   | _=>none
 | _,_,_=>none
def slB(s:St):SV->Bool
 | .sl k=>Eo s k
 | .view _ _=>true
 | .nil=>true
 | _=>false
def uA(s:St):List CK->List SV->List SV
 | .hole::ks,x::xs=>(match slB s x with|true=>.blob|false=>x)::uA s ks xs
 | _::ks,x::xs=>x::uA s ks xs
 | _,xs=>xs
def uB(s:St):List Ret->List SV->List SV
 | r::rs,.agg vs::xs=>.agg (uA s r.ks vs)::uB s rs xs
 | _::rs,x::xs=>x::uB s rs xs
 | _,xs=>xs
def rY:St->List Par->List Ent->Option (St×List Cell)
 | s,[],[]=>some (s,[])
 | s,.own _ shs ks true::ps,.own svs::es=>match jb s shs svs with
  | some (s1,cs)=>match cg ks cs,rY s1 ps es with
   | true,some (s2,ds)=>some (s2,cs++ds)
   | _,_=>none
  | none=>none
 | s,.ptr shs ks::ps,.ptr k::es=>match ar s.hp k with
  | some (.cells vs)=>match jb s shs vs with
   | some (s1,cs)=>match ar s1.hp k,cg ks cs,rY {s1 with hp:=cw s1.hp k} ps es with
    | some (.cells _),true,some (s2,ds)=>some (s2,cs++ds)
    | _,_,_=>none
   | none=>none
  | _=>none
 | s,.own _ _ _ false::ps,_::es=>rY s ps es
 | s,.ro _ _::ps,_::es=>rY s ps es
 | s,.rptr _::ps,_::es=>rY s ps es
 | s,.fn _ _::ps,_::es=>rY s ps es
 | _,_,_=>none
def E1(T:Tab)(c:Con)(es:List Ent)(rv:List ResultVar)(s:St):Tree :=
 match Ci T s rv with
 | some xs=>match AS s c.res (uB s c.res xs)with
  | some (s1,cs)=>match rY s1 c.args es with
   | some (_,ds)=>.ret (cs++ds)
   | none=>.fail
  | none=>.fail
 | none=>.fail
def outT(T:Tab)(c:Con)(es:List Ent)(rv:List ResultVar)(s:St):Tree:=shut s.hp.length s fun s=>E1 T c es rv s
def z7:List SV->List Nat
 | []=>[]
 | .sl k::r=>k::z7 r
 | _::r=>z7 r
def lf:List Ent->List Nat
 | []=>[]
 | .own svs::es=>z7 svs++lf es
 | .ptr k::es=>k::lf es
 | .no::es=>lf es
def yQ(pk:List Nat)(nv:Nat):List Ent->Bool
 | []=>true
 | .own svs::es=>SV.alls (fun k=>qb k pk) (fun i=>Nat.blt i nv) svs && yQ pk nv es
 | .ptr k::es=>qb k pk && yQ pk nv es
 | .no::es=>yQ pk nv es
def pad:List SV->Nat->List SV
 | [],0=>[]
 | [],n+1=>.any::pad [] n
 | x::xs,0=>x::xs
 | x::xs,n+1=>x::pad xs n
def fnGo(G:Env)(H:How)(c:Con)(fn:Func)(body:Code)(xs:List SV)(objs:List (Nat×SObj))(nx nv:Nat)(es:List Ent)(pk:List Nat):Tree :=
 match yQ pk nv es && pk.all (fun k=>Nat.blt k nx)with
 | true=>fy G H body none ⟨pad xs fn.ntmps,objs,nx,nv,pk⟩ (fun _ _=>.fail) (outT G.T c es fn.results.toList) (outT G.T c es fn.results.toList)
 | false=>.fail
def fnT(G:Env)(H:How)(c:Con)(fn:Func)(body:Code):Tree :=
 match qh 0 0 c.args with
 | (xs,objs,nx,nv,es)=>fnGo G H c fn body xs objs nx nv es (lf es)
def aj:Option Out->Option (List C)
 | some (.ret rs)=>some rs
 | _=>none
section
variable {Φ:Phi} {cx:Ctx} {M:Nat->Prop} {N:Nm} {env:List C} {s:St} {tm:Array Value} {w:World} {o:Out} {P:Program}
def qi(tm:Array Value):ResultVar->Sem Value
 | .tmp t=>pure (tm.getD t undef)
 | .cell a t=>do loadVar t (<-asAddr (tm.getD a undef))
theorem yR(fn:Func)(tm:Array Value):results fn tm=(do let vs <-fn.results.mapM (qi tm);pure (if h:vs.size=1 then vs[0] else .tuple vs)):=by
 unfold results
 congr 1
theorem C6{op:Oper}{a:Act}{t:Nat}{x:Operand}(ho:op.op=.load t x){val:Value}(h:(execOp a.eval op).run P w=.ok (.value val) w):(do loadVar t (<-asAddr (a.eval x)):Sem Value).run P w=.ok val w:=by
 have h1:(Instr.loadAt t (a.eval x)).run P w=.ok val w:=by
  simp only[execOp,ho,Sem.run_bind]at h
  generalize (Instr.loadAt t (a.eval x)).run P w=r at h ⊢
  cases r with
  | ok v w'=>simpa [Result.andThen] using h
  | halt e w'=>simp[Result.andThen]at h
 unfold Instr.loadAt at h1
 cases hv:a.eval x with
 | pointer p =>
  cases p with
  | none=>rw[hv]at h1;simp[Instr.sureAddr]at h1
  | some q=>rw[hv]at h1;simpa [Instr.sureAddr,asAddr] using h1
 | _=>rw[hv]at h1;simp[Instr.sureAddr]at h1
theorem te{T:Tab}(hT:bK P T){a:Act}(h:Sat cx M N env s a.tmps w):∀ {rv:List ResultVar} {xs:List SV},Ci T s rv=some xs->∃ vs,svms w M cx.R N env xs vs/\(rv.mapM (qi a.tmps)).run P w=.ok vs w
 | [],xs,hr=>by
  simp only[Ci,Option.some.injEq]at hr;subst hr
  exact⟨[],by simp[svms],by simp⟩
 | .tmp t::rv,xs,hr=>by
  simp only[Ci]at hr
  split at hr
  case h_2=>cases hr
  rename_i xs' hx
  simp only[Option.some.injEq]at hr;subst hr
  obtain⟨vs,h1,h3⟩:=te hT h hx
  refine⟨a.tmps.getD t undef::vs,?_,?_⟩
  ·rw[svms];exact⟨_,_,rfl,h.slots t,h1⟩
  ·simp only[List.mapM_cons,Sem.run_bind,qi,Sem.run_pure,Result.andThen_ok,h3]
 | .cell t ty::rv,xs,hr=>by
  simp only[Ci]at hr
  split at hr
  case h_2=>cases hr
  rename_i v xs' hq hx
  simp only[Option.some.injEq]at hr;subst hr
  obtain⟨vs,h1,h3⟩:=te hT h hx
  let op:Oper:={(default:Oper)with op:=.load ty (.tmp t)}
  have:=Av (eqn:=fun _=>none) (op:=op) hT h (x:=.tmp t) (t:=ty) rfl
  rw[hq]at this
  obtain⟨val,hrun,hv⟩:=this
  have hld:=C6 (op:=op) (x:=.tmp t) rfl (hrun w Alike.rfl')
  refine⟨val::vs,?_,?_⟩
  ·rw[svms];exact⟨_,_,rfl,hv,h1⟩
  ·have:(qi a.tmps (.cell t ty)).run P w=.ok val w:=hld
   simp only[List.mapM_cons,Sem.run_bind,this,Sem.run_pure,Result.andThen_ok,h3]
theorem u5{fn:Func}{vs:List Value}(h:(fn.results.toList.mapM (qi tm)).run P w=.ok vs w):(results fn tm).run P w=.ok (vP vs) w:=by
 rw[yR,Array.mapM_eq_mapM_toList]
 simp only[Sem.run_bind,Sem.run_map,h,Result.andThen_ok,Sem.run_pure]
 congr 1
 match vs with
 | []=>rfl
 | [v]=>rfl
 | v::u::r=>simp[vP]
theorem oO{M':Nat->Prop}(hM:∀ b,M b->M' b):∀ {rs:List Ret} {cs:List C} {vs:List Value} {X:List Nat},jJ w M rs cs vs X->jJ w M' rs cs vs X
 | [],_,_,_,h=>h
 | r::rs,cs,vs,X,h=>by
  obtain⟨c1,c2,v,vs',X1,X2,e1,e2,e3,h1,h2,h4⟩:=h
  refine⟨c1,c2,v,vs',X1,X2,e1,e2,e3,h1,?_,oO hM h4⟩
  unfold ij at h2 ⊢
  split at h2
  ·obtain⟨us,k1,k2⟩:=h2
   exact⟨us,shR.mono (fun b hb=>⟨hM b hb,rfl⟩) _ _ _ _ (fun _ _=>rfl) k1,k2⟩
  ·obtain⟨b,pre,us,post,arr,T,X',k1,k2,k3,k4,k5⟩:=h2
   exact⟨b,pre,us,post,arr,T,X',k1,k2,k3,shR.mono (fun b hb=>⟨hM b hb,rfl⟩) _ _ _ _ (fun _ _=>rfl) k4,k5⟩
theorem tg:∀(rs:List Ret) {M:Nat->Prop} {s s':St} {xs:List SV} {vs:List Value} {cs:List Cell} {Y:List Nat},Sat cx M N env s tm w->AS s rs xs=some (s',cs)->svms w M cx.R N env xs vs->oq cx M N s.hp Y->Y.Nodup ->
  ∃ M' X,Handed cx N env tm w M s Y M' s' X/\jJ w M' rs (aK env cs) vs X
 | [],M,s,s',xs,vs,cs,Y,h,hc,hx,hf,hn=>by
  cases xs with
  | cons=>simp[AS]at hc
  | nil =>
   simp only[AS,Option.some.injEq,Prod.mk.injEq]at hc
   obtain⟨rfl,rfl⟩:=hc
   rw[svms]at hx
   exact⟨M,[],Handed.refl h hf hn,rfl,hx,rfl⟩
 | r::rs,M,s,s',xs,vs,cs,Y,h,hc,hx,hf,hn=>by
  cases xs with
  | nil=>simp[AS]at hc
  | cons x xs =>
   rw[svms]at hx
   obtain⟨v,vs',rfl,hx1,hx2⟩:=hx
   simp only[AS]at hc
   split at hc
   ·rename_i hp
    split at hc
    case h_2=>cases hc
    rename_i ps hps
    split at hc
    case h_2=>cases hc
    rename_i s1 c1 hcon
    split at hc
    case h_2=>cases hc
    rename_i s2 ds hk hrest
    simp only[Option.some.injEq,Prod.mk.injEq]at hc
    obtain⟨rfl,rfl⟩:=hc
    obtain⟨us,g1,g2⟩:=dT hps hx1
    obtain⟨M1,X1,h1,h2⟩:=eg r.shs h hcon g1 hf hn
    have hx2':=svms.keep (w':=w) (M':=M1) (fun b hb=>⟨h1.sub b hb,rfl⟩) (fun _ _=>rfl) hx2
    obtain⟨M2,X2,h3,h4⟩:=tg rs h1.sat hrest hx2' h1.free h1.nodup
    refine⟨M2,X1++X2,h1.trans h3,?_⟩
    rw[bj]
    refine⟨_,_,v,vs',X1,X2,rfl,rfl,rfl,bp hk,?_,h4⟩
    unfold ij
    rw[hp]
    exact⟨us,shR.mono (fun b hb=>⟨h3.sub b hb,rfl⟩) _ _ _ _ (fun _ _=>rfl) h2,g2⟩
   ·rename_i hp
    split at hc
    case h_2=>cases hc
    rename_i k
    split at hc
    case h_2=>cases hc
    rename_i vsS hg
    split at hc
    case h_2=>cases hc
    rename_i s1 c1 hcon
    split at hc
    case h_2=>cases hc
    rename_i _ s2 ds hg1 hk hrest
    simp only[Option.some.injEq,Prod.mk.injEq]at hc
    obtain⟨rfl,rfl⟩:=hc
    obtain⟨b,arr,us,q1,q2,q3,q4,q5⟩:=h.objs k _ hg
    rw[svm]at hx1
    obtain⟨b2,e1,e2⟩:=hx1
    rw[q1]at e1
    simp only[Value.pointer.injEq,Option.some.injEq,Addr.mk.injEq,and_true]at e1
    subst e1
    obtain⟨M1,X1,h1,h2⟩:=eg r.shs h hcon q5 hf hn
    have h1':=h1.take hg1
    have hx2':=svms.keep (w':=w) (M':=M1) (fun b hb=>⟨h1.sub b hb,rfl⟩) (fun _ _=>rfl) hx2
    obtain⟨M2,X2,h3,h4⟩:=tg rs h1'.sat hrest hx2' h1'.free h1'.nodup
    refine⟨M2,((N k).φ++X1)++X2,h1'.trans h3,?_⟩
    rw[bj]
    refine⟨_,_,v,vs',(N k).φ++X1,X2,rfl,rfl,rfl,bp hk,?_,h4⟩
    unfold ij
    rw[hp]
    exact⟨b,_,us,_,arr,_,X1,by simpa using e2,q3,q4,shR.mono (fun b hb=>⟨h3.sub b hb,rfl⟩) _ _ _ _ (fun _ _=>rfl) h2,by rw[q2];rfl⟩
theorem KT(h:Sat cx M N env s tm w){x:SV}{v:Value}(hb:slB s x=true)(hx:svm w M cx.R N env x v):svm w M cx.R N env .blob v:=by
 have hsl:∃ A n c,v=.slice A n c:=by
  cases x<;>simp only[slB,Bool.false_eq_true]at hb<;>rw[svm]at hx
  case sl k=>rw[hx];exact Sat.slVal (a:=⟨tm,[]⟩) h hb
  case view t l=>rw[repC]at hx;obtain⟨A,c,e,_⟩:=hx;exact⟨_,_,_,e⟩
  case nil=>exact⟨_,_,_,hx⟩
 obtain⟨A,n,c,rfl⟩:=hsl
 rw[svm]
 exact⟨rfl,rfl⟩
theorem wq(h:Sat cx M N env s tm w):∀(ks:List CK) {xs:List SV} {vs:List Value},svms w M cx.R N env xs vs->svms w M cx.R N env (uA s ks xs) vs
 | [],xs,vs,hx=>by cases xs<;>exact hx
 | k::ks,[],vs,hx=>by cases k<;>exact hx
 | k::ks,x::xs,vs,hx=>by
  rw[svms]at hx
  obtain⟨v,vs',rfl,h1,h2⟩:=hx
  have ih:=wq h ks h2
  cases k
  case hole =>
   simp only[uA];rw[svms]
   refine⟨v,vs',rfl,?_,ih⟩
   split
   ·rename_i hb;exact KT h hb h1
   ·exact h1
  all_goals
   simp only[uA];rw[svms]
   exact⟨v,vs',rfl,h1,ih⟩
theorem wu(h:Sat cx M N env s tm w):∀(rs:List Ret) {xs:List SV} {vs:List Value},svms w M cx.R N env xs vs->svms w M cx.R N env (uB s rs xs) vs
 | [],xs,vs,hx=>by cases xs<;>exact hx
 | r::rs,[],vs,hx=>hx
 | r::rs,x::xs,vs,hx=>by
  rw[svms]at hx
  obtain⟨v,vs',rfl,h1,h2⟩:=hx
  have ih:=wu h rs h2
  cases x
  case agg us =>
   simp only[uB];rw[svms]
   refine⟨v,vs',rfl,?_,ih⟩
   rw[svm]at h1 ⊢
   obtain⟨cs,e,h3⟩:=h1
   exact⟨cs,e,wq h r.ks h3⟩
  all_goals
   simp only[uB];rw[svms]
   exact⟨v,vs',rfl,h1,ih⟩
theorem EntOk.keep{w0:World}{M':Nat->Prop}{R:Nat->Prop}(hM:∀ b,M b->M' b){p:Par}{e:Ent}{v:Value}(h:EntOk w0 w M R N env p e v):EntOk w0 w M' R N env p e v:=by
 cases p with
 | own a shs ks back =>
  cases back with
  | false=>cases e<;>trivial
  | true =>
   cases e with
   | own svs =>
    obtain⟨us,h1,h2⟩:=h
    exact⟨us,h1,svms.keep (fun b hb=>⟨hM b hb,rfl⟩) (fun _ _=>rfl) h2⟩
   | no=>exact h.elim
   | ptr k=>exact h.elim
 | ptr shs ks=>cases e<;>exact h
 | ro a ks=>cases e<;>trivial
 | rptr ks=>cases e<;>trivial
 | fn f kss=>cases e<;>trivial
theorem EntOks.keep{w0:World}{M':Nat->Prop}{R:Nat->Prop}(hM:∀ b,M b->M' b):∀ {ps:List Par} {es:List Ent} {vs:List Value},EntOks w0 w M R N env ps es vs->EntOks w0 w M' R N env ps es vs
 | [],_,_,h=>h
 | p::ps,es,vs,h=>by
  obtain⟨e,es',v,vs',e1,e2,h1,h2⟩:=h
  exact⟨e,es',v,vs',e1,e2,h1.keep hM,EntOks.keep hM h2⟩
theorem oP{w0:World}:∀(ps:List Par) {M:Nat->Prop} {s s':St} {es:List Ent} {vs:List Value} {cs:List Cell} {Y:List Nat},Sat cx M N env s tm w->rY s ps es=some (s',cs)->EntOks w0 w M cx.R N env ps es vs->oq cx M N s.hp Y->Y.Nodup ->
  ∃ M' X,Handed cx N env tm w M s Y M' s' X/\jg w0 w M' ps vs (aK env cs) X
 | [],M,s,s',es,vs,cs,Y,h,hc,hx,hf,hn=>by
  obtain⟨rfl,rfl⟩:=hx
  simp only[rY,Option.some.injEq,Prod.mk.injEq]at hc
  obtain⟨rfl,rfl⟩:=hc
  exact⟨M,[],Handed.refl h hf hn,rfl,rfl,rfl⟩
 | p::ps,M,s,s',es,vs,cs,Y,h,hc,hx,hf,hn=>by
  obtain⟨e,es',v,vs',rfl,rfl,hx1,hx2⟩:=hx
  have skip:rY s ps es'=some (s',cs)->(∀ M':Nat->Prop,ET w0 w M' p v [] [])->∃ M' X,Handed cx N env tm w M s Y M' s' X/\jg w0 w M' (p::ps) (v::vs') (aK env cs) X:=by
   intro hc' hb
   obtain⟨M1,X1,h1,h2⟩:=oP ps h hc' hx2 hf hn
   exact⟨M1,X1,h1,v,vs',[],_,[],X1,rfl,rfl,rfl,hb M1,h2⟩
  cases p with
  | own a shs ks back =>
   cases back with
   | false =>
    refine skip ?_ fun _=>⟨rfl,rfl⟩
    cases e<;>exact hc
   | true =>
    cases e with
    | no=>exact hx1.elim
    | ptr k=>exact hx1.elim
    | own svs =>
     simp only[rY]at hc
     split at hc
     case h_2=>cases hc
     rename_i s1 c1 hcon
     split at hc
     case h_2=>cases hc
     rename_i s2 ds hk hrest
     simp only[Option.some.injEq,Prod.mk.injEq]at hc
     obtain⟨rfl,rfl⟩:=hc
     obtain⟨us,g1,g2⟩:=hx1
     obtain⟨M1,X1,h1,h2⟩:=eg shs h hcon g2 hf hn
     obtain⟨M2,X2,h3,h4⟩:=oP ps h1.sat hrest (hx2.keep h1.sub) h1.free h1.nodup
     refine⟨M2,X1++X2,h1.trans h3,?_⟩
     rw[bj]
     exact⟨v,vs',_,_,X1,X2,rfl,rfl,rfl,⟨bp hk,us,g1,shR.mono (fun b hb=>⟨h3.sub b hb,rfl⟩) _ _ _ _ (fun _ _=>rfl) h2⟩,h4⟩
  | ptr shs ks =>
   cases e with
   | no=>exact hx1.elim
   | own svs=>exact hx1.elim
   | ptr k =>
    simp only[rY]at hc
    split at hc
    case h_2=>cases hc
    rename_i vsS hg
    split at hc
    case h_2=>cases hc
    rename_i s1 c1 hcon
    split at hc
    case h_2=>cases hc
    rename_i _ s2 ds hg1 hk hrest
    simp only[Option.some.injEq,Prod.mk.injEq]at hc
    obtain⟨rfl,rfl⟩:=hc
    obtain⟨b,arr',us',q1,q2,q3,q4,q5⟩:=h.objs k _ hg
    obtain⟨e1,b0,arr,us,e2,e3,e4,e5⟩:=hx1
    obtain⟨M1,X1,h1,h2⟩:=eg shs h hcon q5 hf hn
    have h1':=h1.take hg1
    obtain⟨M2,X2,h3,h4⟩:=oP ps h1'.sat hrest (hx2.keep h1.sub) h1'.free h1'.nodup
    refine⟨M2,((N k).φ++X1)++X2,h1'.trans h3,?_⟩
    rw[bj]
    have hb:b0=b:=by
     rw[e1,e2]at q1
     simp only[Value.pointer.injEq,Option.some.injEq,Addr.mk.injEq,and_true]at q1
     exact q1
    subst hb
    refine⟨v,vs',_,_,(N k).φ++X1,X2,rfl,rfl,rfl,⟨bp hk,b0,_,us,us',_,arr,arr',_,X1,e2,e3,e4,e5,q3,q4,shR.mono (fun b hb=>⟨h3.sub b hb,rfl⟩) _ _ _ _ (fun _ _=>rfl) h2,by rw[q2];rfl⟩,h4⟩
  | ro a ks=>exact skip (by cases e<;>exact hc) fun _=>⟨rfl,rfl⟩
  | rptr ks=>exact skip (by cases e<;>exact hc) fun _=>⟨rfl,rfl⟩
  | fn f kss=>exact skip (by cases e<;>exact hc) fun _=>⟨rfl,rfl⟩
theorem uC:∀(xs:List SV) (n:Nat),pad xs n=xs++List.replicate (n-xs.length) .any
 | [],0=>rfl
 | [],n+1=>by
  simp only[pad,uC [] n]
  simp[List.replicate_succ]
 | x::xs,0=>by simp[pad]
 | x::xs,n+1=>by simp[pad,uC xs n]
theorem AT{w0 w':World}{M' R:Nat->Prop}{N':Nm}{env0 env':List C}{pk:List Nat}{nv:Nat}(hM:∀ b,M b->M' b/\w'.heap[b]?=w.heap[b]?)(hR:∀ b,R b->w'.heap[b]?=w.heap[b]?)(hN:∀ k∈pk,KI.same (N' k) (N k))(hV:∀ i,i<nv->aa env' i=aa env0 i) :
  ∀ {ps:List Par} {es:List Ent} {vs:List Value},yQ pk nv es=true->EntOks w0 w M R N env0 ps es vs->EntOks w0 w' M' R N' env' ps es vs
 | [],_,_,_,h=>h
 | p::ps,es,vs,he,h=>by
  obtain⟨e,es',v,vs',rfl,rfl,h1,h2⟩:=h
  have rest:yQ pk nv es'=true:=by
   cases e<;>simp only[yQ,Bool.and_eq_true]at he<;>first|exact he|exact he.2
  refine⟨e,es',v,vs',rfl,rfl,?_,AT hM hR hN hV rest h2⟩
  cases p with
  | own a shs ks back =>
   cases back with
   | false=>cases e<;>trivial
   | true =>
    cases e with
    | own svs =>
     obtain⟨us,g1,g2⟩:=h1
     simp only[yQ,Bool.and_eq_true]at he
     exact⟨us,g1,svms.mono (K:=fun k=>qb k pk) (V:=fun i=>Nat.blt i nv) hM hR (fun k hk=>hN k (memN_iff.1 hk)) (fun i hi=>hV i (ap hi)) _ _ he.1 g2⟩
    | no=>exact h1.elim
    | ptr k=>exact h1.elim
  | ptr shs ks =>
   cases e with
   | ptr k =>
    simp only[yQ,Bool.and_eq_true]at he
    obtain⟨a1,a2,a3,a4⟩:=hN k (memN_iff.1 he.1)
    obtain⟨g1,g2⟩:=h1
    refine⟨a1.trans g1,?_⟩
    rw[a2,a3,a4];exact g2
   | no=>exact h1.elim
   | own svs=>exact h1.elim
  | ro a ks=>cases e<;>trivial
  | rptr ks=>cases e<;>trivial
  | fn f kss=>cases e<;>trivial
theorem fn_ok{G:Env}(hG:EnvOk P G Φ){f:FuncId}{fn:Func}{body:Code}{c:Con}{H:How}{t:Tree}(hf:P.funcs[f]?=some fn)(hb:fn.body=some body)(hn:(fn.name== "runtime.NumGoroutine")=false)(ht:fnT G H c fn body=t) :
  Has P f c (fun cs=>aj (den Φ t cs)):=by
 refine⟨BF hf hn (by rw[hb];rfl),?_⟩
 intro w M cs vs X hM hpar hnd hX rs hrs
 subst ht
 have hden:den Φ (fnT G H c fn body) cs=some (.ret rs):=by
  have hrs:aj (den Φ (fnT G H c fn body) cs)=some rs:=hrs
  unfold aj at hrs
  split at hrs
  ·rename_i e;simp only[Option.some.injEq]at hrs;rw[e,hrs]
  ·cases hrs
 let R:Nat->Prop:=fun b=>b<w.heap.size/\b∉X
 obtain⟨N0,i1,i2,i3,i4⟩:=AR (R:=R) (Z:=fun b=>b<w.heap.size/\b∉X) (fun b hb=>hb) (env0:=[]) [] (nx:=0) (N:=fun _=>default) hpar hnd
 simp only[List.nil_append,List.append_nil,List.length_nil,Nat.zero_add]at i1 i2 i3 i4
 unfold fnT at hden
 generalize qh 0 0 c.args=q at i1 i2 i3 i4 hden
 obtain⟨xs,objs,nx,nv,es⟩:=q
 dsimp only at i1 i2 i3 i4 hden
 unfold fnGo at hden
 split at hden
 case h_2=>cases hden
 rename_i hchk
 simp only[Bool.and_eq_true,List.all_eq_true]at hchk
 obtain⟨hent,hpkx⟩:=hchk
 generalize lf es=pk at hden hent hpkx
 let cx:Ctx:={w0:=w,R:=R,M0:=M,pin:=pk.map fun k=>(k,N0 k),E0:=cs}
 let tm:Array Value:=vs.toArray++Array.replicate (fn.ntmps-vs.toArray.size) undef
 have hlen:=bb i2
 have hsl:∀ k,svm w M R N0 cs (cr (pad xs fn.ntmps) k) (tm.getD k undef):=by
  intro k
  rw[uC,ef,List.getElem?_append]
  split
  ·rename_i hk
   obtain⟨v,hv1,hv2⟩:=ee i2 (List.getElem?_eq_getElem hk)
   rw[List.getElem?_eq_getElem hk]
   have hk2:k<vs.length:=by omega
   have:tm.getD k undef=v:=by
    rw[List.getElem?_eq_getElem hk2]at hv1
    simp only[Option.some.injEq]at hv1
    have hk3:k<tm.size:=by simp[tm];omega
    rw[Array.getD,dif_pos hk3]
    show tm[k]=v
    rw[<-hv1]
    simp only[tm]
    rw[Array.getElem_append_left (by simpa using hk2)]
    simp
   rw[this];exact hv2
  ·rw[List.getElem?_replicate]
   split<;>exact i7 _
 have hfree:∀ b∈X,¬ M b/\¬ R b:=fun b hb=>⟨fun hm=>(hM b hm).2 hb,fun hr=>hr.2 hb⟩
 have s1:Sat cx M N0 cs ⟨pad xs fn.ntmps,objs,nx,nv,pk⟩ tm w :=
  {os:=rfl,tape:=rfl,output:=rfl,size:=Nat.le_refl _,frame:=fun _ _=>rfl,rlt:=fun b hb=>hb.1,mlt:=fun b hb=>(hM b hb).1,mto:=fun _ hb=>hb,mfrom:=fun _ hb=>.inl hb,
   pin:=fun p hp=>by
    simp only[cx,List.mem_map]at hp
    obtain⟨k,hk,rfl⟩:=hp
    exact⟨hk,KI.same.rfl' _⟩
   pre:=⟨[],(List.append_nil _).symm⟩
   nv:=i3
   slen:=by rw[uC];simp[tm];omega
   slots:=hsl
   objs:=fun k o hg=>(i1.news.obj k o hg).1
   blt:=fun k o b hg hb=>hX b ((i1.news.obj k o hg).2.2 b hb)
   nodup:=fun k o hg=>(i1.news.obj k o hg).2.1
   apart:=fun k o b hg hb=>hfree b ((i1.news.obj k o hg).2.2 b hb)
   dist:=i1.news.dist}
 have hwp:=FV hG body none _ _ _ _ _ cx M N0 cs {tmps:=tm,defers:=[]} w hden s1 rfl
 have notR:∀ b,¬ R b->w.heap.size<=b\/b∈X:=fun b hb=>by
  by_cases h1:b<w.heap.size
  ·exact .inr (Classical.byContradiction fun h2=>hb ⟨h1,h2⟩)
  ·exact .inl (by omega)
 have fin:∀ a' w',Now Φ (outT G.T c es fn.results.toList) (.ret rs) cx a' w'->a'.defers=[]/\∃ v,(results fn a'.tmps).run P w'=.ok v w'/\(∃(M':Nat->Prop) (rvs:List Value) (r1 r2:List C) (X1 X2:List Nat),Ending.returned v=.returned (vP rvs)/\rs=r1++r2/\w'.os=w.os/\w'.tape=w.tape/\w'.output=w.output/\w.heap.size<=w'.heap.size ∧
   (∀ b,b<w.heap.size->b∉X->w'.heap[b]?=w.heap[b]?)/\(∀ b,M b->M' b)/\(∀ b,M' b->b<w'.heap.size/\(M b\/w.heap.size<=b\/b∈X)) ∧
   jJ w' M' c.res r1 rvs X1/\jg w w' M' c.args vs r2 X2/\(X1++X2).Nodup/\(∀ b∈X1++X2,¬ M' b/\b<w'.heap.size/\(w.heap.size<=b\/b∈X))):=by
  rintro a' w' ⟨s',env',M',N',ho,hs,hd⟩
  refine⟨hd,?_⟩
  obtain⟨s2,env2,M2,N2,g1,g2⟩:=oF _ ho hs
  have g1:den Φ (E1 G.T c es fn.results.toList s2) env2=some (.ret rs):=g1
  unfold E1 at g1
  split at g1
  case h_2=>cases g1
  rename_i ys hys
  split at g1
  case h_2=>cases g1
  rename_i s3 c1 hR1
  split at g1
  case h_2=>cases g1
  rename_i s4 c2 hB1
  rw[den]at g1
  simp only[Option.some.injEq,Out.ret.injEq]at g1
  obtain⟨rvs,r1,r2⟩:=te hG.tab g2 hys
  obtain⟨M3,X1,h1,h2⟩:=tg (Y:=[]) c.res g2 hR1 (wu g2 c.res r1) (fun b hb=>by simp at hb) (by simp)
  have hpin:∀ k∈pk,KI.same (N2 k) (N0 k):=fun k hk=>(g2.pin (k,N0 k) (by simp only[cx,List.mem_map];exact⟨k,hk,rfl⟩)).2
  have hME:∀ b,M b->M2 b/\w'.heap[b]?=w.heap[b]?:=fun b hb=>⟨g2.mto b hb,g2.frame b ⟨(hM b hb).1,(hM b hb).2⟩⟩
  have hE2:∀ i,i<nv->aa env2 i=aa cs i:=by
   obtain⟨ds,e⟩:=g2.pre
   intro i hi
   rw[e]
   exact cp (by rw[i3]at hi;exact hi)
  have hents:=AT (w':=w') (M':=M2) (R:=R) (N':=N2) (env':=env2) hME (fun b hb=>g2.frame b hb) hpin hE2 hent i4
  obtain⟨M4,X2,h3,h4⟩:=oP (w0:=w) c.args h1.sat hB1 (hents.keep h1.sub) h1.free h1.nodup
  have hh:=h1.trans h3
  have hfr:=hh.free
  have hnd2:=hh.nodup
  simp only[List.append_nil]at hfr hnd2
  refine⟨vP rvs,u5 r2,M4,rvs,aK env2 c1,aK env2 c2,X1,X2,rfl,by rw[<-g1,bj],g2.os,g2.tape,g2.output,g2.size,fun b k1 k2=>g2.frame b ⟨k1,k2⟩,?_,?_,oO h3.sub h2,h4,hnd2,?_⟩
  ·exact fun b hb=>hh.sub b (g2.mto b hb)
  ·intro b hb
   exact⟨h3.sat.mlt b hb,(h3.sat.mfrom b hb).elim .inl (fun h=>.inr (notR b h))⟩
  ·intro b hb
   exact⟨(hfr b hb).1,hh.lt b hb,notR b (hfr b hb).2.1⟩
 refine calls_of_wp hf hb (wp_mono hwp ?_)
 intro e a' w' hq
 cases e with
 | normal =>
  obtain⟨h1,v,h2,h3⟩:=fin a' w' hq
  exact⟨h1,v,h2,h3⟩
 | ret =>
  obtain⟨h1,v,h2,h3⟩:=fin a' w' hq
  exact⟨h1,v,h2,h3⟩
 | exit id=>obtain⟨_,_,_,_,h,_⟩:=hq;cases h
 | goto l=>exact hq.elim
 | panic c=>exact hq.elim
 | outgrown=>exact hq.elim
end
end Dx
namespace Dx
open Go
def yS:List (Nat×TI)->Nat->Option TI
 | [],_=>none
 | (k,i)::r,t=>match Nat.beq t k with
  | true=>some i
  | false=>yS r t
def E2(x:SV)(v:Value):Bool :=
 match x,v with
 | .int k (.n n),.int k' n'=>decide (k=k') && decide (n=n')
 | .bool (.b b),.bool b'=>b==b'
 | .str (.s s),.string s'=>decide (s=s')
 | .nil,.slice none 0 0=>true
 | .nilptr,.pointer none=>true
 | .any,.map none=>true
 | _,_=>false
theorem C7{x:SV}{v:Value}(h:E2 x v=true):x=bu v:=by
 unfold E2 at h
 split at h
 ·simp only[Bool.and_eq_true,decide_eq_true_eq]at h;rw[h.1,h.2];rfl
 ·have:=eq_of_beq h;subst this;rfl
 ·have:=of_decide_eq_true h;subst this;rfl
 ·rfl
 ·rfl
 ·rfl
 ·cases h
def mN:List SV->List Value->Bool
 | [],[]=>true
 | x::xs,v::vs=>E2 x v && mN xs vs
 | _,_=>false
theorem rZ:∀ {xs:List SV} {vs:List Value},mN xs vs=true->xs=vs.map bu
 | [],[],_=>rfl
 | [],_::_,h=>by simp[mN]at h
 | _::_,[],h=>by simp[mN]at h
 | x::xs,v::vs,h=>by
  simp only[mN,Bool.and_eq_true]at h
  rw[List.map_cons,C7 h.1,rZ h.2]
def mO(P:Program):List Field->List (Nat×Nat×Bool)->Bool
 | [],[]=>true
 | f::fs,x::xs=>(match P.info? f.type,P.underlying f.type with
  | some i,some d=>Nat.beq f.offset x.1 && Nat.beq i.size x.2.1 && Nat.blt 0 x.2.1 && (yw d==x.2.2)
  | _,_=>false) && mO P fs xs
 | _,_=>false
theorem lE{P:Program}:∀ {fs:List Field} {xs:List (Nat×Nat×Bool)},mO P fs xs=true->(∀ x∈xs,0<x.2.1)/\fs.map (fun f=>(f.offset,(P.info? f.type).map (·.size),(P.underlying f.type).map yw))=xs.map (fun x=>(x.1,some x.2.1,some x.2.2))
 | [],[],_=>⟨by simp,rfl⟩
 | [],_::_,h=>by simp[mO]at h
 | _::_,[],h=>by simp[mO]at h
 | f::fs,x::xs,h=>by
  simp only[mO,Bool.and_eq_true]at h
  obtain⟨h1,h2⟩:=h
  obtain⟨g1,g2⟩:=lE h2
  split at h1
  case h_2=>cases h1
  rename_i i d hi hd
  simp only[Bool.and_eq_true]at h1
  obtain⟨⟨⟨e1,e2⟩,e3⟩,e4⟩:=h1
  refine⟨fun y hy=>?_,?_⟩
  ·rcases List.mem_cons.1 hy with rfl|hy
   ·exact ap e3
   ·exact g1 y hy
  ·rw[List.map_cons,List.map_cons,g2,hi,hd]
   simp only[Option.map_some,br e1,br e2,eq_of_beq e4]
def tdB(P:Program):TD->TypeDesc->Bool
 | .int k,.int k'=>decide (k=k')
 | .bool,.bool=>true
 | .str,.string=>true
 | .slice e,.slice e'=>Nat.beq e e'
 | .arr n e,.array n' e'=>decide (n=n') && Nat.beq e e'
 | .map k e,.map k' e'=>Nat.beq k k' && Nat.beq e e'
 | .struct fs,.struct fields=>mO P fields.toList fs
 | .other,_=>true
 | .bld _,_=>true
 | _,_=>false
theorem KU{P:Program}{a:TD}{d:TypeDesc}(h:tdB P a d=true):IG P a d:=by
 cases a<;>cases d<;>simp only[tdB,Bool.false_eq_true]at h<;>simp only[IG]
 case int.int=>exact congrArg _ (of_decide_eq_true h).symm
 case slice.slice=>exact congrArg _ (br h).symm
 case arr.array=>simp only[Bool.and_eq_true,decide_eq_true_eq]at h;rw[h.1,br h.2]
 case map.map=>simp only[Bool.and_eq_true]at h;rw[br h.1,br h.2]
 case struct.struct fs fields=>exact⟨(lE h).1,fields,rfl,(lE h).2⟩
def tiB(P:Program)(t:Nat)(i:TI):Bool :=
 match P.info? t,P.underlying t with
 | some inf,some d=>match inf.zero with
  | some z=>Nat.beq inf.size i.sz && Nat.beq inf.bytes i.bytes && (yw d==i.agg) && Nat.beq z.cells.size i.sz && mN i.zero z.cells.toList && tdB P i.d d
  | none=>false
 | _,_=>false
def tabB(P:Program)(l:List (Nat×TI)):Bool:=l.all fun p=>tiB P p.1 p.2
theorem FW{P:Program}{l:List (Nat×TI)}(h:tabB P l=true):bK P (yS l):=by
 have mem:∀ {l:List (Nat×TI)} {t i},yS l t=some i->(t,i)∈l:=by
  intro l t i hg
  induction l with
  | nil=>simp[yS]at hg
  | cons x r ih =>
   obtain⟨k,j⟩:=x
   simp only[yS]at hg
   split at hg
   ·rename_i e;simp only[Option.some.injEq]at hg;subst hg;have:=br e;subst this;exact List.mem_cons_self
   ·exact List.mem_cons_of_mem _ (ih hg)
 intro t i hg
 have:=List.all_eq_true.1 h _ (mem hg)
 unfold tiB at this
 split at this
 case h_2=>cases this
 rename_i inf d hi hd
 split at this
 case h_2=>cases this
 rename_i z hz
 simp only[Bool.and_eq_true]at this
 obtain⟨⟨⟨⟨⟨e1,e2⟩,e3⟩,e4⟩,e5⟩,e6⟩:=this
 exact⟨inf,d,z,hi,hd,br e1,br e2,eq_of_beq e3,hz,br e4,rZ e5,KU e6⟩
def AU:List (Nat×Nat)->Nat->Option Nat
 | [],_=>none
 | (k,i)::r,t=>match Nat.beq t k with
  | true=>some i
  | false=>AU r t
def IW(P:Program):Nat->List Field->Bool
 | _,[]=>true
 | i,f::fs=>(Nat.beq f.offset i && decide (f.name≠ "_")) && ((match P.underlying f.type with
  | some (.int _)=>true
  | _=>false) && IW P (i+1) fs)
def eqB1(P:Program)(t n:Nat):Bool:=match P.underlying t with
 | some (.struct fs)=>(Nat.beq fs.toList.length n && IW P 0 fs.toList) && (!P.stoodInHeld t && !P.eqGuardType P.depth t)
 | _=>false
def eqB(P:Program)(l:List (Nat×Nat)):Bool:=l.all fun p=>eqB1 P p.1 p.2
theorem mb{P:Program}{w:World}{xs ys:List (IntKind×Int)}(hk:xs.map (·.1)=ys.map (·.1)):∀(fs:List Field) (i:Nat),IW P i fs=true->i+fs.length=xs.length ->
  (Op.eqFields 9999 (xs.map fun p=>Value.int p.1 p.2).toArray (ys.map fun p=>Value.int p.1 p.2).toArray fs).run P w=.ok ((xs.drop i).map (·.2)==(ys.drop i).map (·.2)) w
 | [],i,_,hl=>by
  have hly:ys.length=xs.length:=by have:=congrArg List.length hk;simpa using this.symm
  simp only[List.length_nil,Nat.add_zero]at hl
  rw[List.drop_of_length_le (by omega),List.drop_of_length_le (by omega)]
  simp[Op.eqFields]
 | f::fs,i,h,hl=>by
  have hly:ys.length=xs.length:=by have:=congrArg List.length hk;simpa using this.symm
  simp only[IW,Bool.and_eq_true,decide_eq_true_eq]at h
  obtain⟨⟨h1,h2⟩,h3,h4⟩:=h
  have h1:=br h1
  simp only[List.length_cons]at hl
  have hix:i<xs.length:=by omega
  have hiy:i<ys.length:=by omega
  have ih:=mb (w:=w) hk fs (i+1) h4 (by omega)
  split at h3
  case h_2=>cases h3
  rename_i k hu
  have pt:∀(zs:List (IntKind×Int)) (hz:i<zs.length),(part f.type (zs.map fun p=>Value.int p.1 p.2).toArray f.offset).run P w=.ok (.int zs[i].1 zs[i].2) w:=by
   intro zs hz
   have:(zs.map fun p=>Value.int p.1 p.2).toArray[f.offset]?=some (.int zs[i].1 zs[i].2):=by
    rw[h1];simp[hz]
   simp[part,isAgg,run_underlying hu,this]
  have hkk:xs[i].1=ys[i].1:=by
   have:=congrArg (fun l=>l[i]?) hk
   simpa [hix,hiy] using this
  simp only[Op.eqFields,if_pos h2,Sem.run_bind,pt xs hix,pt ys hiy,Result.andThen_ok]
  rw[hkk,run_equalIn_int (P:=P) w 9998 f.type _ k xs[i].2 ys[i].2 hu]
  simp only[Result.andThen_ok]
  rw[List.drop_eq_getElem_cons hix,List.drop_eq_getElem_cons hiy]
  simp only[List.map_cons]
  by_cases e:xs[i].2=ys[i].2
  ·have eb:(xs[i].2==ys[i].2)=true:=by simpa using e
   rw[eb]
   simp only[Bool.not_true,Bool.false_eq_true,if_false,ih]
   rw[e]
   simp
  ·have eb:(xs[i].2==ys[i].2)=false:=by simpa using e
   rw[eb]
   have:(xs[i].2::(xs.drop (i+1)).map (·.2)==ys[i].2::(ys.drop (i+1)).map (·.2))=false:=by
    rw[List.cons_beq_cons,eb];rfl
   rw[this]
   simp
theorem KV{P:Program}{l:List (Nat×Nat)}(h:eqB P l=true):Cd P (AU l):=by
 have mem:∀ {l:List (Nat×Nat)} {t i},AU l t=some i->(t,i)∈l:=by
  intro l t i hg
  induction l with
  | nil=>simp[AU]at hg
  | cons x r ih =>
   obtain⟨k,j⟩:=x
   simp only[AU]at hg
   split at hg
   ·rename_i e;simp only[Option.some.injEq]at hg;subst hg;have:=br e;subst this;exact List.mem_cons_self
   ·exact List.mem_cons_of_mem _ (ih hg)
 intro t n hg op xs ys x y w hop hl hk
 have h1:=List.all_eq_true.1 h _ (mem hg)
 unfold eqB1 at h1
 split at h1
 case h_2=>cases h1
 rename_i fs hu
 simp only[Bool.and_eq_true,Bool.not_eq_true']at h1
 obtain⟨⟨e1,e2⟩,e3,e4⟩:=h1
 have e1:=br e1
 have hfo:P.fieldsOf t=fs:=by unfold Program.fieldsOf;rw[hu]
 have hin:=run_equalIn_struct (P:=P) w 9999 t (xs.map fun p=>Value.int p.1 p.2).toArray (ys.map fun p=>Value.int p.1 p.2).toArray (by rw[hfo];exact hu) e3
 rw[hfo,mb hk fs.toList 0 e2 (by omega)]at hin
 simp only[Sem.run_bind,run_eqGuard_agg w op t x y _ _ e4,Result.andThen_ok]
 rcases hop with rfl|rfl
 ·rw[run_eql_struct,hin];simp
 ·rw[run_neq_struct,hin];simp
def EE:List (Nat×Nat×Con)->Nat->List (Nat×Con)
 | [],_=>[]
 | (f',c)::r,f=>match Nat.beq f f' with
  | true=>c::EE r f
  | false=>EE r f
theorem tj{P:Program}{Φ:Phi}:∀ {l:List (Nat×Nat×Con)},(∀ p∈l,Has P p.1 p.2.2 (Φ p.2.1))->∀ f c,c∈EE l f->Has P f c.2 (Φ c.1)
 | [],_,f,c,h=>by simp[EE]at h
 | (k,c')::r,hl,f,c,h=>by
  simp only[EE]at h
  split at h
  ·rename_i e
   have:=br e;subst this
   rcases List.mem_cons.1 h with rfl|h
   ·exact hl (f,c) List.mem_cons_self
   ·exact tj (fun p hp=>hl p (List.mem_cons_of_mem _ hp)) f c h
  ·exact tj (fun p hp=>hl p (List.mem_cons_of_mem _ hp)) f c h
def getR:List (Nat×List Sh)->Nat->Option (List Sh)
 | [],_=>none
 | (k,i)::r,t=>match Nat.beq t k with
  | true=>some i
  | false=>getR r t
def aB:List (Nat×Head)->Nat->Option Head
 | [],_=>none
 | (k,i)::r,t=>match Nat.beq t k with
  | true=>some i
  | false=>aB r t
def FX:List (Nat×Bool×Nat×Nat)->Nat->Option (Bool×Nat×Nat)
 | [],_=>none
 | (k,i)::r,t=>match Nat.beq t k with
  | true=>some i
  | false=>FX r t
theorem AV{P:Program}:∀ {l:List (Nat×Bool×Nat×Nat)},(∀ p∈l,yH P p.1 p.2)->∀ f q,FX l f=some q->yH P f q
 | [],_,f,q,h=>by cases h
 | (k,i)::r,hl,f,q,h=>by
  simp only[FX]at h
  split at h
  ·rename_i e
   have:=br e;subst this
   simp only[Option.some.injEq]at h;subst h
   exact hl _ List.mem_cons_self
  ·exact AV (fun p hp=>hl p (List.mem_cons_of_mem _ hp)) f q h
end Dx
namespace Dx
open Go
noncomputable def mir(Φ:Phi)(t:Tree)(cs:List C):Option (List C):=aj (den Φ t cs)
def ph:List (List C->Option (List C))->Nat->List C->Option (List C)
 | [],_=>fun _=>none
 | f::_,0=>f
 | _::l,n+1=>ph l n
def z8(P:Program)(Φ:Phi):List (Nat×Nat×Con)->Prop
 | []=>True
 | x::r=>Has P x.1 x.2.2 (Φ x.2.1)/\z8 P Φ r
theorem oQ{P:Program}{Φ:Phi}:∀ {l:List (Nat×Nat×Con)},z8 P Φ l->∀ p∈l,Has P p.1 p.2.2 (Φ p.2.1)
 | _::_,h,p,hp=>by
  rcases List.mem_cons.1 hp with rfl|hp
  ·exact h.1
  ·exact oQ h.2 p hp
def qV:List C->Option (List C)
 | [.list l,.int .i64 i,.int .i64 j]=>match decide (0<=i) && (decide (i<j) && decide (j<=l.length))with
  | true=>some [.list (l.take i.toNat++l.drop j.toNat)]
  | false=>none
 | _=>none
theorem mC{Φ:Phi}{t:Tree}{code:List (List C)}(h:1048576<code.length):aj (den Φ (.letp .len [⟨.list,.v 0⟩]<|.letp .gtI [⟨.int .i64,.v 1⟩,⟨.int .i64,.n 1048576⟩]<|.ite (.v 2) (.ret [⟨.bool,.b true⟩]) t) [.list code])=some [.bool true]:=by
 have e:((code.length:Nat):Int)>1048576:=by omega
 rw[den,den,den]
 simp only[aK,Cell.den,At.den,Prim.den,List.cons_append,List.nil_append,aa,C.toInt_int,C.toList_list,C.toBool_bool,e,decide_true,ae]
 rw[den];rfl
theorem E3{Φ:Phi}{t:Tree}{code more:List (List C)}(h:1048576<code.length):aj (den Φ (.letp .len [⟨.list,.v 0⟩]<|.letp .gtI [⟨.int .i64,.v 2⟩,⟨.int .i64,.n 1048576⟩]<|.ite (.v 3) (.ret [⟨.bool,.b true⟩]) t) [.list code,.list more])=some [.bool true]:=by
 have e:((code.length:Nat):Int)>1048576:=by omega
 rw[den,den,den]
 simp only[aK,Cell.den,At.den,Prim.den,List.cons_append,List.nil_append,aa,C.toInt_int,C.toList_list,C.toBool_bool,e,decide_true,ae]
 rw[den];rfl
end Dx
