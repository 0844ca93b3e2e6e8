import Derived.Test.YtahfbeiobndhkaaGreatXd
import Derived.Deep.LoopGhost
import Derived.Deep.RegionLaw
import Derived.Lib.SliceRun
import Derived.Lib.Walk
import Derived.Shelf.RegionOpenPlain
import Derived.Shelf.SlBodiesN
import Derived.Shelf.SlGeneric
import Derived.Sort.WalkB12
import Derived.WalkKit
set_option linter.all false
namespace Dx
open Go Go.Proofs Go.Shelf Go.RowKit Go.Lib Go.Sort
theorem mX{P:Program}(w:World)(t e ty:TypeId)(z:Value)(ht:P.underlying t=some (.slice e))(hv:∀ w,(zeroValue e).run P w=.ok z w)(zs:List Value)(b o n c:Nat)(hn:0<n)(hzs:(Builtin.zeroCells z.cells n).toList=zs)(h1:∀ u∈zs,u.oneCell'=true)
  (hc:∀ j,j<zs.length->(w.cell? ⟨b,o+j,none⟩).isSome=true) (hf:∀ j,j<zs.length->w.frozen? ⟨b,o+j,none⟩=false) :
  (Builtin.clear_ #[t] ty #[.slice (some ⟨b,o,none⟩) n c]).run P w=.ok (.tuple #[]) (w.setCells b o zs):=by
 have hst:=run_storeCells_cells (P:=P) b o zs 0 w (by simpa using hc) (by simpa using hf) h1
 simp only[Nat.add_zero]at hst
 obtain⟨m,rfl⟩:∃ m,n=m+1:=⟨n-1,by omega⟩
 simp[Builtin.clear_,run_underlying ht,hv,hzs,hst]
structure DelAt (P:Program) (ρ:Ren):Prop where
 mixed:P.follows .mixedOrders=true
 f45:Bears P (ρ.f 45) (SlBodyN.n45 ρ)
 t3:P.underlying (ρ.t 3)=some (TypeDesc.int IntKind.i64)
 t4:P.underlying (ρ.t 4)=some (TypeDesc.bool)
 t22:P.underlying (ρ.t 22)=some (TypeDesc.slice (ρ.t 23))
 i23:(P.info? (ρ.t 23)).map (fun i=>(i.size,i.zero))=some (4,some (.agg #[.int .i64 0,.int .i64 0,.int .i64 0,.int .i64 0]))
theorem KW(n:Nat):∀ u∈(Builtin.zeroCells (Value.agg #[.int .i64 0,.int .i64 0,.int .i64 0,.int .i64 0]).cells n).toList,u.oneCell'=true:=by
 intro u hu
 simp only[Builtin.zeroCells,Value.cells,Array.toList_map,List.mem_map]at hu
 obtain⟨k,_,rfl⟩:=hu
 have:k % 4=0\/k % 4=1\/k % 4=2\/k % 4=3:=by omega
 show (#[Value.int .i64 0,.int .i64 0,.int .i64 0,.int .i64 0][k % 4]!).oneCell'=true
 rcases this with h|h|h|h<;>rw[h]<;>rfl
theorem yT(n:Nat):(Builtin.zeroCells (Value.agg #[.int .i64 0,.int .i64 0,.int .i64 0,.int .i64 0]).cells n).toList.length=n*4:=by
 simp[Builtin.zeroCells,Value.cells]
variable {P:Program} {ρ:Ren}
set_option maxHeartbeats 4000000 in
set_option maxRecDepth 1000000 in
theorem yU(L:DelAt P ρ){w:World}{g n cap i j:Nat}{cur:Array Value}{e:Nat}(hg:w.heap[g]?=some (.cells cur e (0,0)))(hsz:cur.size=cap*4)(hn:n<=cap)(hm:cap<=9223372036854775807)(hij:i<j)(hj:j<=n)
  (hone:∀ u∈cur.toList.take (n*4),u.oneCell'=true) :
  Calls P (ρ.f 45) #[.slice (some ⟨g,0,none⟩) n cap,.int .i64 i,.int .i64 j] w fun en w'=>en=.returned (.slice (some ⟨g,0,none⟩) (n-(j-i)) cap) ∧
   ∃ news zs,w'=(w.drew.setCells g (i*4) news).setCells g ((n-(j-i))*4) zs/\news=(cur.toList.take (n*4)).drop (j*4)/\zs.length=(j-i)*4:=by
 have mixed:=L.mixed;have t3:=L.t3;have t4:=L.t4;have t22:=L.t22
 obtain⟨i0,hi0,hz1,hzero⟩:∃ i0,P.info? (ρ.t 23)=some i0/\i0.size=4/\i0.zero=some (.agg #[.int .i64 0,.int .i64 0,.int .i64 0,.int .i64 0]):=by
  have h:=L.i23
  simp only[Option.map_eq_some_iff,Prod.mk.injEq]at h
  obtain⟨i0,h1,h2,h3⟩:=h
  exact⟨i0,h1,h2,h3⟩
 have z23:∀ w,(Go.sizeOf (ρ.t 23)).run P w=.ok 4 w:=fun w=>by simp[Go.sizeOf,typeInfo,hi0,hz1]
 have v23:∀ w,(zeroValue (ρ.t 23)).run P w=.ok (.agg #[.int .i64 0,.int .i64 0,.int .i64 0,.int .i64 0]) w:=fun w=>by simp[zeroValue,typeInfo,hi0,hzero]
 obtain⟨news,hnews⟩:∃ news,news=(cur.toList.take (n*4)).drop (j*4):=⟨_,rfl⟩
 have hcl:cur.toList.length=cap*4:=by simpa using hsz
 have hlen:news.length=(n-j)*4:=by rw[hnews,List.length_drop,List.length_take,hcl];omega
 have hcell:∀ k,w.drew.cell? ⟨g,k,none⟩=cur[k]?:=fun k=>sS (w:=w.drew) hg k
 have hfroz:∀ k,w.drew.frozen? ⟨g,k,none⟩=false:=fun k=>lx (w:=w.drew) hg k
 have hget:∀ t u,news[t]?=some u->cur[j*4+t]?=some u:=by
  intro t u hu
  rw[hnews,List.getElem?_drop,List.getElem?_take]at hu
  split at hu
  ·simpa using hu
  ·cases hu
 obtain⟨A,hA,hsrc⟩:∃ A:Addr,(if cap=j then some (⟨g,0,none⟩:Addr) else some ⟨g,j*4,none⟩)=some A/\Hid (∀ t u,news[t]?=some u->w.drew.cell? (A.add t)=some u):=by
  by_cases h:cap=j
  ·refine⟨⟨g,0,none⟩,by simp[h],fun t u hu=>?_⟩
   have h0:news.length=0:=by rw[hlen];omega
   rw[List.length_eq_zero_iff.1 h0]at hu
   simp at hu
  ·refine⟨⟨g,j*4,none⟩,by simp[h],fun t u hu=>?_⟩
   rw[Addr.add_lit,hcell]
   exact hget t u hu
 have s1:Hid (news.length=(n-j)*4):=hlen
 have s2:Hid (∀ u∈news,u.oneCell'=true):=by
  intro u hu
  rw[hnews]at hu
  exact hone u (List.mem_of_mem_drop hu)
 have s3:Hid (∀ t,t<news.length->(w.drew.cell? ⟨g,0+i*4+t,none⟩).isSome=true/\w.drew.frozen? ⟨g,0+i*4+t,none⟩=false):=by
  intro t ht
  rw[hlen]at ht
  refine⟨?_,hfroz _⟩
  rw[hcell]
  rw[Array.getElem?_eq_getElem (show 0+i*4+t<cur.size by omega)];rfl
 obtain⟨W1,hW1⟩:∃ W1,W1=w.drew.setCells g (0+i*4) news:=⟨_,rfl⟩
 obtain⟨c1,h1,h2⟩:=dS g news (0+i*4) w.drew cur e (0,0) hg (by omega)
 rw[<-hW1]at h1
 have hc1:c1.size=cap*4:=by
  have:=congrArg List.length h2
  simp[hlen,hcl]at this
  omega
 obtain⟨zs,hzs⟩:∃ zs,zs=(Builtin.zeroCells (Value.agg #[.int .i64 0,.int .i64 0,.int .i64 0,.int .i64 0]).cells (n-(i+(n-j)))).toList:=⟨_,rfl⟩
 have hzl:zs.length=(n-(i+(n-j)))*4:=by rw[hzs,yT]
 have hclr:∀ ty,(Builtin.clear_ #[ρ.t 22] ty #[.slice (some ⟨g,(i+(n-j))*4,none⟩) (n-(i+(n-j))) (cap-(i+(n-j)))]).run P W1=.ok (.tuple #[]) (W1.setCells g ((i+(n-j))*4) zs) :=
  fun ty=>mX W1 _ _ ty _ t22 v23 zs g ((i+(n-j))*4) _ _ (by omega) hzs.symm (by rw[hzs];exact KW _) (fun t ht=>by
   rw[sS h1]
   have:(i+(n-j))*4+t<c1.size:=by omega
   simp[this]) (fun t ht=>lx h1 _)
 have hW:Hid (W1=w.drew.setCells g (0+i*4) news):=hW1
 have hic:i<=cap:=by omega
 have hjc:j<=cap:=by omega
 have hfin:Hid (n-(j-i)=i+(n-j)):=by show _=_;omega
 have hzl':Hid (zs.length=(j-i)*4):=by show _=_;rw[hzl];congr 1;omega
 have hnews':Hid (news=(cur.toList.take (n*4)).drop (j*4)):=hnews
 clear hW1 h1 h2 hc1 hget hnews hlen hcell hfroz hcl hone hg hsz hzs hzl hzero
 obtain⟨_,_,FG⟩:=L.f45
 clear L
 go_enter FG,SlBodyN.n45_ntmps ρ
 go_wp2_with fail
 go_region_law_o (refine step_append_room rfl (.tmp 22) (.tmp 25) (ρ.t 22) rfl (ρ.t 23) i0 4 t22 hi0 hz1 g 0 i cap (by simp[Act.eval,Act.put]) A (n-j) (cap-j) news (by simp[Act.eval,Act.put]) s1.out hsrc.out s2.out (by omega) s3.out ?_;rw[<-hW.out])
 go_wp2
 go_ret
 refine⟨by rw[hfin.out];rfl,news,zs,?_,hnews'.out,hzl'.out⟩
 rw[hW.out,Nat.zero_add,hfin.out]
theorem sa{w:World}{M:Nat->Prop}{row:List Sh}(ha:bL row=true){n:Nat}:∀ {es:List (List C)} {vs:List Value} {X:List Nat},rowsP (shR w M row) n es vs X->X=[]
 | [],_,_,h=>h
 | r::rs,vs,X,h=>by
  obtain⟨X1,X2,rfl,h1,h2⟩:=h
  rw[bR ha h1,sa ha h2];rfl
theorem sb{w:World}{M:Nat->Prop}{row:List Sh}:∀ {es:List (List C)} {vs:List Value} {X:List Nat},rowsP (shR w M row) row.length es vs X->∀ u∈vs.take (es.length*row.length),u.oneCell'=true
 | [],_,_,_,u,hu=>by simp at hu
 | r::rs,vs,X,h,u,hu=>by
  obtain⟨X1,X2,rfl,h1,h2⟩:=h
  rw[List.length_cons,Nat.add_mul,Nat.one_mul,Nat.add_comm,List.take_add,List.mem_append]at hu
  rcases hu with hu|hu
  ·exact sN h1 u hu
  ·exact sb h2 u hu
def row4:List Sh:=[.val,.val,.val,.val]
def mP(e:Nat):Con:=⟨[.own false [.arr e row4] [.list] false,.ro false [.int .i64],.ro false [.int .i64]],[⟨false,[.arr e row4],[.list],false⟩]⟩
theorem EF{w:World}{M Z:Nat->Prop}{c:List C}{v:Value}{X:List Nat}(h:Ce w M Z (.ro false [.int .i64]) c v X):X=[]/\∃ i,c=[.int .i64 i]/\v=.int .i64 i:=by
 rw[Ce]at h
 obtain⟨h1,h2,us,h3,h4,h5⟩:=h
 refine⟨h1,?_⟩
 have h5:us=[v]:=h5
 subst h5
 match c,h2 with
 | [.int k i],h2 =>
  have hk:k=.i64:=by
   simp only[ak,fG]at h2
   split at h2
   ·rename_i hh;exact(cQ hh).symm
   ·cases h2
  subst hk
  rw[repRow]at h4
  obtain⟨v',vs',e1,e2,_⟩:=h4
  simp only[List.cons.injEq]at e1
  rw[repC]at e2
  exact⟨i,rfl,by rw[e1.1,e2]⟩
theorem yV(L:DelAt P ρ)(hsm:eH (ρ.t 23)=true):Has P (ρ.f 45) (mP (ρ.t 23)) qV:=by
 refine⟨L.f45.enters rfl,?_⟩
 intro w M cs vs X hM hp hnd hlt rs hφ
 simp only[mP,oD]at hp
 obtain⟨c1,c2,v,vs',X1,X2,rfl,rfl,rfl,hp1,c3,c4,v2,vs2,X3,X4,rfl,rfl,rfl,hp2,c5,c6,v3,vs3,X5,X6,rfl,rfl,rfl,hp3,rfl,rfl,rfl⟩:=hp
 obtain⟨rfl,i,rfl,rfl⟩:=EF hp2
 obtain⟨rfl,j,rfl,rfl⟩:=EF hp3
 rw[Ce]at hp1
 obtain⟨hk,us,hs,hv⟩:=hp1
 have hv:us=[v]:=hv
 subst hv
 rw[shR]at hs
 obtain⟨c,cs',v',vs',Y1,Y2,rfl,e1,rfl,hc,hn⟩:=hs
 rw[shR]at hn
 obtain⟨rfl,rfl,rfl⟩:=hn
 simp only[List.cons.injEq,and_true]at e1
 subst e1
 rw[shC]at hc
 obtain⟨es,vals,X',rfl,rfl,hown,hrows,_,hL⟩:=hc
 have hX':=sa rfl hrows
 subst hX'
 simp only[List.append_nil,List.cons_append,List.nil_append,qV]at hφ
 split at hφ
 case h_2=>cases hφ
 rename_i hc
 simp only[Bool.and_eq_true,decide_eq_true_eq]at hc
 obtain⟨h0,h1,h2⟩:=hc
 simp only[Option.some.injEq]at hφ
 subst hφ
 obtain⟨i,rfl⟩:∃ i':Nat,i=i':=⟨i.toNat,by omega⟩
 obtain⟨j,rfl⟩:∃ j':Nat,j=j':=⟨j.toNat,by omega⟩
 have hij:i<j:=by omega
 have hj:j<=es.length:=by omega
 have hown:=hown.own hsm
 rcases hown.2 with ⟨_,q⟩|⟨g,cap,cur,rfl,_,hg,hcn,hcm,hsz,htake⟩
 ·omega
 have hsz:cur.size=cap*4:=hsz
 have htake:cur.toList.take (es.length*4)=vals:=htake
 have hvl:vals.length=es.length*4:=hown.1
 have hone:∀ u∈cur.toList.take (es.length*4),u.oneCell'=true:=by
  rw[htake]
  intro u hu
  have hrep:=sb hrows u
  rw[show es.length*row4.length=vals.length from hvl.symm,List.take_length]at hrep
  exact hrep hu
 refine(yU L hg hsz hcn hcm hij hj hone).mono ?_
 rintro en w' ⟨rfl,news,zs,rfl,hnews,hzl⟩
 have hcl:cur.toList.length=cap*4:=by simpa using hsz
 have hnl:news.length=(es.length-j)*4:=by rw[hnews,List.length_drop,List.length_take,hcl];omega
 obtain⟨c1,g1,g2⟩:=dS g news (i*4) w.drew cur _ (0,0) hg (by omega)
 have hc1:c1.size=cap*4:=by
  have:=congrArg List.length g2
  simp[hnl,hcl]at this
  omega
 obtain⟨c2,g3,g4⟩:=dS g zs ((es.length-(j-i))*4) _ c1 _ (0,0) g1 (by omega)
 have hc2:c2.size=cap*4:=by
  have:=congrArg List.length g4
  simp[hzl,hc1]at this
  omega
 obtain⟨a1,a2,a3,a4,a5⟩:=dG g news (i*4) w.drew
 obtain⟨b1,b2,b3,b4,b5⟩:=dG g zs ((es.length-(j-i))*4) (w.drew.setCells g (i*4) news)
 have hoth:∀ b,b≠g->((w.drew.setCells g (i*4) news).setCells g ((es.length-(j-i))*4) zs).heap[b]?=w.heap[b]?:=fun b hb=>(b5 b hb).trans (a5 b hb)
 have hX:(blk (.slice (some ⟨g,0,none⟩) es.length cap)).toList=[g]:=rfl
 have hgX:∀ b,M b->b≠g:=fun b hb e=>(hM b hb).2 (by rw[e];simp[hX])
 have hcur:c2.toList.take ((es.length-(j-i))*4)=vals.take (i*4)++vals.drop (j*4):=by
  rw[g4,g2]
  have e1:(cur.toList.take (i*4)).length=i*4:=by rw[List.length_take,hcl];omega
  have e2:(es.length-(j-i))*4=i*4+news.length:=by rw[hnl];omega
  have e3:(cur.toList.take (i*4)++news).length=(es.length-(j-i))*4:=by rw[List.length_append,e1,e2]
  rw[List.append_assoc,List.take_append_of_le_length (by rw[List.length_take];simp[e1];omega),List.take_take,Nat.min_self]
  rw[List.take_append_of_le_length (by omega),<-e3,List.take_length,hnews,htake]
  congr 1
  rw[<-htake,List.take_take,Nat.min_eq_left (by omega)]
 have hall:es.length=(es.take i++es.drop j).length+(j-i):=by rw[List.length_append,List.length_take,List.length_drop];omega
 refine⟨M,[.slice (some ⟨g,0,none⟩) (es.length-(j-i)) cap],[.list (es.take i++es.drop j)],[],[g],[],rfl,by simp,b1.trans a1,b2.trans a2,b3.trans a3,by rw[b4,a4];exact Nat.le_refl _,?_,fun b hb=>hb,?_,?_,?_,by simp,?_⟩
 ·intro b hb hbX
  exact hoth b (fun e=>hbX (by rw[e];simp[hX]))
 ·intro b hb
  exact⟨by rw[b4,a4];exact(hM b hb).1,.inl hb⟩
 ·simp only[mP,jJ]
  refine⟨[.list (es.take i++es.drop j)],[],_,[],[g],[],by simp,rfl,by simp,rfl,?_,rfl,rfl,rfl⟩
  simp only[ij]
  refine⟨[_],?_,rfl⟩
  rw[shR]
  refine⟨_,[],_,[],[g],[],rfl,rfl,by simp,?_,by rw[shR];exact⟨rfl,rfl,rfl⟩⟩
  rw[shC]
  refine⟨_,vals.take (i*4)++vals.drop (j*4),[],rfl,rfl,.inl ⟨?_,.inr ⟨g,cap,c2,?_,Nat.zero_le _,g3,by omega,hcm,hc2,?_⟩⟩,?_,by decide,by omega⟩
  ·show _=(es.take i++es.drop j).length*4
   rw[List.length_append,List.length_take,List.length_drop,hvl,List.length_append,List.length_take,List.length_drop];omega
  ·congr 1;omega
  ·show c2.toList.take ((es.take i++es.drop j).length*4)=_
   rw[<-hcur];congr 2;omega
  ·have hmono:∀ {r us Y},shR w M row4 r us Y->shR ((w.drew.setCells g (i*4) news).setCells g ((es.length-(j-i))*4) zs) M row4 r us Y:=fun {r us Y} h=>by
    have:=bR (shs:=row4) rfl h
    subst this
    exact shR.mono (fun b hb=>⟨hb,hoth b (hgX b hb)⟩) _ _ _ _ (by simp) h
   have hlen:row4.length=4:=rfl
   have hr1:rowsP (shR w M row4) row4.length (es.take i++es.drop i) vals []:=by rw[List.take_append_drop];exact hrows
   obtain⟨Xa,Xb,e1,r1,r2⟩:=co hr1
   have hr2:rowsP (shR w M row4) row4.length (es.take j++es.drop j) vals []:=by rw[List.take_append_drop];exact hrows
   obtain⟨Xc,Xd,e2,r3,r4⟩:=co hr2
   have q1:Xa=[]:=by simp at e1;exact e1.1
   have q2:Xd=[]:=by simp at e2;exact e2.2
   subst q1;subst q2
   have l1:(es.take i).length=i:=by rw[List.length_take];omega
   have l2:(es.take j).length=j:=by rw[List.length_take];omega
   rw[l2,hlen]at r4
   have:=dn (vs:=vals.take (i*4)++vals.drop (j*4)) (X:=[]) (Y:=[]) (cH r1 (by
    rw[l1,hlen,List.take_append_of_le_length (by rw[List.length_take];omega),List.take_take,Nat.min_self])) (fs:=es.drop j) (by
    rw[l1,hlen,List.drop_append_of_le_length (by rw[List.length_take];omega),List.drop_take]
    simpa using r4)
   exact rowsP.mono (fun r us Y _ h=>hmono h) this
 ·simp only[mP,jg,ET]
  exact⟨_,_,[],[],[],[],rfl,rfl,rfl,⟨rfl,rfl⟩,_,_,[],[],[],[],rfl,rfl,rfl,⟨rfl,rfl⟩,_,_,[],[],[],[],rfl,rfl,rfl,⟨rfl,rfl⟩,rfl,rfl,rfl⟩
 ·intro b hb
  simp only[List.append_nil,List.mem_singleton]at hb
  subst hb
  refine⟨fun h=>hgX _ h rfl,by rw[b4,a4];exact hlt _ (by simp[hX]),.inr (by simp[hX])⟩
end Dx
