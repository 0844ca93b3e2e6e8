import Derived.Test.YtnbhinpnmgbbhaaGreatDoorXd
import Derived.Deep.LoopGhost
import Derived.Deep.RegionLaw
import Derived.Lib.AppendZerosOnto
import Derived.Lib.FrozenHead
import Derived.Lib.SliceRun
import Derived.Lib.SplitLaws
import Derived.Lib.Walk
import Derived.Shelf.Lays8
import Derived.Shelf.RegionOpenPlain
import Derived.Shelf.SlBodiesN
import Derived.Shelf.SlGeneric
import Derived.Shelf.Strconv.Atoi
import Derived.Shelf.Strconv.Itoa3
import Derived.Shelf.Strings.Builder1
import Derived.Shelf.Strings.Count
import Derived.Shelf.Strings.Search3
import Derived.Shelf.Strings.SlTrimAscii
import Derived.Shelf.Strings.SplitCore
import Derived.Sort.WalkB12
import Derived.WalkKit
set_option linter.all false
namespace Dx
open Go Go.Proofs Go.Shelf Go.RowKit
variable {P:Program} {ρ:Ren}
theorem la(w:World)(b o:Nat)(v:Value):(w.setCell ⟨b,o,none⟩ v).os=w.os/\(w.setCell ⟨b,o,none⟩ v).tape=w.tape/\(w.setCell ⟨b,o,none⟩ v).output=w.output/\(w.setCell ⟨b,o,none⟩ v).heap.size=w.heap.size/\∀ k,k≠b->(w.setCell ⟨b,o,none⟩ v).heap[k]?=w.heap[k]? :=
 ⟨rfl,rfl,rfl,by simp[World.setCell],fun k hk=>Below.heap_setCell _ _ _ _ (fun e=>hk (by simp[e]))⟩
theorem Nz(L:Lays.n240 P ρ)(X:Builder.X72 P ρ)(b:Nat)(p sv:Value)(w:World)(hbk:w.heap[b]?=some (.cells #[p,sv] (ρ.t 72) (0,0)))(hp:p=.pointer none\/p=.pointer (some ⟨b,0,none⟩)) :
  Calls P (ρ.f 240) #[.pointer (some ⟨b,0,none⟩)] w fun e w'=>e=.returned (.tuple #[])/\w'.heap[b]?=some (.cells #[.pointer (some ⟨b,0,none⟩),sv] (ρ.t 72) (0,0)) ∧
   (w'.os=w.os/\w'.tape=w.tape/\w'.output=w.output/\w'.heap.size=w.heap.size/\∀ k,k≠b->w'.heap[k]?=w.heap[k]?):=by
 rcases hp with rfl|rfl
 ·refine(Any.Builder_copyCheck_fresh L X b w (by rw[Lib.cell_of_heap hbk];rfl) (by simp[World.shape?,hbk]) (Lib.frozen_of_heap hbk 0)).mono ?_
  rintro e w' ⟨rfl,rfl⟩
  exact⟨rfl,by simp[World.setCell,Array.getElem?_modify,hbk],la w b 0 _⟩
 ·refine(Any.Builder_copyCheck_used L X b w (by rw[Lib.cell_of_heap hbk];rfl)).mono ?_
  rintro e w' ⟨rfl,rfl⟩
  exact⟨rfl,hbk,rfl,rfl,rfl,rfl,fun _ _=>rfl⟩
open Go.Lib in
theorem Fa{w:World}(t u ty e:TypeId)(i:TypeInfo)(ht:P.underlying t=some (.slice e))(hu:P.underlying u=some .string)(hi:P.info? e=some i)(hz:i.zero=some (.int .u8 0))
  (hsize:i.size=1) (hby:i.bytes=1)
  (v:Value) (n:Nat) (xs:List Value) (hown:w.ownsRowF 0 e 1 v n xs) (s:ByteArray)
  (h63:n+s.size<=maxLen) (hbytes:n+s.size<=140737488355328) :
  ∃ v' w',(Builtin.append_ #[t,u] ty #[v,.string s]).run P w=.ok v' w'/\w'.ownsRowF 0 e 1 v' (n+s.size) (xs++strCells s)/\w.grownBy w' v.ownBlock/\∀ g,v'.ownBlock=some g->v.ownBlock=some g\/w.heap.size<=g:=by
 rcases hown.2 with ⟨rfl,rfl⟩|⟨g,cap,cur,fz,rfl,hbg,hg,hfz,hnc,hcm,hcs,htake⟩
 ·obtain⟨v',w',h1,h2,h3,h4⟩:=run_append_own_string (P:=P) w w.heap.size t u ty e i ht hu hi hz hsize hby (.slice none 0 0) 0 xs ⟨hown.1,.inl ⟨rfl,rfl⟩⟩ s h63 hbytes (Nat.le_refl _)
  have h5:=World.ownsRowF_of h2
  refine⟨v',w',h1,⟨h5.1,h5.2.imp id ?_⟩,h3,fun g hg=>.inr (h5.lt g hg).1⟩
  rintro⟨g,cap,cur,fz,e1,e2,e3⟩
  exact⟨g,cap,cur,fz,e1,Nat.zero_le _,e3⟩
 ·have hsmall:n+s.size<=9223372036854775807:=by simp only[maxLen]at h63;omega
  have hxl:xs.length=n:=by simpa using hown.1
  have hlen:(xs++strCells s).length=(n+s.size)*1:=by rw[List.length_append,hxl,strCells_length,Nat.mul_one]
  by_cases hroom:n+s.size<=cap
  ·have hcs':cur.size=cap:=by simpa using hcs
   have hr:=run_append_room_stringF (P:=P) w t u ty e i ht hu hi hsize g n cap cur fz hg (by simpa using hfz) s hroom (by omega)
   refine⟨_,_,hr,⟨hlen,.inr ⟨g,cap,_,fz,rfl,hbg,setRow_heap w g cur _ e _ hg,by omega,hroom,hcm,?_,?_⟩⟩,⟨rfl,rfl,rfl,by simp,fun k _ hk=>setRow_other w g k _ (fun e=>hk (by simp[Value.ownBlock,e]))⟩,fun g' h=>.inl h⟩
   ·simp only[List.size_toArray,List.length_append,List.length_take,List.length_drop,Array.length_toList,strCells_length]
    omega
   ·have ht':cur.toList.take n=xs:=by simpa using htake
    rw[ht',<-hlen]
    exact List.take_left
  ·have holds:∀ j u,xs[j]?=some u->w.cell? ((⟨g,0,none⟩:Addr).add j)=some u:=hown.cells (g:=g) rfl
   have hr:=run_append_grow_string (P:=P) w t u ty e i (.int .u8 0) ht hu hi hz ⟨g,0,none⟩ n cap xs (by rw[hsize];simpa using hxl) holds s (by omega) (by omega) (by rw[hby];exact growslice_fits (by omega) (by omega))
   have hge:=grownCap_ge w (n+s.size) cap e
   have hcm2:grownCap w (n+s.size) cap e<=maxLen:=grownCap_le_maxLen w (n+s.size) cap e h63
   refine⟨_,_,hr,⟨hlen,.inr ⟨w.heap.size,_,_,(0,0),rfl,Nat.zero_le _,heap_alloc_new w.drew _,Nat.zero_le _,hge,hcm2,?_,?_⟩⟩,⟨rfl,rfl,rfl,by simp,fun k hk _=>heap_alloc_old w.drew _ hk⟩,fun g' h=>.inr (by simp[Value.ownBlock]at h;omega)⟩
   ·have hz1:(Value.int IntKind.u8 0).cells.size=1:=rfl
    simp only[Array.size_append,List.size_toArray,size_zeroCells,hz1,hxl,strCells_length]
    omega
   ·simp only[Array.toList_append,List.append_assoc]
    rw[<-List.append_assoc,<-hlen]
    exact List.take_left
open Go.Lib in
theorem HX{ops:Array Oper}{rest:List Oper}{o:Oper}{a:Act}{w:World}{Q:Exit->Act->World->Prop}(hgd:o.guard=none)(sl x:Operand)(t u:TypeId)
  (ho:o.op=.call {callee:=.builtin .append,args:=#[sl,x],argTypes:=#[t,u]})
  (e:TypeId) (i:TypeInfo) (ht:P.underlying t=some (.slice e)) (hu:P.underlying u=some .string) (hi:P.info? e=some i) (hz:i.zero=some (.int .u8 0))
  (hsize:i.size=1) (hby:i.bytes=1)
  (v:Value) (n:Nat) (xs:List Value) (hs:a.eval sl=v) (hown:w.ownsRowF 0 e 1 v n xs) (s:ByteArray) (hx:a.eval x=.string s)
  (h63:n+s.size<=maxLen) (hbytes:n+s.size<=140737488355328)
  (h:∀ v' w',w'.ownsRowF 0 e 1 v' (n+s.size) (xs++strCells s)->w.grownBy w' v.ownBlock->(∀ g,v'.ownBlock=some g->v.ownBlock=some g\/w.heap.size<=g)->wpList P ops Q rest (a.put o.dst v') w'):wpList P ops Q (o::rest) a w:=by
 refine wpList_plain hgd fun K hK=>?_
 obtain⟨v',w',hr,h2,h3,h4⟩:=Fa (P:=P) t u o.type e i ht hu hi hz hsize hby v n xs hown s h63 hbytes
 unfold Oper.wp execOp
 simp only[ho,resolve,invoke,builtin,Sem.run_bind,Sem.run_pure,Result.andThen_ok,List.map_toArray,List.map_cons,List.map_nil,hs,hx,hr]
 exact hK _ _ (h v' w' h2 h3 h4)
theorem tW(s t:ByteArray):Lib.strCells (s++t)=Lib.strCells s++Lib.strCells t:=by
 simp[Lib.strCells,ByteArray.data_append]
theorem pU{w w':World}{e n:Nat}{v:Value}{xs:List Value}(h:w.ownsRowF 0 e 1 v n xs)(hk:∀ g,v.ownBlock=some g->w'.heap[g]?=w.heap[g]?):w'.ownsRowF 0 e 1 v n xs:=by
 refine⟨h.1,h.2.imp id ?_⟩
 rintro⟨g,cap,cur,fz,e1,e2,e3,e4⟩
 exact⟨g,cap,cur,fz,e1,e2,(hk g (by rw[e1];rfl)).trans e3,e4⟩
set_option maxHeartbeats 2000000 in
set_option maxRecDepth 100000 in
theorem NA(L:Lays.n166 P ρ)(X:Builder.Extra P ρ):sg P (ρ.f 166) (true,ρ.t 72,ρ.t 5):=by
 refine⟨cY L.f166 (by kernel_rfl) rfl,?_⟩
 rintro w v bs XX s ⟨b,p,sv,rfl,hp,hbk,hown,hne,rfl⟩ hlen
 obtain⟨i0,hi,hz0,hz1,hz2⟩:=info_parts X.infoByte
 have mixed:=L.mixed
 have t72:=L.t72;have a72:=L.a72;have z72:=L.z72;have v72:=L.v72;have u72:=run_underlying L.t72
 have t70:=L.t70;have a70:=L.a70;have z70:=L.z70;have v70:=L.v70;have u70:=run_underlying L.t70
 have t37:=L.t37;have a37:=L.a37;have z37:=L.z37;have v37:=L.v37;have u37:=run_underlying L.t37
 have t3:=L.t3;have a3:=L.a3;have z3:=L.z3;have v3:=L.v3;have u3:=run_underlying L.t3
 have t9:=L.t9;have a9:=L.a9;have z9:=L.z9;have v9:=L.v9;have u9:=run_underlying L.t9
 have t4:=L.t4;have a4:=L.a4;have z4:=L.z4;have v4:=L.v4;have u4:=run_underlying L.t4
 have t164:=L.t164;have a164:=L.a164;have z164:=L.z164;have v164:=L.v164;have u164:=run_underlying L.t164
 have t5:=X.t5;have a5:=X.a5;have z5:=X.z5;have v5:=X.v5;have u5:=run_underlying X.t5
 have hlt0:b<w.heap.size:=(Array.getElem?_eq_some_iff.1 hbk).1
 have e240:∀ args w,(callFunc (ρ.f 240) args).run P w=.ok (.enter (ρ.f 240) args) w:=cY L.f240 (by kernel_rfl) rfl
 go_enter L.f166,Body.n166_ntmps ρ
 go_wp2_with (go_at_fn (ρ.f 240);refine(Nz {L with} X.toX72 b p sv w hbk hp).mono ?_)
 rintro e w1 ⟨rfl,hbk1,o1,o2,o3,o4,o5⟩
 have hown1:w1.ownsRowF 0 (ρ.t 5) 1 sv bs.size (Lib.strCells bs):=pU hown fun g hg=>o5 g (fun e=>hne (by rw[hg,e]))
 have c0:w1.cell? ⟨b,0,none⟩=some (.pointer (some ⟨b,0,none⟩)):=by rw[Lib.cell_of_heap hbk1];rfl
 have c1:w1.cell? ⟨b,1,none⟩=some sv:=by rw[Lib.cell_of_heap hbk1];rfl
 go_wp2_with (at_builtin;refine HX rfl _ _ (ρ.t 37) (ρ.t 9) rfl (ρ.t 5) i0 L.t37 L.t9 hi hz0 hz1 hz2 _ _ _ rfl hown1 s rfl ?c3 ?c4 ?_)
 case c3=>unfold maxLen;unfold aK at hlen;omega
 case c4=>unfold aK at hlen;omega
 intro v' w2 hown' hgrow hnil
 have hlt:b<w1.heap.size:=by omega
 have hb2:w2.heap[b]?=some (.cells #[.pointer (some ⟨b,0,none⟩),sv] (ρ.t 72) (0,0)):=by
  rw[hgrow.block b hlt (fun e=>hne e.symm)]
  exact hbk1
 have d0:w2.cell? ⟨b,0,none⟩=some (.pointer (some ⟨b,0,none⟩)):=by rw[Lib.cell_of_heap hb2];rfl
 have d1:w2.cell? ⟨b,1,none⟩=some sv:=by rw[Lib.cell_of_heap hb2];rfl
 have f1:w2.frozen? ⟨b,1,none⟩=false:=Lib.frozen_of_heap hb2 1
 obtain⟨ao,n',cap,rfl⟩:∃ ao n' cap,v'=.slice ao n' cap:=by
  rcases hown'.2 with ⟨hv,_⟩|⟨g,cap,cur,fz,hv,_⟩
  ·exact⟨_,_,_,hv⟩
  ·exact⟨_,_,_,hv⟩
 go_wp2
 go_ret2
 have hlt2:b<w2.heap.size:=(Array.getElem?_eq_some_iff.1 hb2).1
 have hne2:(Value.slice ao n' cap).ownBlock≠some b:=Lib.ownBlock_neF hown' hb2 X.neB5
 obtain⟨q1,q2,q3,q4,q5⟩:=la w2 b 1 (.slice ao n' cap)
 have hsz:w.heap.size<=w2.heap.size:=by have:=hgrow.size;omega
 refine⟨b::(Value.slice ao n' cap).ownBlock.toList,⟨_,rfl⟩,⟨q1.trans (hgrow.os.trans o1),q2.trans (hgrow.tape.trans o2),q3.trans (hgrow.output.trans o3),by omega,fun k hk hkX=>?_,fun k hk=>?_,fun k hk=>?_⟩,b,_,.slice ao n' cap,rfl,.inr rfl,by simp[World.setCell,Array.getElem?_modify,hb2],?_,hne2,rfl⟩
 ·have hkb:k≠b:=fun e=>hkX (by simp[e])
  rw[q5 k hkb,hgrow.block k (by omega) (fun e=>hkX (by simp[<-e])),o5 k hkb]
 ·rcases List.mem_cons.1 hk with rfl|hk
  ·exact .inl (by simp)
  ·rcases hnil k (by simpa using hk)with h|h
   ·exact .inl (by simp[h])
   ·exact .inr (by omega)
 ·rw[q4]
  rcases List.mem_cons.1 hk with rfl|hk
  ·exact hlt2
  ·exact(hown'.lt k (by simpa using hk)).2
 ·have hs2:(bs++s).size=bs.size+s.size:=ByteArray.size_append
  rw[hs2,tW]
  exact pU hown' fun g hg=>q5 g (fun e=>hne2 (by rw[hg,e]))
structure Kept (w w':World):Prop where
 os:w'.os=w.os
 tape:w'.tape=w.tape
 output:w'.output=w.output
 size:w.heap.size<=w'.heap.size
 old:∀ k,k<w.heap.size->w'.heap[k]?=w.heap[k]?
theorem bldR.lt{w:World}{T e:Nat}{v:Value}{s:ByteArray}{X:List Nat}(h:bldR w T e v s X):∀ k∈X,k<w.heap.size:=by
 obtain⟨b,p,sv,h1,h2,h3,h4,h5,rfl⟩:=h
 intro k hk
 rcases List.mem_cons.1 hk with rfl|hk
 ·exact(Array.getElem?_eq_some_iff.1 h3).1
 ·exact(h4.lt k (by simpa using hk)).2
theorem Kept.bld{w w':World}(h:Kept w w'){T e:Nat}{v:Value}{s:ByteArray}{X:List Nat}(hb:bldR w T e v s X):Bmv w w' X X/\bldR w' T e v s X :=
 ⟨⟨h.os,h.tape,h.output,h.size,fun k hk _=>h.old k hk,fun k hk=>.inl hk,fun k hk=>Nat.lt_of_lt_of_le (hb.lt k hk) h.size⟩,hb.keep fun k hk=>h.old k (hb.lt k hk)⟩
theorem tC(w:World):Kept w w.drew:=⟨rfl,rfl,rfl,Nat.le_refl _,fun _ _=>rfl⟩
theorem Al(w:World)(o:Obj):Kept w (w.drew.alloc o):=⟨rfl,rfl,rfl,by rw[World.size_alloc];exact Nat.le_succ _,fun k hk=>heap_alloc_old w.drew o hk⟩
set_option maxHeartbeats 1000000 in
set_option maxRecDepth 100000 in
theorem DB(L:Lays.n169 P ρ)(X:Builder.Extra P ρ)(b g cap:Nat)(cur:Array Value)(fz:Nat×Nat)(p:Value)(l:List UInt8)(w:World)(h0:l≠[])
  (hbk:w.heap[b]?=some (.cells #[p,.slice (some ⟨g,0,none⟩) l.length cap] (ρ.t 72) (0,0))) (hown:w.ownsRowF 0 (ρ.t 5) 1 (.slice (some ⟨g,0,none⟩) l.length cap) l.length (Lib.byteCells l))
  (hg:w.heap[g]?=some (.cells cur (ρ.t 5) fz)) (hnc:l.length<=cap) (hcm:cap<=maxLen) (hcs:cur.size=cap*1) :
  Calls P (ρ.f 169) #[.pointer (some ⟨b,0,none⟩)] w fun e w'=>e=.returned (.string ⟨l.toArray⟩)/\w'=w.drew.freeze ⟨g,0,none⟩ l.length:=by
 have hl0:l.length≠0:=by simpa using h0
 have c1:w.drew.cell? ⟨b,1,none⟩=some (.slice (some ⟨g,0,none⟩) l.length cap):=by
  have:w.drew.heap[b]?=some (.cells #[p,.slice (some ⟨g,0,none⟩) l.length cap] (ρ.t 72) (0,0)):=hbk
  rw[Lib.cell_of_heap this];rfl
 have hSD:(Builtin.unsafeSliceData_ #[(ρ.t 37)] (ρ.t 127) #[.slice (some ⟨g,0,none⟩) l.length cap]).run P w.drew=.ok (.pointer (some ⟨g,0,none⟩)) w.drew :=
  Lib.run_unsafeSliceData_row _ _ _ _ _ _ (by omega)
 have hUS:(Builtin.unsafeString_ #[(ρ.t 127),(ρ.t 3)] (ρ.t 9) #[.pointer (some ⟨g,0,none⟩),.int .i64 l.length]).run P w.drew=.ok (.string ⟨l.toArray⟩) (w.drew.freeze ⟨g,0,none⟩ l.length):=by
  refine Lib.run_unsafeString_row w.drew (ρ.t 127) (ρ.t 3) (ρ.t 9) (ρ.t 5) L.t127 X.cellsByte g cur.size (by have hg':w.drew.heap[g]?=some (.cells cur (ρ.t 5) fz):=hg;simp[World.shape?,hg']) l h0 (by omega) (by unfold maxLen at hcm;omega) ?_
  intro j x hx
  have:=hown.cells (g:=g) rfl j (.int .u8 x.toNat) (by simp[Lib.byteCells,hx])
  exact this
 have mixed:=L.mixed
 have t72:=L.t72;have a72:=L.a72;have z72:=L.z72;have v72:=L.v72;have u72:=run_underlying L.t72
 have t70:=L.t70;have a70:=L.a70;have z70:=L.z70;have v70:=L.v70;have u70:=run_underlying L.t70
 have t37:=L.t37;have a37:=L.a37;have z37:=L.z37;have v37:=L.v37;have u37:=run_underlying L.t37
 have t127:=L.t127;have a127:=L.a127;have z127:=L.z127;have v127:=L.v127;have u127:=run_underlying L.t127
 have t3:=L.t3;have a3:=L.a3;have z3:=L.z3;have v3:=L.v3;have u3:=run_underlying L.t3
 have t9:=L.t9;have a9:=L.a9;have z9:=L.z9;have v9:=L.v9;have u9:=run_underlying L.t9
 have t5:=X.t5;have a5:=X.a5;have z5:=X.z5;have v5:=X.v5;have u5:=run_underlying X.t5
 go_enter L.f169,Body.n169_ntmps ρ
 go_wp2
 go_region_o
 all_goals (go_wp2;go_ret;exact⟨rfl,rfl⟩)
set_option maxHeartbeats 2000000 in
set_option maxRecDepth 100000 in
theorem Fb(L:Lays.n169 P ρ)(X:Builder.Extra P ρ)(b:Nat)(p:Value)(w:World)(hbk:w.heap[b]?=some (.cells #[p,.slice none 0 0] (ρ.t 72) (0,0))) :
  Calls P (ρ.f 169) #[.pointer (some ⟨b,0,none⟩)] w fun e w'=>e=.returned (.string ⟨#[]⟩)/\Kept w w':=by
 have hUS:=Any.unsafeString_none L X
 have c1:w.drew.cell? ⟨b,1,none⟩=some (.slice none 0 0):=by
  have:w.drew.heap[b]?=some (.cells #[p,.slice none 0 0] (ρ.t 72) (0,0)):=hbk
  rw[Lib.cell_of_heap this];rfl
 have hSD:(Builtin.unsafeSliceData_ #[(ρ.t 37)] (ρ.t 127) #[.slice none 0 0]).run P w.drew=.ok (.pointer none) w.drew:=rfl
 have mixed:=L.mixed
 have t72:=L.t72;have a72:=L.a72;have z72:=L.z72;have v72:=L.v72;have u72:=run_underlying L.t72
 have t70:=L.t70;have a70:=L.a70;have z70:=L.z70;have v70:=L.v70;have u70:=run_underlying L.t70
 have t37:=L.t37;have a37:=L.a37;have z37:=L.z37;have v37:=L.v37;have u37:=run_underlying L.t37
 have t127:=L.t127;have a127:=L.a127;have z127:=L.z127;have v127:=L.v127;have u127:=run_underlying L.t127
 have t3:=L.t3;have a3:=L.a3;have z3:=L.z3;have v3:=L.v3;have u3:=run_underlying L.t3
 have t9:=L.t9;have a9:=L.a9;have z9:=L.z9;have v9:=L.v9;have u9:=run_underlying L.t9
 have t5:=X.t5;have a5:=X.a5;have z5:=X.z5;have v5:=X.v5;have u5:=run_underlying X.t5
 go_enter L.f169,Body.n169_ntmps ρ
 go_wp2
 go_region_o
 all_goals (go_wp2;go_ret;exact⟨rfl,tC w⟩)
set_option maxHeartbeats 2000000 in
set_option maxRecDepth 100000 in
theorem wE(L:Lays.n169 P ρ)(X:Builder.Extra P ρ)(b g:Nat)(p:Value)(cur:Array Value)(w:World)(hbk:w.heap[b]?=some (.cells #[p,.slice (some ⟨g,0,none⟩) 0 0] (ρ.t 72) (0,0)))(fz:Nat×Nat)(hg:w.heap[g]?=some (.cells cur (ρ.t 5) fz)) :
  Calls P (ρ.f 169) #[.pointer (some ⟨b,0,none⟩)] w fun e w'=>e=.returned (.string ⟨#[]⟩)/\Kept w w':=by
 have hUS:=Any.unsafeString_none L X
 have hlt:b<w.heap.size:=(Array.getElem?_eq_some_iff.1 hbk).1
 have c1:w.drew.cell? ⟨b,1,none⟩=some (.slice (some ⟨g,0,none⟩) 0 0):=by
  have:w.drew.heap[b]?=some (.cells #[p,.slice (some ⟨g,0,none⟩) 0 0] (ρ.t 72) (0,0)):=hbk
  rw[Lib.cell_of_heap this];rfl
 have hSD:(Builtin.unsafeSliceData_ #[(ρ.t 37)] (ρ.t 127) #[.slice (some ⟨g,0,none⟩) 0 0]).run P w.drew=.ok (.pointer (some ⟨w.drew.heap.size,0,none⟩)) (w.drew.alloc (.view ⟨g,0,none⟩ (ρ.t 5))) :=
  Lib.run_unsafeSliceData_zero w.drew _ _ (ρ.t 5) L.t127 ⟨g,0,none⟩ 0 ((ρ.t 5),cur.size) (by have hg':w.drew.heap[g]?=some (.cells cur (ρ.t 5) fz):=hg;simp[World.shape?,hg'])
 have c2:(w.drew.alloc (.view ⟨g,0,none⟩ (ρ.t 5))).cell? ⟨b,1,none⟩=some (.slice (some ⟨g,0,none⟩) 0 0):=by
  have:(w.drew.alloc (.view ⟨g,0,none⟩ (ρ.t 5))).heap[b]?=_:=(Lib.alloc_old w.drew _ b hlt).trans hbk
  rw[Lib.cell_of_heap this];rfl
 have c3:(w.alloc (.view ⟨g,0,none⟩ (ρ.t 5))).drew.cell? ⟨b,1,none⟩=some (.slice (some ⟨g,0,none⟩) 0 0):=c2
 have c0:w.cell? ⟨b,1,none⟩=some (.slice (some ⟨g,0,none⟩) 0 0):=c1
 have mixed:=L.mixed
 have t72:=L.t72;have a72:=L.a72;have z72:=L.z72;have v72:=L.v72;have u72:=run_underlying L.t72
 have t70:=L.t70;have a70:=L.a70;have z70:=L.z70;have v70:=L.v70;have u70:=run_underlying L.t70
 have t37:=L.t37;have a37:=L.a37;have z37:=L.z37;have v37:=L.v37;have u37:=run_underlying L.t37
 have t127:=L.t127;have a127:=L.a127;have z127:=L.z127;have v127:=L.v127;have u127:=run_underlying L.t127
 have t3:=L.t3;have a3:=L.a3;have z3:=L.z3;have v3:=L.v3;have u3:=run_underlying L.t3
 have t9:=L.t9;have a9:=L.a9;have z9:=L.z9;have v9:=L.v9;have u9:=run_underlying L.t9
 have t5:=X.t5;have a5:=X.a5;have z5:=X.z5;have v5:=X.v5;have u5:=run_underlying X.t5
 go_enter L.f169,Body.n169_ntmps ρ
 go_wp2
 go_region_o
 all_goals (go_wp2;go_ret;exact⟨rfl,Al w _⟩)
set_option maxHeartbeats 2000000 in
set_option maxRecDepth 100000 in
theorem DC(L:Lays.n169 P ρ)(X:Builder.Extra P ρ)(b g cap:Nat)(p:Value)(w:World)(hc0:cap≠0)(hbk:w.heap[b]?=some (.cells #[p,.slice (some ⟨g,0,none⟩) 0 cap] (ρ.t 72) (0,0))) :
  Calls P (ρ.f 169) #[.pointer (some ⟨b,0,none⟩)] w fun e w'=>e=.returned (.string ⟨#[]⟩)/\Kept w w':=by
 have hUS:=Any.unsafeString_none L X
 have c1:w.drew.cell? ⟨b,1,none⟩=some (.slice (some ⟨g,0,none⟩) 0 cap):=by
  have:w.drew.heap[b]?=some (.cells #[p,.slice (some ⟨g,0,none⟩) 0 cap] (ρ.t 72) (0,0)):=hbk
  rw[Lib.cell_of_heap this];rfl
 have hSD:(Builtin.unsafeSliceData_ #[(ρ.t 37)] (ρ.t 127) #[.slice (some ⟨g,0,none⟩) 0 cap]).run P w.drew=.ok (.pointer (some ⟨g,0,none⟩)) w.drew :=
  Lib.run_unsafeSliceData_row _ _ _ _ _ _ hc0
 clear hc0
 have mixed:=L.mixed
 have t72:=L.t72;have a72:=L.a72;have z72:=L.z72;have v72:=L.v72;have u72:=run_underlying L.t72
 have t70:=L.t70;have a70:=L.a70;have z70:=L.z70;have v70:=L.v70;have u70:=run_underlying L.t70
 have t37:=L.t37;have a37:=L.a37;have z37:=L.z37;have v37:=L.v37;have u37:=run_underlying L.t37
 have t127:=L.t127;have a127:=L.a127;have z127:=L.z127;have v127:=L.v127;have u127:=run_underlying L.t127
 have t3:=L.t3;have a3:=L.a3;have z3:=L.z3;have v3:=L.v3;have u3:=run_underlying L.t3
 have t9:=L.t9;have a9:=L.a9;have z9:=L.z9;have v9:=L.v9;have u9:=run_underlying L.t9
 have t5:=X.t5;have a5:=X.a5;have z5:=X.z5;have v5:=X.v5;have u5:=run_underlying X.t5
 go_enter L.f169,Body.n169_ntmps ρ
 go_wp2
 go_region_o
 all_goals (go_wp2;go_ret;exact⟨rfl,tC w⟩)
theorem HY(L:Lays.n169 P ρ)(X:Builder.Extra P ρ):sg P (ρ.f 169) (false,ρ.t 72,ρ.t 5):=by
 refine⟨cY L.f169 (by kernel_rfl) rfl,?_⟩
 rintro w v s XX hbld
 obtain⟨b,p,sv,rfl,hp,hbk,hown,hne,rfl⟩:=id hbld
 have kept:∀(en:Ending) (w':World),(en=.returned (.string ⟨#[]⟩)/\Kept w w')->s=⟨#[]⟩->∃ X',en=.returned (.string s)/\Bmv w w' (b::sv.ownBlock.toList) X'/\bldR w' (ρ.t 72) (ρ.t 5) (.pointer (some ⟨b,0,none⟩)) s X':=by
  rintro en w' ⟨rfl,hk⟩ hs
  exact⟨_,by rw[hs],hk.bld hbld⟩
 have hempty:s.size=0->s=⟨#[]⟩:=fun h=>by
  obtain⟨d⟩:=s
  have:d.size=0:=h
  rw[Array.size_eq_zero_iff.1 this]
 rcases id hown.2 with ⟨rfl,hz⟩|⟨g,cap,cur,fz,rfl,hbg,hg,hfz,hnc,hcm,hcs,htake⟩
 ·exact(Fb L X b p w hbk).mono fun en w' h=>kept en w' h (hempty hz)
 ·by_cases hl0:s.size=0
  ·have hs:=hempty hl0
   by_cases hc0:cap=0
   ·subst hc0
    exact(wE L X b g p cur w (by rw[hl0]at hbk;exact hbk) fz hg).mono fun en w' h=>kept en w' h hs
   ·exact(DC L X b g cap p w hc0 (by rw[hl0]at hbk;exact hbk)).mono fun en w' h=>kept en w' h hs
  ·have hsl:s.data.toList.length=s.size:=by rw[Array.length_toList];rfl
   have hs:(⟨s.data.toList.toArray⟩:ByteArray)=s:=by simp
   have hc:=DB L X b g cap cur fz p s.data.toList w (fun h=>hl0 (by rw[<-hsl,h];rfl)) (by rw[hsl];exact hbk) (by rw[hsl];exact hown) hg (by omega) hcm hcs
   refine hc.mono ?_
   rintro en w' ⟨rfl,rfl⟩
   have hgb:g≠b:=fun e=>hne (by simp[Value.ownBlock,e])
   have hA:Lib.BuilderAtF (ρ.t 72) (ρ.t 5) 0 b p (Lib.strCells s) w.drew:=⟨Nat.zero_le _,_,hbk,by rw[Lib.strCells_length];exact hown,hne⟩
   have hF:=hA.froze (g:=g) (cap:=cap) (by
    have:w.drew.heap[b]?=some (.cells #[p,.slice (some ⟨g,0,none⟩) s.size cap] (ρ.t 72) (0,0)):=hbk
    rw[Lib.cell_of_heap this,Lib.strCells_length];rfl)
   rw[Lib.strCells_length,<-hsl]at hF
   obtain⟨_,sv',hb',hown',hne'⟩:=hF
   have hfr:∀ k,k≠g->(w.drew.freeze ⟨g,0,none⟩ s.data.toList.length).heap[k]?=w.heap[k]?:=fun k hk=>by
    unfold World.freeze
    split
    ·rfl
    ·simp only[Array.getElem?_modify,if_neg (Ne.symm hk)]
     rfl
   have hsz:(w.drew.freeze ⟨g,0,none⟩ s.data.toList.length).heap.size=w.heap.size:=by
    unfold World.freeze;split<;>simp
   have hos:(w.drew.freeze ⟨g,0,none⟩ s.data.toList.length).os=w.os/\(w.drew.freeze ⟨g,0,none⟩ s.data.toList.length).tape=w.tape/\(w.drew.freeze ⟨g,0,none⟩ s.data.toList.length).output=w.output:=by
    unfold World.freeze;split<;>exact⟨rfl,rfl,rfl⟩
   have hsv:sv'=.slice (some ⟨g,0,none⟩) s.size cap:=by
    rw[hfr b (Ne.symm hgb),hbk]at hb'
    simp only[Option.some.injEq,Obj.cells.injEq,and_true]at hb'
    have:=congrArg (fun a:Array Value=>a[1]?) hb'
    simpa using this.symm
   subst hsv
   refine⟨b::[g],by rw[hs],⟨hos.1,hos.2.1,hos.2.2,by omega,fun k hk hkX=>hfr k fun e=>hkX (by simp[e,Value.ownBlock]),fun k hk=>.inl hk,fun k hk=>by rw[hsz];exact hbld.lt k hk⟩,b,p,_,rfl,hp,by rw[hfr b (Ne.symm hgb)];exact hbk,?_,hne,rfl⟩
   rw[Lib.strCells_length]at hown'
   exact hown'
end Dx
namespace Dx
open Go Go.Proofs Go.Shelf Go.RowKit
variable {P:Program} {ρ:Ren}
theorem ru{w:World}{M Z:Nat->Prop}{c:List C}{v:Value}{X:List Nat}(h:pD w M Z (.ro false [.str]) c v X):X=[]/\∃ s,c=[.str s]/\v=.string s:=by
 rw[pD]at h
 obtain⟨h1,h2,us,h3,h4,h5⟩:=h
 refine⟨h1,?_⟩
 have h5:us=[v]:=h5
 subst h5
 match c,h2 with
 | [.str s],h2 =>
  rw[repRow]at h4
  obtain⟨v',vs',e1,e2,_⟩:=h4
  simp only[List.cons.injEq]at e1
  rw[repC]at e2
  exact⟨s,rfl,by rw[e1.1,e2]⟩
 | [.int _ _],h2|[.bool _],h2|[.list _],h2|[.hole],h2=>simp[ah,ej]at h2
theorem HZ{w:World}{M Z:Nat->Prop}{c:List C}{v:Value}{X:List Nat}(h:pD w M Z (.ro false [.int .i64]) c v X):X=[]/\∃ i,c=[.int .i64 i]/\v=.int .i64 i:=by
 rw[pD]at h
 obtain⟨h1,h2,us,h3,h4,h5⟩:=h
 refine⟨h1,?_⟩
 have h5:us=[v]:=h5
 subst h5
 match c,h2 with
 | [.int k i],h2 =>
  have hk:k=.i64:=by
   simp only[ah,ej]at h2
   split at h2
   ·rename_i hh;exact(cX hh).symm
   ·cases h2
  subst hk
  rw[repRow]at h4
  obtain⟨v',vs',e1,e2,_⟩:=h4
  simp only[List.cons.injEq]at e1
  rw[repC]at e2
  exact⟨i,rfl,by rw[e1.1,e2]⟩
 | [.str _],h2|[.bool _],h2|[.list _],h2|[.hole],h2=>simp[ah,ej]at h2
theorem mI{ps:List Par}{rs:List Ret}{w w':World}{M:Nat->Prop}{vs:List Value}{r:List C}(rvs:List Value)(hM:∀ b,M b->b<w.heap.size/\b∉([]:List Nat))(hb:Below w.heap.size w w')(hback:dD w w' M ps vs [] [])
  (hres:eM w' M rs r rvs []):∃(M':Nat->Prop) (rvs':List Value) (r1 r2:List C) (X1 X2:List Nat),Ending.returned (rj rvs)=.returned (rj rvs')/\r=r1++r2/\w'.os=w.os/\w'.tape=w.tape/\w'.output=w.output/\w.heap.size<=w'.heap.size ∧
   (∀ b,b<w.heap.size->b∉([]:List Nat)->w'.heap[b]?=w.heap[b]?)/\(∀ b,M b->M' b)/\(∀ b,M' b->b<w'.heap.size/\(M b\/w.heap.size<=b\/b∈([]:List Nat))) ∧
   eM w' M' rs r1 rvs' X1/\dD w w' M' ps vs r2 X2/\(X1++X2).Nodup/\(∀ b∈X1++X2,¬ M' b/\b<w'.heap.size/\(w.heap.size<=b\/b∈([]:List Nat))) :=
 ⟨M,rvs,r,[],[],[],rfl,by simp,hb.os,hb.tape,hb.output,hb.size,fun b h _=>hb.block b h,fun _ h=>h,fun b h=>⟨Nat.lt_of_lt_of_le (hM b h).1 hb.size,.inl h⟩,hres,hback,by simp,by simp⟩
theorem uD{w:World}{M:Nat->Prop}(s:ByteArray):shR w M [.val] [.str s] [.string s] []:=by
 rw[shR]
 refine⟨_,[],_,[],[],[],rfl,rfl,rfl,?_,by rw[shR];exact⟨rfl,rfl,rfl⟩⟩
 rw[shC]
 exact⟨rfl,by rw[repC]⟩
def ma:Con:=⟨[.ro false [.str],.ro false [.str]],[⟨false,[.val],[.str],false⟩]⟩
theorem Fc(L:Lays.n160 P ρ)(h116:(P.info? (ρ.t 116)).map (fun i=>(i.zero,i.size))=some (some (.agg (Array.replicate 256 (.bool false))),256)):Has P (ρ.f 160) ma bV:=by
 refine⟨cY L.f160 (by kernel_rfl) rfl,?_⟩
 intro w M cs vs X hM hp hnd hlt rs hφ
 simp only[ma,iw]at hp
 obtain⟨c1,c2,v,vs',X1,X2,rfl,rfl,rfl,hp1,c3,c4,v2,vs2,X3,X4,rfl,rfl,rfl,hp2,rfl,rfl,rfl⟩:=hp
 obtain⟨rfl,s,rfl,rfl⟩:=ru hp1
 obtain⟨rfl,p,rfl,rfl⟩:=ru hp2
 simp only[List.append_nil,List.cons_append,List.nil_append,bV]at hφ
 split at hφ
 case h_2=>cases hφ
 rename_i hc
 simp only[Bool.and_eq_true,decide_eq_true_eq]at hc
 obtain⟨h1,h2,h3⟩:=hc
 simp only[Option.some.injEq]at hφ
 subst hφ
 refine(Any.strings_Trim_laid L h116 s p w (by omega) h3 (ascii_of_all h1)).mono ?_
 rintro en w' ⟨rfl,hb⟩
 refine mI [.string ⟨(Lib.trimS s.data.toList p.data.toList).toArray⟩] (by simpa using hM) hb ?_ ?_
 ·simp only[ma,dD,pE]
  exact⟨_,_,[],[],[],[],rfl,rfl,rfl,⟨rfl,rfl⟩,_,_,[],[],[],[],rfl,rfl,rfl,⟨rfl,rfl⟩,rfl,rfl,rfl⟩
 ·simp only[ma,eM]
  refine⟨_,[],_,[],[],[],(List.append_nil _).symm,rfl,rfl,rfl,?_,rfl,rfl,rfl⟩
  simp only[dO]
  exact⟨_,uD _,rfl⟩
def mb:Con:=⟨[.ro false [.int .i64]],[⟨false,[.val],[.str],false⟩]⟩
theorem H0(n:Nat)(h:n<100):Lib.decDigits n=pT n:=by
 unfold pT
 rw[Lib.decDigits]
 by_cases h1:n<10
 ·rw[dif_pos h1,decide_eq_true h1]
 ·rw[dif_neg h1,decide_eq_false h1,Lib.decDigits,dif_pos (by omega)]
  rfl
theorem Fd(L:Lays.n171 P ρ):Has P (ρ.f 171) mb jE:=by
 refine⟨cY L.f171 (by kernel_rfl) rfl,?_⟩
 intro w M cs vs X hM hp hnd hlt rs hφ
 simp only[mb,iw]at hp
 obtain⟨c1,c2,v,vs',X1,X2,rfl,rfl,rfl,hp1,rfl,rfl,rfl⟩:=hp
 obtain⟨rfl,n,rfl,rfl⟩:=HZ hp1
 simp only[List.append_nil,List.cons_append,List.nil_append,jE]at hφ
 split at hφ
 case h_2=>cases hφ
 rename_i hc
 simp only[Bool.and_eq_true,decide_eq_true_eq]at hc
 obtain⟨h1,h2⟩:=hc
 simp only[Option.some.injEq]at hφ
 subst hφ
 obtain⟨n,rfl⟩:∃ n':Nat,n=n':=⟨n.toNat,by omega⟩
 refine(Any.strconv_Itoa_small L n (by omega) w).mono ?_
 rintro en w' ⟨rfl,rfl⟩
 rw[H0 n (by omega)]
 refine mI [.string ⟨(pT n).toArray⟩] (by simpa using hM) (Below.refl _ _) ?_ ?_
 ·simp only[mb,dD,pE]
  exact⟨_,_,[],[],[],[],rfl,rfl,rfl,⟨rfl,rfl⟩,rfl,rfl,rfl⟩
 ·simp only[mb,eM]
  refine⟨_,[],_,[],[],[],(List.append_nil _).symm,rfl,rfl,rfl,?_,rfl,rfl,rfl⟩
  simp only[dO]
  exact⟨_,uD _,rfl⟩
def me:Con:=⟨[.ro false [.str]],[⟨false,[.val],[.int .i64],false⟩,⟨false,[.val],[.hole],false⟩]⟩
theorem Fe(l:List UInt8)(h:l.all fT=true)(h1:1<=l.length)(h2:l.length<=2):Lib.atoi l=some (Ak l):=by
 have dig:∀ b:UInt8,fT b=true->Lib.digitVal b=some (b.toNat-48)/\(b==45)=false/\(b==43)=false/\((b.toNat-48:Nat):Int)=(b.toNat:Int)-48:=fun b hb=>by
  simp only[fT,Bool.and_eq_true,decide_eq_true_eq]at hb
  refine⟨if_pos hb,?_,?_,by omega⟩<;>(rw[beq_eq_false_iff_ne];rintro rfl;revert hb;decide)
 rcases l with _|⟨a,_|⟨b,_|⟨c,l⟩⟩⟩
 ·simp at h1
 ·obtain⟨d1,d2,d3,d4⟩:=dig a (by simpa using h)
  simp[Lib.atoi,d2,d3,Lib.decNat,Lib.decFrom,d1,Ak,d4]
 ·have h':fT a=true/\fT b=true:=by simpa using h
  obtain⟨d1,d2,d3,d4⟩:=dig a h'.1
  obtain⟨e1,e2,e3,e4⟩:=dig b h'.2
  simp only[Lib.atoi,d2,d3,Lib.decNat,Lib.decFrom,d1,e1,Ak,Bool.false_eq_true,if_false,List.isEmpty_cons,Option.map_some,Option.some.injEq,List.foldl_cons,List.foldl_nil]
  omega
 ·simp at h2
theorem wF(w:World)(e:TypeId)(t:ByteArray):Below w.heap.size w (Lib.bytesWorld w e t):=by
 unfold Lib.bytesWorld
 exact Lib.below_freeze (((Below.refl w.heap.size w).drew).alloc (Nat.le_refl _) _) (p:=⟨w.heap.size,_,none⟩) (Nat.le_refl _) _
theorem Ff(L:Lays.n172 P ρ):Has P (ρ.f 172) me bW:=by
 refine⟨cY L.f172 (by kernel_rfl) rfl,?_⟩
 intro w M cs vs X hM hp hnd hlt rs hφ
 simp only[me,iw]at hp
 obtain⟨c1,c2,v,vs',X1,X2,rfl,rfl,rfl,hp1,rfl,rfl,rfl⟩:=hp
 obtain⟨rfl,s,rfl,rfl⟩:=ru hp1
 simp only[List.append_nil,List.cons_append,List.nil_append,bW]at hφ
 split at hφ
 case h_2=>cases hφ
 rename_i hc
 simp only[Bool.and_eq_true,decide_eq_true_eq]at hc
 obtain⟨h1,h2,h3⟩:=hc
 simp only[Option.some.injEq]at hφ
 subst hφ
 have hsl:s.data.toList.length=s.size:=by rw[Array.length_toList];rfl
 refine(Any.strconv_Atoi L s _ (by omega) (Fe _ h3 (by omega) (by omega)) w).mono ?_
 rintro en w' ⟨rfl,t,rfl⟩
 refine mI [.int .i64 (Ak s.data.toList),.nilIface] (by simpa using hM) (wF w _ t) ?_ ?_
 ·simp only[me,dD,pE]
  exact⟨_,_,[],[],[],[],rfl,rfl,rfl,⟨rfl,rfl⟩,rfl,rfl,rfl⟩
 ·simp only[me,eM]
  refine⟨[.int .i64 (Ak s.data.toList)],[.hole],_,_,[],[],by simp,rfl,rfl,rfl,?_,[.hole],[],_,[],[],[],rfl,rfl,rfl,rfl,?_,rfl,rfl,rfl⟩
  ·simp only[dO]
   refine⟨[_],?_,rfl⟩
   rw[shR]
   refine⟨_,[],_,[],[],[],rfl,rfl,rfl,?_,by rw[shR];exact⟨rfl,rfl,rfl⟩⟩
   rw[shC]
   exact⟨rfl,by rw[repC]⟩
  ·simp only[dO]
   refine⟨[_],?_,rfl⟩
   rw[shR]
   refine⟨_,[],_,[],[],[],rfl,rfl,rfl,?_,by rw[shR];exact⟨rfl,rfl,rfl⟩⟩
   rw[shC]
   exact⟨rfl,by rw[repC];exact⟨rfl,rfl⟩⟩
def jn(e:Nat):Con:=⟨[.ro false [.str],.ro false [.str]],[⟨false,[.arr e [.val]],[.list],false⟩]⟩
set_option maxHeartbeats 1000000 in
theorem DD(L:Lays.n146 P ρ)(hi9:(P.info? (ρ.t 9)).map (fun i=>(i.zero,i.size,i.bytes))=some (some (.string ByteArray.empty),1,16))(s:ByteArray)(c:UInt8)(w:World)(hs:s.size<4294967281) :
  Calls P (ρ.f 146) #[.string s,.string ⟨#[c]⟩] w fun e w' =>
   e=.returned (.slice (some ⟨w.heap.size,0,none⟩) (Lib.countB s ⟨#[c]⟩+1) (Lib.countB s ⟨#[c]⟩+1))/\w'=w.alloc (.cells ((Lib.splitB ⟨#[c]⟩ 0 (Lib.countB s ⟨#[c]⟩) s).map Value.string).toArray (ρ.t 9)):=by
 have h1:1<=(⟨#[c]⟩:ByteArray).size:=Nat.le_refl 1
 have hle:=Lib.countB_le ⟨#[c]⟩ h1 s.size s (Nat.le_refl _)
 have hlen:=Lib.splitB_all ⟨#[c]⟩ h1 0 _ s rfl
 have c0:=Any.strings_genSplit_core {L with} hi9 s ⟨#[c]⟩ 0 (-1) (Lib.countB s ⟨#[c]⟩+1) w hs h1 (Nat.zero_le _)
  (fun x cs hx=>(Any.strings_Index_one {L with} x c _).mono fun e w' h=>⟨by rw[h.1,<-Lib.index_one],h.2⟩)
  ((Any.strings_Count_one {L with} s c w).mono fun e w' h=>⟨by rw[h.1];show _=Ending.returned (Value.int .i64 ((Lib.count s.data.toList [c]:Nat):Int));rw[Lib.count_one];rfl,h.2⟩) (by decide) (by decide) (by rw[if_pos (by decide)]<;>omega)
 rw[Nat.add_sub_cancel,hlen]at c0
 have e2:Lib.cellsOf (Lib.splitB ⟨#[c]⟩ 0 (Lib.countB s ⟨#[c]⟩) s) (Lib.countB s ⟨#[c]⟩+1)=((Lib.splitB ⟨#[c]⟩ 0 (Lib.countB s ⟨#[c]⟩) s).map Value.string).toArray:=by rw[<-hlen];exact Lib.cellsOf_full _
 rw[e2]at c0
 have t3:=L.t3;have t9:=L.t9;have t31:=L.t31
 have a3:=L.a3;have a9:=L.a9;have a31:=L.a31
 have z3:=L.z3;have v3:=L.v3;have z9:=L.z9;have v9:=L.v9;have z31:=L.z31;have v31:=L.v31
 have e221:∀ args w,(callFunc (ρ.f 221) args).run P w=.ok (.enter (ρ.f 221) args) w:=cY L.f221 (by kernel_rfl) rfl
 go_enter L.f146,Body.n146_ntmps ρ
 go_wp2_with (go_at_fn (ρ.f 221);refine c0.mono ?_;rintro e w' ⟨rfl,hw⟩;rw[hw])
 go_ret
 exact⟨rfl,rfl⟩
theorem kN(c:UInt8):∀(s:List UInt8) (k:Nat),k=s.count c->Lib.splitK [c] 0 k s=aL c s
 | [],k,h=>by
  have:k=0:=by simpa using h
  subst this;rfl
 | b::l,k,h=>by
  by_cases hb:b=c
  ·subst hb
   rw[List.count_cons_self]at h
   subst h
   have hix:Lib.index (b::l) [b]=0:=by rw[Lib.index_one];simp[Lib.indexByte]
   rw[Lib.splitK,hix]
   simp only[aL,decide_true]
   rw[<-kN b l _ rfl]
   simp
  ·rw[List.count_cons_of_ne (by simpa using hb)]at h
   subst h
   have ih:=kN c l _ rfl
   simp only[aL,decide_eq_false hb]
   have hix:Lib.index (b::l) [c]=if Lib.index l [c]==-1 then -1 else Lib.index l [c]+1:=by
    rw[Lib.index_one,Lib.index_one,Lib.indexByte,if_neg (by simpa using hb)]
   cases hk:l.count c with
   | zero =>
    rw[hk]at ih
    rw[<-ih]
    rfl
   | succ k =>
    rw[hk]at ih
    rw[Lib.splitK]at ih ⊢
    rw[hix]
    by_cases hm:Lib.index l [c]=-1
    ·rw[hm]at ih ⊢
     simp only[beq_self_eq_true,if_true]at ih ⊢
     rw[<-ih]
    ·have hge:=Lib.index_ge l [c]
     have hm':(Lib.index l [c]==-1)=false:=by simpa using hm
     rw[hm']at ih ⊢
     simp only[Bool.false_eq_true,if_false,Nat.add_zero]at ih ⊢
     have hm2:(Lib.index l [c]+1==-1)=false:=by rw[beq_eq_false_iff_ne];omega
     have e1:(Lib.index l [c]+1).toNat=(Lib.index l [c]).toNat+1:=by omega
     rw[hm2,<-ih,e1]
     simp only[Bool.false_eq_true,if_false,List.take_succ_cons,Nat.add_right_comm _ 1,List.drop_succ_cons,List.length_singleton]
theorem DE(s:ByteArray)(c:UInt8):Lib.splitB ⟨#[c]⟩ 0 (Lib.countB s ⟨#[c]⟩) s=(aL c s.data.toList).map mkB:=by
 have h:=Lib.splitB_data ⟨#[c]⟩ 0 (Lib.countB s ⟨#[c]⟩) s
 have h2:Lib.splitK [c] 0 (Lib.countB s ⟨#[c]⟩) s.data.toList=aL c s.data.toList:=kN c _ _ (by
  show Lib.count s.data.toList [c]=_
  rw[Lib.count_one])
 rw[<-h2,<-h,List.map_map]
 conv=>lhs;rw[<-List.map_id (Lib.splitB ⟨#[c]⟩ 0 (Lib.countB s ⟨#[c]⟩) s)]
 rfl
theorem DF(L:Lays.n146 P ρ)(hi9:(P.info? (ρ.t 9)).map (fun i=>(i.zero,i.size,i.bytes))=some (some (.string ByteArray.empty),1,16))(hsm:eK (ρ.t 9)=true):Has P (ρ.f 146) (jn (ρ.t 9)) lO:=by
 refine⟨cY L.f146 (by kernel_rfl) rfl,?_⟩
 intro w M cs vs X hM hp hnd hlt rs hφ
 simp only[jn,iw]at hp
 obtain⟨c1,c2,v,vs',X1,X2,rfl,rfl,rfl,hp1,c3,c4,v2,vs2,X3,X4,rfl,rfl,rfl,hp2,rfl,rfl,rfl⟩:=hp
 obtain⟨rfl,s,rfl,rfl⟩:=ru hp1
 obtain⟨rfl,p,rfl,rfl⟩:=ru hp2
 simp only[List.append_nil,List.cons_append,List.nil_append,lO]at hφ
 split at hφ
 case h_2=>cases hφ
 rename_i c hc h1
 have h1:=of_decide_eq_true h1
 simp only[Option.some.injEq]at hφ
 subst hφ
 have hpc:p=⟨#[c]⟩:=by
  obtain⟨⟨l⟩⟩:=p
  have:l=[c]:=hc
  rw[this]
 subst hpc
 refine(DD L hi9 s c w h1).mono ?_
 rintro en w' ⟨rfl,rfl⟩
 have hlen:=Lib.splitB_all ⟨#[c]⟩ (Nat.le_refl 1) 0 _ s rfl
 rw[DE]at hlen ⊢
 have hcnt:=Lib.countB_le ⟨#[c]⟩ (Nat.le_refl 1) s.size s (Nat.le_refl _)
 have hL:(aL c s.data.toList).length=Lib.countB s ⟨#[c]⟩+1:=by simpa using hlen
 generalize aL c s.data.toList=pieces at hL ⊢
 rw[<-hL]
 refine⟨M,[.slice (some ⟨w.heap.size,0,none⟩) pieces.length pieces.length],_,[],[w.heap.size],[],rfl,(List.append_nil _).symm,rfl,rfl,rfl,by rw[World.size_alloc];exact Nat.le_succ _,fun b hb _=>heap_alloc_old w _ hb,fun b hb=>hb,fun b hb=>⟨by rw[World.size_alloc];exact Nat.lt_succ_of_lt (hM b hb).1,.inl hb⟩,?_,?_,by simp,fun b hb=>?_⟩
 ·simp only[jn,eM]
  refine⟨_,[],_,[],[w.heap.size],[],(List.append_nil _).symm,rfl,rfl,rfl,?_,rfl,rfl,rfl⟩
  simp only[dO]
  refine⟨[_],?_,rfl⟩
  rw[shR]
  refine⟨_,[],_,[],[w.heap.size],[],rfl,rfl,by simp,?_,by rw[shR];exact⟨rfl,rfl,rfl⟩⟩
  rw[shC]
  refine⟨_,pieces.map (fun l=>.string (mkB l)),[],rfl,rfl,.inl ⟨by simp,.inr ⟨w.heap.size,pieces.length,((pieces.map mkB).map Value.string).toArray,by simp,Nat.zero_le _,heap_alloc_new w _,by simp,by unfold maxLen;omega,by simp,?_⟩⟩,?_,by decide,by simp;unfold aK;omega⟩
  ·simp only[List.length_map,List.length_cons,List.length_nil,Nat.zero_add,Nat.mul_one,List.map_map,Function.comp_def]
   exact List.take_of_length_le (by simp)
  ·have rows:∀(l:List (List UInt8)) (w:World),rowsP (shR w M [.val]) 1 (l.map fun x=>[C.str (mkB x)]) (l.map fun x=>Value.string (mkB x)) []:=fun l w=>by
    induction l with
    | nil=>rfl
    | cons x l ih=>exact⟨[],[],rfl,uD _,ih⟩
   exact rows pieces _
 ·simp only[jn,dD,pE]
  exact⟨_,_,[],[],[],[],rfl,rfl,rfl,⟨rfl,rfl⟩,_,_,[],[],[],[],rfl,rfl,rfl,⟨rfl,rfl⟩,rfl,rfl,rfl⟩
 ·simp only[List.append_nil,List.mem_singleton]at hb
  subst hb
  exact⟨fun h=>absurd (hM _ h).1 (Nat.lt_irrefl _),by rw[World.size_alloc];exact Nat.lt_succ_self _,.inl (Nat.le_refl _)⟩
end Dx
namespace Dx
open Go Go.Proofs Go.Shelf Go.RowKit Go.Lib Go.Sort
theorem oo{P:Program}(w:World)(t e ty:TypeId)(z:Value)(ht:P.underlying t=some (.slice e))(hv:∀ w,(zeroValue e).run P w=.ok z w)(zs:List Value)(b o n c:Nat)(hn:0<n)(hzs:(Builtin.zeroCells z.cells n).toList=zs)(h1:∀ u∈zs,u.oneCell'=true)
  (hc:∀ j,j<zs.length->(w.cell? ⟨b,o+j,none⟩).isSome=true) (hf:∀ j,j<zs.length->w.frozen? ⟨b,o+j,none⟩=false) :
  (Builtin.clear_ #[t] ty #[.slice (some ⟨b,o,none⟩) n c]).run P w=.ok (.tuple #[]) (w.setCells b o zs):=by
 have hst:=run_storeCells_cells (P:=P) b o zs 0 w (by simpa using hc) (by simpa using hf) h1
 simp only[Nat.add_zero]at hst
 obtain⟨m,rfl⟩:∃ m,n=m+1:=⟨n-1,by omega⟩
 simp[Builtin.clear_,run_underlying ht,hv,hzs,hst]
structure DelAt (P:Program) (ρ:Ren):Prop where
 mixed:P.follows .mixedOrders=true
 f45:Bears P (ρ.f 45) (SlBodyN.n45 ρ)
 t3:P.underlying (ρ.t 3)=some (TypeDesc.int IntKind.i64)
 t4:P.underlying (ρ.t 4)=some (TypeDesc.bool)
 t22:P.underlying (ρ.t 22)=some (TypeDesc.slice (ρ.t 23))
 i23:(P.info? (ρ.t 23)).map (fun i=>(i.size,i.zero))=some (4,some (.agg #[.int .i64 0,.int .i64 0,.int .i64 0,.int .i64 0]))
theorem NB(n:Nat):∀ u∈(Builtin.zeroCells (Value.agg #[.int .i64 0,.int .i64 0,.int .i64 0,.int .i64 0]).cells n).toList,u.oneCell'=true:=by
 intro u hu
 simp only[Builtin.zeroCells,Value.cells,Array.toList_map,List.mem_map]at hu
 obtain⟨k,_,rfl⟩:=hu
 have:k % 4=0\/k % 4=1\/k % 4=2\/k % 4=3:=by omega
 show (#[Value.int .i64 0,.int .i64 0,.int .i64 0,.int .i64 0][k % 4]!).oneCell'=true
 rcases this with h|h|h|h<;>rw[h]<;>rfl
theorem pV(n:Nat):(Builtin.zeroCells (Value.agg #[.int .i64 0,.int .i64 0,.int .i64 0,.int .i64 0]).cells n).toList.length=n*4:=by
 simp[Builtin.zeroCells,Value.cells]
variable {P:Program} {ρ:Ren}
set_option maxHeartbeats 4000000 in
set_option maxRecDepth 1000000 in
theorem Am(L:DelAt P ρ){w:World}{g n cap i j:Nat}{cur:Array Value}{e:Nat}(hg:w.heap[g]?=some (.cells cur e (0,0)))(hsz:cur.size=cap*4)(hn:n<=cap)(hm:cap<=9223372036854775807)(hij:i<j)(hj:j<=n)
  (hone:∀ u∈cur.toList.take (n*4),u.oneCell'=true) :
  Calls P (ρ.f 45) #[.slice (some ⟨g,0,none⟩) n cap,.int .i64 i,.int .i64 j] w fun en w'=>en=.returned (.slice (some ⟨g,0,none⟩) (n-(j-i)) cap) ∧
   ∃ news zs,w'=(w.drew.setCells g (i*4) news).setCells g ((n-(j-i))*4) zs/\news=(cur.toList.take (n*4)).drop (j*4)/\zs.length=(j-i)*4:=by
 have mixed:=L.mixed;have t3:=L.t3;have t4:=L.t4;have t22:=L.t22
 obtain⟨i0,hi0,hz1,hzero⟩:∃ i0,P.info? (ρ.t 23)=some i0/\i0.size=4/\i0.zero=some (.agg #[.int .i64 0,.int .i64 0,.int .i64 0,.int .i64 0]):=by
  have h:=L.i23
  simp only[Option.map_eq_some_iff,Prod.mk.injEq]at h
  obtain⟨i0,h1,h2,h3⟩:=h
  exact⟨i0,h1,h2,h3⟩
 have z23:∀ w,(Go.sizeOf (ρ.t 23)).run P w=.ok 4 w:=fun w=>by simp[Go.sizeOf,typeInfo,hi0,hz1]
 have v23:∀ w,(zeroValue (ρ.t 23)).run P w=.ok (.agg #[.int .i64 0,.int .i64 0,.int .i64 0,.int .i64 0]) w:=fun w=>by simp[zeroValue,typeInfo,hi0,hzero]
 obtain⟨news,hnews⟩:∃ news,news=(cur.toList.take (n*4)).drop (j*4):=⟨_,rfl⟩
 have hcl:cur.toList.length=cap*4:=by simpa using hsz
 have hlen:news.length=(n-j)*4:=by rw[hnews,List.length_drop,List.length_take,hcl];omega
 have hcell:∀ k,w.drew.cell? ⟨g,k,none⟩=cur[k]?:=fun k=>pB (w:=w.drew) hg k
 have hfroz:∀ k,w.drew.frozen? ⟨g,k,none⟩=false:=fun k=>mA (w:=w.drew) hg k
 have hget:∀ t u,news[t]?=some u->cur[j*4+t]?=some u:=by
  intro t u hu
  rw[hnews,List.getElem?_drop,List.getElem?_take]at hu
  split at hu
  ·simpa using hu
  ·cases hu
 obtain⟨A,hA,hsrc⟩:∃ A:Addr,(if cap=j then some (⟨g,0,none⟩:Addr) else some ⟨g,j*4,none⟩)=some A/\Hid (∀ t u,news[t]?=some u->w.drew.cell? (A.add t)=some u):=by
  by_cases h:cap=j
  ·refine⟨⟨g,0,none⟩,by simp[h],fun t u hu=>?_⟩
   have h0:news.length=0:=by rw[hlen];omega
   rw[List.length_eq_zero_iff.1 h0]at hu
   simp at hu
  ·refine⟨⟨g,j*4,none⟩,by simp[h],fun t u hu=>?_⟩
   rw[Addr.add_lit,hcell]
   exact hget t u hu
 have s1:Hid (news.length=(n-j)*4):=hlen
 have s2:Hid (∀ u∈news,u.oneCell'=true):=by
  intro u hu
  rw[hnews]at hu
  exact hone u (List.mem_of_mem_drop hu)
 have s3:Hid (∀ t,t<news.length->(w.drew.cell? ⟨g,0+i*4+t,none⟩).isSome=true/\w.drew.frozen? ⟨g,0+i*4+t,none⟩=false):=by
  intro t ht
  rw[hlen]at ht
  refine⟨?_,hfroz _⟩
  rw[hcell]
  rw[Array.getElem?_eq_getElem (show 0+i*4+t<cur.size by omega)];rfl
 obtain⟨W1,hW1⟩:∃ W1,W1=w.drew.setCells g (0+i*4) news:=⟨_,rfl⟩
 obtain⟨c1,h1,h2⟩:=eW g news (0+i*4) w.drew cur e (0,0) hg (by omega)
 rw[<-hW1]at h1
 have hc1:c1.size=cap*4:=by
  have:=congrArg List.length h2
  simp[hlen,hcl]at this
  omega
 obtain⟨zs,hzs⟩:∃ zs,zs=(Builtin.zeroCells (Value.agg #[.int .i64 0,.int .i64 0,.int .i64 0,.int .i64 0]).cells (n-(i+(n-j)))).toList:=⟨_,rfl⟩
 have hzl:zs.length=(n-(i+(n-j)))*4:=by rw[hzs,pV]
 have hclr:∀ ty,(Builtin.clear_ #[ρ.t 22] ty #[.slice (some ⟨g,(i+(n-j))*4,none⟩) (n-(i+(n-j))) (cap-(i+(n-j)))]).run P W1=.ok (.tuple #[]) (W1.setCells g ((i+(n-j))*4) zs) :=
  fun ty=>oo W1 _ _ ty _ t22 v23 zs g ((i+(n-j))*4) _ _ (by omega) hzs.symm (by rw[hzs];exact NB _) (fun t ht=>by
   rw[pB h1]
   have:(i+(n-j))*4+t<c1.size:=by omega
   simp[this]) (fun t ht=>mA h1 _)
 have hW:Hid (W1=w.drew.setCells g (0+i*4) news):=hW1
 have hic:i<=cap:=by omega
 have hjc:j<=cap:=by omega
 have hfin:Hid (n-(j-i)=i+(n-j)):=by show _=_;omega
 have hzl':Hid (zs.length=(j-i)*4):=by show _=_;rw[hzl];congr 1;omega
 have hnews':Hid (news=(cur.toList.take (n*4)).drop (j*4)):=hnews
 clear hW1 h1 h2 hc1 hget hnews hlen hcell hfroz hcl hone hg hsz hzs hzl hzero
 obtain⟨_,_,FG⟩:=L.f45
 clear L
 go_enter FG,SlBodyN.n45_ntmps ρ
 go_wp2_with fail
 go_region_law_o (refine step_append_room rfl (.tmp 22) (.tmp 25) (ρ.t 22) rfl (ρ.t 23) i0 4 t22 hi0 hz1 g 0 i cap (by simp[Act.eval,Act.put]) A (n-j) (cap-j) news (by simp[Act.eval,Act.put]) s1.out hsrc.out s2.out (by omega) s3.out ?_;rw[<-hW.out])
 go_wp2
 go_ret
 refine⟨by rw[hfin.out];rfl,news,zs,?_,hnews'.out,hzl'.out⟩
 rw[hW.out,Nat.zero_add,hfin.out]
theorem mJ{w:World}{M:Nat->Prop}{row:List Sh}(ha:cn row=true){n:Nat}:∀ {es:List (List C)} {vs:List Value} {X:List Nat},rowsP (shR w M row) n es vs X->X=[]
 | [],_,_,h=>h
 | r::rs,vs,X,h=>by
  obtain⟨X1,X2,rfl,h1,h2⟩:=h
  rw[ct ha h1,mJ ha h2];rfl
theorem tD{w:World}{M:Nat->Prop}{row:List Sh}:∀ {es:List (List C)} {vs:List Value} {X:List Nat},rowsP (shR w M row) row.length es vs X->∀ u∈vs.take (es.length*row.length),u.oneCell'=true
 | [],_,_,_,u,hu=>by simp at hu
 | r::rs,vs,X,h,u,hu=>by
  obtain⟨X1,X2,rfl,h1,h2⟩:=h
  rw[List.length_cons,Nat.add_mul,Nat.one_mul,Nat.add_comm,List.take_add,List.mem_append]at hu
  rcases hu with hu|hu
  ·exact ul h1 u hu
  ·exact tD h2 u hu
def row4:List Sh:=[.val,.val,.val,.val]
def nX(e:Nat):Con:=⟨[.own false [.arr e row4] [.list] false,.ro false [.int .i64],.ro false [.int .i64]],[⟨false,[.arr e row4],[.list],false⟩]⟩
theorem BA{w:World}{M Z:Nat->Prop}{c:List C}{v:Value}{X:List Nat}(h:pD w M Z (.ro false [.int .i64]) c v X):X=[]/\∃ i,c=[.int .i64 i]/\v=.int .i64 i:=by
 rw[pD]at h
 obtain⟨h1,h2,us,h3,h4,h5⟩:=h
 refine⟨h1,?_⟩
 have h5:us=[v]:=h5
 subst h5
 match c,h2 with
 | [.int k i],h2 =>
  have hk:k=.i64:=by
   simp only[ah,ej]at h2
   split at h2
   ·rename_i hh;exact(cX hh).symm
   ·cases h2
  subst hk
  rw[repRow]at h4
  obtain⟨v',vs',e1,e2,_⟩:=h4
  simp only[List.cons.injEq]at e1
  rw[repC]at e2
  exact⟨i,rfl,by rw[e1.1,e2]⟩
theorem An(L:DelAt P ρ)(hsm:eK (ρ.t 23)=true):Has P (ρ.f 45) (nX (ρ.t 23)) si:=by
 refine⟨L.f45.enters rfl,?_⟩
 intro w M cs vs X hM hp hnd hlt rs hφ
 simp only[nX,iw]at hp
 obtain⟨c1,c2,v,vs',X1,X2,rfl,rfl,rfl,hp1,c3,c4,v2,vs2,X3,X4,rfl,rfl,rfl,hp2,c5,c6,v3,vs3,X5,X6,rfl,rfl,rfl,hp3,rfl,rfl,rfl⟩:=hp
 obtain⟨rfl,i,rfl,rfl⟩:=BA hp2
 obtain⟨rfl,j,rfl,rfl⟩:=BA hp3
 rw[pD]at hp1
 obtain⟨hk,us,hs,hv⟩:=hp1
 have hv:us=[v]:=hv
 subst hv
 rw[shR]at hs
 obtain⟨c,cs',v',vs',Y1,Y2,rfl,e1,rfl,hc,hn⟩:=hs
 rw[shR]at hn
 obtain⟨rfl,rfl,rfl⟩:=hn
 simp only[List.cons.injEq,and_true]at e1
 subst e1
 rw[shC]at hc
 obtain⟨es,vals,X',rfl,rfl,hown,hrows,_,hL⟩:=hc
 have hX':=mJ rfl hrows
 subst hX'
 simp only[List.append_nil,List.cons_append,List.nil_append,si]at hφ
 split at hφ
 case h_2=>cases hφ
 rename_i hc
 simp only[Bool.and_eq_true,decide_eq_true_eq]at hc
 obtain⟨h0,h1,h2⟩:=hc
 simp only[Option.some.injEq]at hφ
 subst hφ
 obtain⟨i,rfl⟩:∃ i':Nat,i=i':=⟨i.toNat,by omega⟩
 obtain⟨j,rfl⟩:∃ j':Nat,j=j':=⟨j.toNat,by omega⟩
 have hij:i<j:=by omega
 have hj:j<=es.length:=by omega
 have hown:=hown.own hsm
 rcases hown.2 with ⟨_,q⟩|⟨g,cap,cur,rfl,_,hg,hcn,hcm,hsz,htake⟩
 ·omega
 have hsz:cur.size=cap*4:=hsz
 have htake:cur.toList.take (es.length*4)=vals:=htake
 have hvl:vals.length=es.length*4:=hown.1
 have hone:∀ u∈cur.toList.take (es.length*4),u.oneCell'=true:=by
  rw[htake]
  intro u hu
  have hrep:=tD hrows u
  rw[show es.length*row4.length=vals.length from hvl.symm,List.take_length]at hrep
  exact hrep hu
 refine(Am L hg hsz hcn hcm hij hj hone).mono ?_
 rintro en w' ⟨rfl,news,zs,rfl,hnews,hzl⟩
 have hcl:cur.toList.length=cap*4:=by simpa using hsz
 have hnl:news.length=(es.length-j)*4:=by rw[hnews,List.length_drop,List.length_take,hcl];omega
 obtain⟨c1,g1,g2⟩:=eW g news (i*4) w.drew cur _ (0,0) hg (by omega)
 have hc1:c1.size=cap*4:=by
  have:=congrArg List.length g2
  simp[hnl,hcl]at this
  omega
 obtain⟨c2,g3,g4⟩:=eW g zs ((es.length-(j-i))*4) _ c1 _ (0,0) g1 (by omega)
 have hc2:c2.size=cap*4:=by
  have:=congrArg List.length g4
  simp[hzl,hc1]at this
  omega
 obtain⟨a1,a2,a3,a4,a5⟩:=eL g news (i*4) w.drew
 obtain⟨b1,b2,b3,b4,b5⟩:=eL g zs ((es.length-(j-i))*4) (w.drew.setCells g (i*4) news)
 have hoth:∀ b,b≠g->((w.drew.setCells g (i*4) news).setCells g ((es.length-(j-i))*4) zs).heap[b]?=w.heap[b]?:=fun b hb=>(b5 b hb).trans (a5 b hb)
 have hX:(blk (.slice (some ⟨g,0,none⟩) es.length cap)).toList=[g]:=rfl
 have hgX:∀ b,M b->b≠g:=fun b hb e=>(hM b hb).2 (by rw[e];simp[hX])
 have hcur:c2.toList.take ((es.length-(j-i))*4)=vals.take (i*4)++vals.drop (j*4):=by
  rw[g4,g2]
  have e1:(cur.toList.take (i*4)).length=i*4:=by rw[List.length_take,hcl];omega
  have e2:(es.length-(j-i))*4=i*4+news.length:=by rw[hnl];omega
  have e3:(cur.toList.take (i*4)++news).length=(es.length-(j-i))*4:=by rw[List.length_append,e1,e2]
  rw[List.append_assoc,List.take_append_of_le_length (by rw[List.length_take];simp[e1];omega),List.take_take,Nat.min_self]
  rw[List.take_append_of_le_length (by omega),<-e3,List.take_length,hnews,htake]
  congr 1
  rw[<-htake,List.take_take,Nat.min_eq_left (by omega)]
 have hall:es.length=(es.take i++es.drop j).length+(j-i):=by rw[List.length_append,List.length_take,List.length_drop];omega
 refine⟨M,[.slice (some ⟨g,0,none⟩) (es.length-(j-i)) cap],[.list (es.take i++es.drop j)],[],[g],[],rfl,by simp,b1.trans a1,b2.trans a2,b3.trans a3,by rw[b4,a4];exact Nat.le_refl _,?_,fun b hb=>hb,?_,?_,?_,by simp,?_⟩
 ·intro b hb hbX
  exact hoth b (fun e=>hbX (by rw[e];simp[hX]))
 ·intro b hb
  exact⟨by rw[b4,a4];exact(hM b hb).1,.inl hb⟩
 ·simp only[nX,eM]
  refine⟨[.list (es.take i++es.drop j)],[],_,[],[g],[],by simp,rfl,by simp,rfl,?_,rfl,rfl,rfl⟩
  simp only[dO]
  refine⟨[_],?_,rfl⟩
  rw[shR]
  refine⟨_,[],_,[],[g],[],rfl,rfl,by simp,?_,by rw[shR];exact⟨rfl,rfl,rfl⟩⟩
  rw[shC]
  refine⟨_,vals.take (i*4)++vals.drop (j*4),[],rfl,rfl,.inl ⟨?_,.inr ⟨g,cap,c2,?_,Nat.zero_le _,g3,by omega,hcm,hc2,?_⟩⟩,?_,by decide,by omega⟩
  ·show _=(es.take i++es.drop j).length*4
   rw[List.length_append,List.length_take,List.length_drop,hvl,List.length_append,List.length_take,List.length_drop];omega
  ·congr 1;omega
  ·show c2.toList.take ((es.take i++es.drop j).length*4)=_
   rw[<-hcur];congr 2;omega
  ·have hmono:∀ {r us Y},shR w M row4 r us Y->shR ((w.drew.setCells g (i*4) news).setCells g ((es.length-(j-i))*4) zs) M row4 r us Y:=fun {r us Y} h=>by
    have:=ct (shs:=row4) rfl h
    subst this
    exact shR.mono (fun b hb=>⟨hb,hoth b (hgX b hb)⟩) _ _ _ _ (by simp) h
   have hlen:row4.length=4:=rfl
   have hr1:rowsP (shR w M row4) row4.length (es.take i++es.drop i) vals []:=by rw[List.take_append_drop];exact hrows
   obtain⟨Xa,Xb,e1,r1,r2⟩:=cK hr1
   have hr2:rowsP (shR w M row4) row4.length (es.take j++es.drop j) vals []:=by rw[List.take_append_drop];exact hrows
   obtain⟨Xc,Xd,e2,r3,r4⟩:=cK hr2
   have q1:Xa=[]:=by simp at e1;exact e1.1
   have q2:Xd=[]:=by simp at e2;exact e2.2
   subst q1;subst q2
   have l1:(es.take i).length=i:=by rw[List.length_take];omega
   have l2:(es.take j).length=j:=by rw[List.length_take];omega
   rw[l2,hlen]at r4
   have:=d8 (vs:=vals.take (i*4)++vals.drop (j*4)) (X:=[]) (Y:=[]) (dl r1 (by
    rw[l1,hlen,List.take_append_of_le_length (by rw[List.length_take];omega),List.take_take,Nat.min_self])) (fs:=es.drop j) (by
    rw[l1,hlen,List.drop_append_of_le_length (by rw[List.length_take];omega),List.drop_take]
    simpa using r4)
   exact rowsP.mono (fun r us Y _ h=>hmono h) this
 ·simp only[nX,dD,pE]
  exact⟨_,_,[],[],[],[],rfl,rfl,rfl,⟨rfl,rfl⟩,_,_,[],[],[],[],rfl,rfl,rfl,⟨rfl,rfl⟩,_,_,[],[],[],[],rfl,rfl,rfl,⟨rfl,rfl⟩,rfl,rfl,rfl⟩
 ·intro b hb
  simp only[List.append_nil,List.mem_singleton]at hb
  subst hb
  refine⟨fun h=>hgX _ h rfl,by rw[b4,a4];exact hlt _ (by simp[hX]),.inr (by simp[hX])⟩
end Dx
namespace Dx
open Go Go.Proofs Go.Shelf Go.RowKit Go.Lib
structure GrowAt (P:Program) (ρ:Ren):Prop where
 mixed:P.follows .mixedOrders=true
 f4:Bears P (ρ.f 4) (Body8.n4 ρ)
 t3:P.underlying (ρ.t 3)=some (TypeDesc.int IntKind.i64)
 t4:P.underlying (ρ.t 4)=some (TypeDesc.bool)
 t22:P.underlying (ρ.t 22)=some (TypeDesc.slice (ρ.t 25))
 i25:(P.info? (ρ.t 25)).map (fun i=>(i.size,i.bytes,i.zero))=some (4,32,some (.agg #[.int .i64 0,.int .i64 0,.int .i64 0,.int .i64 0]))
variable {P:Program} {ρ:Ren}
set_option maxHeartbeats 2000000 in
set_option maxRecDepth 100000 in
theorem tE(L:GrowAt P ρ)(base:Option Addr)(l c n:Nat)(w:World)(hlc:l<=c)(hc63:c<=9223372036854775807)(hn63:n<=9223372036854775807)(hroom:l+n<=c) :
  Calls P (ρ.f 4) #[.slice base l c,.int .i64 n] w fun e w'=>e=.returned (.slice base l c)/\w'=w:=by
 have mixed:=L.mixed
 have t3:=L.t3;have u3:=run_underlying L.t3;have t4:=L.t4;have u4:=run_underlying L.t4;have t22:=L.t22;have u22:=run_underlying L.t22
 obtain⟨_,_,FG⟩:=L.f4
 have h1:¬ ((n:Int)<0):=by omega
 have h2:wrap64 ((c:Int)-(l:Int))=(c:Int)-(l:Int):=by unfold wrap64;omega
 have h3:wrap64 ((n:Int)-((c:Int)-(l:Int)))=(n:Int)-((c:Int)-(l:Int)):=by unfold wrap64;omega
 have h4:¬ ((n:Int)-((c:Int)-(l:Int))>0):=by omega
 go_enter FG,Body8.n4_ntmps ρ
 go_wp2
 go_ret
 exact⟨rfl,rfl⟩
set_option maxHeartbeats 4000000 in
set_option maxRecDepth 100000 in
theorem tG(L:GrowAt P ρ)(i0:TypeInfo)(z:Value)(hi0:P.info? (ρ.t 25)=some i0)(hz0:i0.zero=some z)(hs0:0<i0.size)
  (base:Option Addr) (l c n:Nat) (cs:List Value) (w:World) (hlc:l<=c) (hroom:c<l+n) (hbig:(l+n)*i0.bytes<=140737488355328) (h63:l+n<=4611686018427387904)
  (hcl:cs.length=c*i0.size) (hnil:base=none->c=0) (hcs:∀ a,base=some a->∀ j v,cs[j]?=some v->w.cell? (a.add j)=some v) :
  Calls P (ρ.f 4) #[.slice base l c,.int .i64 n] w fun e w' =>
   e=.returned (.slice (some ⟨w.heap.size,0,none⟩) l (grownCap w (l+n) c (ρ.t 25))) ∧
   w'=w.drew.alloc (.cells (cs.toArray++Builtin.zeroCells z.cells (l+n-c)++Builtin.zeroCells z.cells (grownCap w (l+n) c (ρ.t 25)-(l+n))) (ρ.t 25)):=by
 have mixed:=L.mixed
 have t3:=L.t3;have u3:=run_underlying L.t3;have t4:=L.t4;have u4:=run_underlying L.t4;have t22:=L.t22;have u22:=run_underlying L.t22
 have tt22:=L.t22;have tt3:=L.t3
 obtain⟨_,_,FG⟩:=L.f4
 have h1:¬ ((n:Int)<0):=by omega
 have h2:wrap64 ((c:Int)-(l:Int))=(c:Int)-(l:Int):=by unfold wrap64;omega
 have h3:wrap64 ((n:Int)-((c:Int)-(l:Int)))=(n:Int)-((c:Int)-(l:Int)):=by unfold wrap64;omega
 have h4:(n:Int)-((c:Int)-(l:Int))>0:=by omega
 have z25:∀ w,(Go.sizeOf (ρ.t 25)).run P w=.ok i0.size w:=fun w=>by simp[Go.sizeOf,typeInfo,hi0]
 have hck:c+(l+n-c)=l+n:=by omega
 have hold:(Builtin.firstCells i0.size c (.slice base c c)).run P w.drew=.ok cs.toArray w.drew:=by
  cases base with
  | none =>
   have h0:=hnil rfl
   subst h0
   have hc0:cs=[]:=List.length_eq_zero_iff.1 (by simpa using hcl)
   rw[hc0]
   exact run_firstCells_none w.drew i0.size 0 0 0
  | some a=>exact run_firstCells_some w.drew i0.size c a c c cs hcl (fun j v hj=>hcs a rfl j v hj)
 have hrz:∀ ty,(Builtin.append_ #[(ρ.t 22),(ρ.t 3)] ty #[.slice base c c,.int .i64 ((n:Int)-((c:Int)-(l:Int)))]).run P w =
   .ok (.slice (some ⟨w.heap.size,0,none⟩) (l+n) (grownCap w (l+n) c (ρ.t 25))) (w.drew.alloc (.cells (cs.toArray++Builtin.zeroCells z.cells (l+n-c)++Builtin.zeroCells z.cells (grownCap w (l+n) c (ρ.t 25)-(l+n))) (ρ.t 25))):=fun ty=>by
  have h:=Lib.run_append_grow_zeros w (ρ.t 22) (ρ.t 3) ty (ρ.t 25) i0 z .i64 .i64 tt22 tt3 hi0 hz0 base c c cs hold (l+n-c) (by omega) hs0 (by omega) (by omega)
   (by have:(l+n-c)*i0.bytes<=(l+n)*i0.bytes:=Nat.mul_le_mul_right _ (by omega)
       omega)
   (by rw[hck];exact growslice_fits hroom hbig)
  rw[hck]at h
  rw[show (n:Int)-((c:Int)-(l:Int))=((l+n-c:Nat):Int) by omega]
  exact h
 have hGn:l+n<=grownCap w (l+n) c (ρ.t 25):=grownCap_ge w _ _ _
 obtain⟨G,hG⟩:∃ G,G=grownCap w (l+n) c (ρ.t 25):=⟨_,rfl⟩
 rw[<-hG]at hrz hGn ⊢
 have hG63:G<=9223372036854775807:=by
  have:=grownCap_le_maxLen w (l+n) c (ρ.t 25) (by unfold maxLen;omega)
  rw[<-hG]at this
  unfold maxLen at this
  omega
 clear hold hck hG hcs hcl L tt22 tt3
 go_enter FG,Body8.n4_ntmps ρ
 cases base with
 | none =>
  have h0:=hnil rfl
  subst h0
  obtain rfl:l=0:=by omega
  go_wp2_with (at_builtin;refine Lib.wpList_append_run _ rfl _ _ _ _ rfl _ _ rfl rfl _ _ (hrz _) ?_)
  all_goals (go_ret;exact⟨rfl,rfl⟩)
 | some a =>
  obtain⟨ab,ao,asp⟩:=a
  go_wp2_with (at_builtin;refine Lib.wpList_append_run _ rfl _ _ _ _ rfl _ _ rfl rfl _ _ (hrz _) ?_)
  all_goals (go_ret;exact⟨rfl,rfl⟩)
def gA(e:Nat):Con:=⟨[.own false [.arr e row4] [.list] false,.ro false [.int .i64]],[⟨false,[.arr e row4],[.list],false⟩]⟩
theorem Fg(L:GrowAt P ρ)(hsm:eK (ρ.t 25)=true):Has P (ρ.f 4) (gA (ρ.t 25)) pS:=by
 refine⟨L.f4.enters rfl,?_⟩
 intro w M cs vs X hM hp hnd hlt rs hφ
 simp only[gA,iw]at hp
 obtain⟨c1,c2,v,vs',X1,X2,rfl,rfl,rfl,hp1,c3,c4,v2,vs2,X3,X4,rfl,rfl,rfl,hp2,rfl,rfl,rfl⟩:=hp
 obtain⟨rfl,n,rfl,rfl⟩:=BA hp2
 rw[pD]at hp1
 obtain⟨hk,us,hs,hv⟩:=hp1
 have hv:us=[v]:=hv
 subst hv
 rw[shR]at hs
 obtain⟨c,cs',v',vs',Y1,Y2,rfl,e1,rfl,hc,hn⟩:=hs
 rw[shR]at hn
 obtain⟨rfl,rfl,rfl⟩:=hn
 simp only[List.cons.injEq,and_true]at e1
 subst e1
 rw[shC]at hc
 obtain⟨es,vals,X',rfl,rfl,hown,hrows,_,hL⟩:=hc
 have hown:=hown.own hsm
 have hX':=mJ rfl hrows
 subst hX'
 simp only[List.append_nil,List.cons_append,List.nil_append]at hφ
 cases es with
 | cons a tl=>simp[pS]at hφ
 | nil =>
 simp only[pS]at hφ
 split at hφ
 case h_2=>cases hφ
 rename_i hc
 simp only[Bool.and_eq_true,decide_eq_true_eq]at hc
 obtain⟨h0,h1⟩:=hc
 simp only[Option.some.injEq]at hφ
 subst hφ
 obtain⟨n,rfl⟩:∃ n':Nat,n=n':=⟨n.toNat,by omega⟩
 obtain⟨i0,hi0,hz1,hby,hzero⟩:∃ i0,P.info? (ρ.t 25)=some i0/\i0.size=4/\i0.bytes=32/\i0.zero=some (.agg #[.int .i64 0,.int .i64 0,.int .i64 0,.int .i64 0]):=by
  have h:=L.i25
  simp only[Option.map_eq_some_iff,Prod.mk.injEq]at h
  obtain⟨i0,h1,h2,h3,h4⟩:=h
  exact⟨i0,h1,h2,h3,h4⟩
 have hv0:vals=[]:=List.length_eq_zero_iff.1 (by have:=hown.1;simpa using this)
 subst hv0
 have fin:∀(w':World) (v':Value) (Xn:List Nat),w'.os=w.os->w'.tape=w.tape->w'.output=w.output->w.heap.size<=w'.heap.size ->
   (∀ b,b<w.heap.size->w'.heap[b]?=w.heap[b]?)->w'.ownsRow 0 (ρ.t 25) 4 v' 0 []->(blk v').toList=Xn->Xn.Nodup->(∀ b∈Xn,¬ M b/\b<w'.heap.size/\(w.heap.size<=b\/b∈(blk v).toList)) ->
   ∃(M':Nat->Prop) (rvs:List Value) (r1 r2:List C) (Xa Xb:List Nat),Ending.returned v'=.returned (rj rvs)/\[C.list []]=r1++r2/\w'.os=w.os/\w'.tape=w.tape/\w'.output=w.output/\w.heap.size<=w'.heap.size ∧
   (∀ b,b<w.heap.size->b∉((blk v).toList++[]++[]++([]++[]))->w'.heap[b]?=w.heap[b]?)/\(∀ b,M b->M' b)/\(∀ b,M' b->b<w'.heap.size/\(M b\/w.heap.size<=b\/b∈((blk v).toList++[]++[]++([]++[])))) ∧
   eM w' M' (gA (ρ.t 25)).res r1 rvs Xa/\dD w w' M' (gA (ρ.t 25)).args [v,.int .i64 (n:Int)] r2 Xb/\(Xa++Xb).Nodup/\(∀ b∈Xa++Xb,¬ M' b/\b<w'.heap.size/\(w.heap.size<=b\/b∈((blk v).toList++[]++[]++([]++[])))):=by
  intro w' v' Xn a1 a2 a3 a4 a5 a6 a7 a8 a9
  refine⟨M,[v'],[.list []],[],Xn,[],rfl,rfl,a1,a2,a3,a4,fun b hb _=>a5 b hb,fun b hb=>hb,fun b hb=>⟨Nat.lt_of_lt_of_le (hM b hb).1 a4,.inl hb⟩,?_,?_,by simpa using a8,fun b hb=>?_⟩
  ·simp only[gA,eM]
   refine⟨[.list []],[],v',[],Xn,[],rfl,rfl,by simp,rfl,?_,rfl,rfl,rfl⟩
   simp only[dO]
   refine⟨[v'],?_,rfl⟩
   rw[shR]
   refine⟨_,[],v',[],Xn,[],rfl,rfl,by simp,?_,by rw[shR];exact⟨rfl,rfl,rfl⟩⟩
   rw[shC]
   exact⟨[],[],[],rfl,by simp[a7],.inl a6,rfl,by decide,by simp⟩
  ·simp only[gA,dD,pE]
   exact⟨_,_,[],[],[],[],rfl,rfl,rfl,⟨rfl,rfl⟩,_,_,[],[],[],[],rfl,rfl,rfl,⟨rfl,rfl⟩,rfl,rfl,rfl⟩
  ·simp only[List.append_nil]at hb
   obtain⟨b1,b2,b3⟩:=a9 b hb
   exact⟨b1,b2,b3.imp id (fun h=>by simpa using h)⟩
 have zl:∀ k,(Builtin.zeroCells (Value.agg #[.int .i64 0,.int .i64 0,.int .i64 0,.int .i64 0]).cells k).size=k*4:=fun k=>by
  have:=pV k
  simpa using this
 have made:∀(cs:List Value) (c:Nat),cs.length=c*4->c<=n ->
   (w.drew.alloc (.cells (cs.toArray++Builtin.zeroCells (Value.agg #[.int .i64 0,.int .i64 0,.int .i64 0,.int .i64 0]).cells (0+n-c)++Builtin.zeroCells (Value.agg #[.int .i64 0,.int .i64 0,.int .i64 0,.int .i64 0]).cells (grownCap w (0+n) c (ρ.t 25)-(0+n))) (ρ.t 25))).ownsRow 0 (ρ.t 25) 4 (.slice (some ⟨w.heap.size,0,none⟩) 0 (grownCap w (0+n) c (ρ.t 25))) 0 []:=fun cs c hl hc=>by
  have hge:=grownCap_ge w (0+n) c (ρ.t 25)
  refine World.ownsRow_made w.drew _ _ (Nat.zero_le _) (grownCap_le_maxLen w (0+n) c (ρ.t 25) (by unfold maxLen;omega)) ?_
  simp only[Array.size_append,zl,List.size_toArray,hl]
  omega
 have heapA:∀(o:Obj) (b:Nat),b<w.heap.size->(w.drew.alloc o).heap[b]?=w.heap[b]?:=fun o b hb=>heap_alloc_old w.drew o hb
 have sizeA:∀(o:Obj),(w.drew.alloc o).heap.size=w.heap.size+1:=fun o=>World.size_alloc w.drew o
 rcases hown.2 with ⟨rfl,_⟩|⟨g,cap,cur,rfl,_,hg,hcn,hcm,hsz,htake⟩
 ·by_cases hn0:n=0
  ·subst hn0
   refine(tE L none 0 0 0 w (by omega) (by omega) (by omega) (by omega)).mono ?_
   rintro en w' ⟨rfl,rfl⟩
   exact fin w' (.slice none 0 0) [] rfl rfl rfl (Nat.le_refl _) (fun _ _=>rfl) (World.ownsRow_nil w' 0 _ 4) rfl (by simp) (by simp)
  ·refine(tG L i0 _ hi0 hzero (by omega) none 0 0 n [] w (by omega) (by omega) (by rw[hby];omega) (by omega) (by simp) (fun _=>rfl) (by simp)).mono ?_
   rintro en w' ⟨rfl,rfl⟩
   refine fin _ _ [w.heap.size] rfl rfl rfl (by rw[sizeA];omega) (heapA _) (made [] 0 (by simp) (by omega)) rfl (by simp) ?_
   intro b hb
   simp only[List.mem_singleton]at hb
   subst hb
   exact⟨fun h=>absurd (hM _ h).1 (Nat.lt_irrefl _),by rw[sizeA];omega,.inl (Nat.le_refl _)⟩
 ·have hsz:cur.size=cap*4:=hsz
  have hblk:(blk (.slice (some ⟨g,0,none⟩) 0 cap)).toList=[g]:=rfl
  by_cases hroom:n<=cap
  ·refine(tE L (some ⟨g,0,none⟩) 0 cap n w (by omega) (by unfold maxLen at hcm;omega) (by omega) (by omega)).mono ?_
   rintro en w' ⟨rfl,rfl⟩
   refine fin w' (.slice (some ⟨g,0,none⟩) 0 cap) [g] rfl rfl rfl (Nat.le_refl _) (fun _ _=>rfl) ⟨by simp,.inr ⟨g,cap,cur,rfl,Nat.zero_le _,hg,hcn,hcm,hsz,by simp⟩⟩ rfl (by simp) ?_
   intro b hb
   simp only[List.mem_singleton]at hb
   subst hb
   exact⟨fun h=>(hM _ h).2 (by simp[hblk]),hlt _ (by simp[hblk]),.inr (by simp[hblk])⟩
  ·refine(tG L i0 _ hi0 hzero (by omega) (some ⟨g,0,none⟩) 0 cap n cur.toList w (by omega) (by omega) (by rw[hby];omega) (by omega) (by simp[hsz,hz1]) (fun h=>by cases h) (fun a ha j v hj=>?_)).mono ?_
   ·simp only[Option.some.injEq]at ha
    subst ha
    rw[show (⟨g,0,none⟩:Addr).add j=⟨g,j,none⟩ by simp[Addr.add_lit],pB hg]
    simpa using hj
   ·rintro en w' ⟨rfl,rfl⟩
    refine fin _ _ [w.heap.size] rfl rfl rfl (by rw[sizeA];omega) (heapA _) (made cur.toList cap (by simp[hsz]) (by omega)) rfl (by simp) ?_
    intro b hb
    simp only[List.mem_singleton]at hb
    subst hb
    exact⟨fun h=>absurd (hM _ h).1 (Nat.lt_irrefl _),by rw[sizeA];omega,.inl (Nat.le_refl _)⟩
end Dx
