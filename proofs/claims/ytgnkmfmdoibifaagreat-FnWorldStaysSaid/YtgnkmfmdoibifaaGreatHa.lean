import Derived.Test.YtgnkmfmdoibifaaGreatProg
import Derived.Test.YtgnkmfmdoibifaaGreatXe
import Derived.Test.YtgnkmfmdoibifaaGreatYb
set_option linter.all false
namespace Dx
open Go
def tab:List (Nat×TI) :=
 [(3,⟨.int .i64,1,false,[.int .i64 (.n 0)],8⟩),
   (4,⟨.bool,1,false,[.bool (.b false)],1⟩),
   (5,⟨.int .u8,1,false,[.int .u8 (.n 0)],1⟩),
   (9,⟨.str,1,false,[.str (.s ⟨#[]⟩)],16⟩),
   (22,⟨.slice 5,1,false,[.nil],24⟩),
   (23,⟨.slice 3,1,false,[.nil],24⟩),
   (24,⟨.slice 56,1,false,[.nil],24⟩),
   (27,⟨.slice 88,1,false,[.nil],24⟩),
   (29,⟨.struct [(0,1,false),(1,1,false)],2,true,[.nil,.int .i64 (.n 0)],32⟩),
   (30,⟨.slice 45,1,false,[.nil],24⟩),
   (32,⟨.struct [(0,1,false),(1,2,true),(3,1,false)],4,true,[.bool (.b false),.nil,.int .i64 (.n 0),.nil],64⟩),
   (33,⟨.slice 40,1,false,[.nil],24⟩),
   (35,⟨.struct [(0,4,true),(4,1,false),(5,1,false)],6,true,[.bool (.b false),.nil,.int .i64 (.n 0),.nil,.nil,.nil],112⟩),
   (40,⟨.struct [(0,1,false),(1,1,false),(2,1,false),(3,2,true)],5,true,[.int .i64 (.n 0),.bool (.b false),.int .i64 (.n 0),.nil,.int .i64 (.n 0)],56⟩),
   (41,⟨.slice 48,1,false,[.nil],24⟩),
   (45,⟨.struct [(0,1,false),(1,1,false),(2,1,false),(3,1,false)],4,true,[.int .i64 (.n 0),.int .i64 (.n 0),.int .i64 (.n 0),.int .i64 (.n 0)],32⟩),
   (48,⟨.struct [(0,1,false),(1,1,false)],2,true,[.nil,.int .i64 (.n 0)],32⟩),
   (50,⟨.struct [(0,1,false),(1,1,false)],2,true,[.int .i64 (.n 0),.int .i64 (.n 0)],16⟩),
   (51,⟨.slice 50,1,false,[.nil],24⟩),
   (53,⟨.struct [(0,1,false),(1,1,false)],2,true,[.int .i64 (.n 0),.nil],32⟩),
   (56,⟨.struct [(0,1,false),(1,1,false),(2,1,false),(3,1,false)],4,true,[.int .i64 (.n 0),.int .i64 (.n 0),.int .i64 (.n 0),.nil],48⟩),
   (88,⟨.struct [(0,1,false),(1,1,false),(2,1,false)],3,true,[.int .i64 (.n 0),.int .i64 (.n 0),.nil],40⟩),
   (90,⟨.struct [(0,1,false),(1,1,false)],2,true,[.nil,.int .i64 (.n 0)],32⟩),
   (115,⟨.arr 2 3,2,true,[.int .i64 (.n 0),.int .i64 (.n 0)],16⟩),
   (116,⟨.map 3 115,1,false,[.any],8⟩)]
def tab':Tab:=v7 tab
theorem FM:bO Proofs.Tryz.prog (v7 tab):=CP (by kernel_rfl)
end Dx
namespace Dx
open Go Go.Proofs
def eqs:List (Nat×Nat):=[(45,4),(50,2)]
theorem FN:zc Tryz.prog (ya eqs):=Hq (by kernel_rfl)
theorem sR:Tryz.prog.follows .mixedOrders=true:=by kernel_rfl
def bq:List (Nat×List Sh):=[(40,[.val,.val,.val,(.arr 88 [.val,.val,.val]),.val])]
def rowsD:List (Nat×List Sh):=[]
def rn(fn:Func):Code:=match fn.body with
 | some b=>b
 | none=>.skip
def bs:List (Nat×Bool×Nat×Nat):=[]
set_option maxRecDepth 100000 in
theorem bs_ok:∀ p∈bs,vQ Tryz.prog p.1 p.2:=by
 intro p hp
 simp only[bs,List.mem_cons,List.not_mem_nil,or_false]at hp
def gE(R:List (Nat×List Sh))(tr:Bool)(E:List (Nat×Nat×Con)):Env:=⟨v7 tab,ya eqs,getR R,Bs E,tr,CQ bs⟩
abbrev hE:How:=⟨aC [],aC [],aC []⟩
abbrev sI(n:Nat):SV:=.int .i64 (.v n)
theorem fo{G:Env}{Φ:Phi}(hG:EnvOk Tryz.prog G Φ){f:FuncId}(fn:Func){c:Con}(H:How){t:Tree}(h:(Tryz.prog.funcs[f]?,fn.body,fn.name== "runtime.NumGoroutine",fnT G H c fn (rn fn))=(some fn,some (rn fn),false,t)):Has Tryz.prog f c (fun cs=>ai (den Φ t cs)):=by
 simp only[Prod.mk.injEq]at h
 exact fn_ok hG h.1 h.2.1 h.2.2.1 h.2.2.2
theorem eo{E:Nat->List (Nat×Con)}{R:Rows}{tr:Bool}{Φ:Phi}(h:∀ f c,c∈E f->Has Tryz.prog f c.2 (Φ c.1)):EnvOk Tryz.prog ⟨v7 tab,ya eqs,R,E,tr,CQ bs⟩ Φ:=⟨FM,FN,h,sR,yb bs_ok⟩
theorem fp{E:List (Nat×Nat×Con)}{R:List (Nat×List Sh)}{tr:Bool}{Φ:Phi}(m:xi Tryz.prog Φ E){f:FuncId}(fn:Func){c:Con}(H:How){t:Tree}(h:(Tryz.prog.funcs[f]?,fn.body,fn.name== "runtime.NumGoroutine",fnT (gE R tr E) H c fn (rn fn))=(some fn,some (rn fn),false,t)):Has Tryz.prog f c (fun cs=>ai (den Φ t cs)):=fo (eo (qD (m6 m))) fn H h
abbrev v5:List Sh:=[.val,.val,.val,.val,.val]
abbrev v4:List Sh:=[.val,.val,.val,.val]
abbrev v3:List Sh:=[.val,.val,.val]
abbrev kW:List CK:=[.bool,.list,kI,.list,.list,.list]
abbrev kD:List CK:=[.bool,.list,kI,.list]
abbrev kH:List CK:=[kI,.bool,kI,.list,kI]
abbrev kJ:List CK:=[kI,kI,kI,kI]
def c_ex:Con:=⟨[.own false [.val] [.list] false],[⟨false,[.val,.val],[.list,kI],true⟩]⟩
theorem FO:Has Tryz.prog 30 c_ex tN:=fp (R:=bq) (tr:=false) (E:=[]) (Φ:=ph []) (t:=t_ex) trivial Tryz.f30 hE (by kernel_rfl)
def Cq:Con:=⟨[.ptr [.val,.val] [.list,kI],.ro false [kI]],[⟨false,[.val],[kI],false⟩]⟩
theorem rp:Has Tryz.prog 32 Cq cj:=fp (R:=bq) (tr:=false) (E:=[]) (Φ:=ph []) (t:=t_cs) trivial Tryz.f32 hE (by kernel_rfl)
def c_di:Con:=⟨[.ptr [.val,.val] [.list,kI]],[⟨false,[(.arr 3 [.val])],[.list],false⟩]⟩
theorem FP:Has Tryz.prog 54 c_di tO:=fp (R:=bq) (tr:=false) (E:=[(32,0,Cq)]) (Φ:=CR) (t:=t_di) ⟨rp,trivial⟩ Tryz.f54 hE (by kernel_rfl)
def c_ed:Con:=⟨[],[⟨true,[.val,(.arr 88 v3),.val,(.arr 45 v4)],kD,false⟩]⟩
theorem FQ:Has Tryz.prog 71 c_ed tP:=fp (R:=bq) (tr:=false) (E:=[]) (Φ:=ph []) (t:=t_ed) trivial Tryz.f71 hE (by kernel_rfl)
def sS:Con:=⟨[.ro false [kI],.ro false [kI],.ro false [kI]],[⟨false,[.val],[.bool],false⟩]⟩
theorem gJ:Has Tryz.prog 100 sS cK:=fp (R:=bq) (tr:=false) (E:=[]) (Φ:=ph []) (t:=t_fz) trivial Tryz.f100 hE (by kernel_rfl)
def c_dh:Con:=⟨[.ro false [kI]],[⟨true,[.val,(.arr 50 [.val,.val])],[kI,.list],false⟩,⟨false,[.val],[.bool],false⟩]⟩
theorem An:Has Tryz.prog 99 c_dh oC:=fp (R:=bq) (tr:=false) (E:=[(100,0,sS)]) (Φ:=CS) (t:=t_dh) ⟨gJ,trivial⟩ Tryz.f99 hE (by kernel_rfl)
def c_df:Con:=⟨[.ro false [kI],.ro false [kI]],[⟨true,[.val,.val,.val,(.arr 88 v3),.val],kH,false⟩,⟨false,[.val],[.bool],false⟩]⟩
theorem FR:Has Tryz.prog 72 c_df tQ:=fp (R:=bq) (tr:=false) (E:=[(99,0,c_dh),(100,1,sS)]) (Φ:=CT) (t:=t_df) ⟨An,gJ,trivial⟩ Tryz.f72 hE (by kernel_rfl)
def c_dp:Con:=⟨[.ro false [.list]],[⟨true,[.val,(.arr 88 v3),.val,(.arr 45 v4),(.arr 40 [.val,.val,.val,(.arr 88 v3),.val]),(.arr 45 v4)],kW,false⟩,⟨false,[.val],[.bool],false⟩]⟩
def h_dp:How:=⟨aC [(0,⟨[kI,.list],[(3,(.bool (.b false))),(5,(sI 0))],[(4,.cells [(.bool (.v 1001)),(.sl 1),(sI 1003),(.sl 2),(.sl 1000),(.sl 3)]),(1000,.arr 40 [.val,.val,.val,(.arr 88 v3),.val] (.v 1))],[],1⟩)],
 aC [],
 aC []⟩
theorem Ao:Has Tryz.prog 35 c_dp oD:=fp (R:=bq) (tr:=false) (E:=[(71,0,c_ed),(72,1,c_df)]) (Φ:=CU) (t:=t_dp) ⟨FQ,FR,trivial⟩ Tryz.f35 h_dp (by kernel_rfl)
def c_fc:Con:=⟨[.ro false [.list]],[⟨false,[.val],[.bool],false⟩]⟩
def h_fc:How:=⟨aC [(0,⟨[kI,kI],[(2,(.bool (.b false))),(3,(sI 0)),(4,(sI 1))],[],[],0⟩)],
 aC [],
 aC []⟩
theorem FS:Has Tryz.prog 125 c_fc tR:=fp (R:=bq) (tr:=false) (E:=[(100,0,sS)]) (Φ:=CV) (t:=t_fc) ⟨gJ,trivial⟩ Tryz.f125 h_fc (by kernel_rfl)
def E4:Con:=⟨[.ro true [kI,kI,.list]],[⟨false,[.val],[.bool],false⟩]⟩
theorem wW:Has Tryz.prog 101 E4 lf:=fp (R:=bq) (tr:=false) (E:=[(100,0,sS),(125,1,c_fc)]) (Φ:=CW) (t:=t_ft) ⟨gJ,FS,trivial⟩ Tryz.f101 hE (by kernel_rfl)
def c_ff:Con:=⟨[.ro false [.list],.ro true [kI,kI,.list]],[⟨false,[.val],[.bool],false⟩]⟩
theorem Ap:Has Tryz.prog 126 c_ff oE:=fp (R:=bq) (tr:=false) (E:=[]) (Φ:=ph []) (t:=t_ff) trivial Tryz.f126 hE (by kernel_rfl)
def jw:Con:=⟨[.own false [(.arr 48 [.val,.val])] [.list] false,.ro true [kI,kI,.list]],[⟨false,[(.arr 48 [.val,.val])],[.list],false⟩]⟩
theorem lU:Has Tryz.prog 134 jw db:=fp (R:=bq) (tr:=false) (E:=[]) (Φ:=ph []) (t:=jq) trivial Tryz.f134 hE (by kernel_rfl)
def c_fu:Con:=⟨[.ro false [.list]],[⟨false,[.val],[.list],false⟩,⟨false,[.val],[.bool],false⟩]⟩
def h_fu:How:=⟨aC [(0,⟨[kI,.list],[(2,.nil),(3,(.bool (.b false))),(4,(.sl 1000)),(5,(sI 0))],[(1000,.arr 48 [.val,.val] (.v 1))],[0],1⟩)],
 aC [],
 aC []⟩
theorem FT:Has Tryz.prog 117 c_fu oF:=fp (R:=bq) (tr:=false) (E:=[(101,0,E4),(126,1,c_ff),(134,2,jw)]) (Φ:=CX) (t:=t_fu) ⟨wW,Ap,lU,trivial⟩ Tryz.f117 h_fu (by kernel_rfl)
def y7:Con:=⟨[.ro true kD,.ro false [.bool]],[⟨false,[.val],[.list],false⟩]⟩
theorem lD:Has Tryz.prog 91 y7 ep:=fp (R:=bq) (tr:=false) (E:=[(117,0,c_fu)]) (Φ:=CY) (t:=t_dd) ⟨FT,trivial⟩ Tryz.f91 hE (by kernel_rfl)
def c_fx:Con:=⟨[.own true [(.arr 88 v3),.val] [.list,kI] false,.own true v3 [kI,kI,.list] false],[⟨true,[(.arr 88 v3),.val],[.list,kI],false⟩,⟨false,[.val],[.bool],false⟩]⟩
theorem Aq:Has Tryz.prog 127 c_fx oG:=fp (R:=bq) (tr:=false) (E:=[]) (Φ:=ph []) (t:=t_fx) trivial Tryz.f127 hE (by kernel_rfl)
def c_ds:Con:=⟨[.own true [.val,(.arr 88 v3),.val,(.arr 45 v4)] kD false,.own true v3 [kI,kI,.list] false],[⟨true,[.val,(.arr 88 v3),.val,(.arr 45 v4)],kD,false⟩,⟨false,[.val],[.bool],false⟩]⟩
theorem Ar:Has Tryz.prog 102 c_ds dB:=fp (R:=bq) (tr:=false) (E:=[(91,0,y7),(126,1,c_ff),(127,2,c_fx)]) (Φ:=CZ) (t:=t_ds) ⟨lD,Ap,Aq,trivial⟩ Tryz.f102 hE (by kernel_rfl)
def Cr:Con:=⟨[.ro false [.list],.ro true kJ],[⟨false,[.val],[.bool],false⟩]⟩
def h_eq:How:=⟨aC [(0,⟨[kI],[(4,(.bool (.b false))),(5,(sI 0))],[],[],0⟩)],
 aC [],
 aC []⟩
theorem rq:Has Tryz.prog 118 Cr iP:=fp (R:=bq) (tr:=false) (E:=[]) (Φ:=ph []) (t:=t_eq) trivial Tryz.f118 h_eq (by kernel_rfl)
def c_dn:Con:=⟨[.ro true kD],[⟨false,[.val],[.list],false⟩]⟩
def h_dn:How:=⟨aC [(0,⟨[kI,.list],[(3,(.sl 1000)),(5,(sI 0))],[(1000,.arr 45 v4 (.v 1))],[1],1⟩),(2,⟨[kI,.list],[(3,(.sl 1000)),(6,(sI 0))],[(1000,.arr 45 v4 (.v 1))],[2],1⟩)],
 aC [],
 aC []⟩
theorem As:Has Tryz.prog 92 c_dn lX:=fp (R:=bq) (tr:=false) (E:=[(91,0,y7),(118,1,Cr)]) (Φ:=C0) (t:=t_dn) ⟨lD,rq,trivial⟩ Tryz.f92 h_dn (by kernel_rfl)
def c_fj:Con:=⟨[.own true [.val,(.arr 88 v3),.val,(.arr 45 v4),(.arr 40 [.val,.val,.val,(.arr 88 v3),.val]),(.arr 45 v4)] kW false,.ro true kJ],[⟨true,[.val,(.arr 88 v3),.val,(.arr 45 v4),(.arr 40 [.val,.val,.val,(.arr 88 v3),.val]),(.arr 45 v4)],kW,false⟩]⟩
theorem Au:Has Tryz.prog 103 c_fj lY:=fp (R:=bq) (tr:=false) (E:=[]) (Φ:=ph []) (t:=t_fj) trivial Tryz.f103 hE (by kernel_rfl)
def c_es:Con:=⟨[.own true [.val,(.arr 88 v3),.val,(.arr 45 v4),(.arr 40 [.val,.val,.val,(.arr 88 v3),.val]),(.arr 45 v4)] kW false,.ro true [kI,kI,kI,.list]],[⟨true,[.val,(.arr 88 v3),.val,(.arr 45 v4),(.arr 40 [.val,.val,.val,(.arr 88 v3),.val]),(.arr 45 v4)],kW,false⟩]⟩
theorem FU:Has Tryz.prog 73 c_es tS:=fp (R:=bq) (tr:=false) (E:=[(91,0,y7),(101,1,E4),(102,2,c_ds),(100,3,sS),(92,4,c_dn),(103,5,c_fj)]) (Φ:=C1) (t:=t_es) ⟨lD,wW,Ar,gJ,As,Au,trivial⟩ Tryz.f73 hE (by kernel_rfl)
def c_eu:Con:=⟨[.own true [.val,(.arr 88 v3),.val,(.arr 45 v4),(.arr 40 [.val,.val,.val,(.arr 88 v3),.val]),(.arr 45 v4)] kW false,.ro false [kI]],[⟨true,[.val,(.arr 88 v3),.val,(.arr 45 v4),(.arr 40 [.val,.val,.val,(.arr 88 v3),.val]),(.arr 45 v4)],kW,false⟩]⟩
theorem FV:Has Tryz.prog 104 c_eu qJ:=fp (R:=bq) (tr:=false) (E:=[]) (Φ:=ph []) (t:=t_eu) trivial Tryz.f104 hE (by kernel_rfl)
def c_fg:Con:=⟨[.ro true kJ],[⟨false,[.val],[.bool],false⟩]⟩
theorem Av:Has Tryz.prog 143 c_fg oH:=fp (R:=bq) (tr:=false) (E:=[(100,0,sS)]) (Φ:=C2) (t:=t_fg) ⟨gJ,trivial⟩ Tryz.f143 hE (by kernel_rfl)
def c_fl:Con:=⟨[.ro true kD,.ro false [kI],.ro false [.list],.ro false [kI]],[⟨false,[.val],[.bool],false⟩]⟩
def h_fl:How:=⟨aC [(0,⟨[kI],[(8,(.bool (.b false))),(9,(sI 0))],[],[],0⟩)],
 aC [],
 aC []⟩
theorem FW:Has Tryz.prog 153 c_fl tT:=fp (R:=bq) (tr:=false) (E:=[(118,0,Cr)]) (Φ:=C3) (t:=t_fl) ⟨rq,trivial⟩ Tryz.f153 h_fl (by kernel_rfl)
def c_ez:Con:=⟨[.ro true kD,.ro false [kI],.ro false [.list],.ro false [kI]],[⟨false,[.val],[.bool],false⟩]⟩
def h_ez:How:=⟨aC [(0,⟨[kI],[(8,(.bool (.b false))),(9,(sI 0))],[],[],0⟩)],
 aC [],
 aC []⟩
theorem FX:Has Tryz.prog 154 c_ez lh:=fp (R:=bq) (tr:=false) (E:=[(118,0,Cr)]) (Φ:=C4) (t:=t_ez) ⟨rq,trivial⟩ Tryz.f154 h_ez (by kernel_rfl)
def c_cl:Con:=⟨[.own true [.val,(.arr 88 v3),.val,(.arr 45 v4)] kD false,.ro false [kI]],[⟨true,[.val,(.arr 88 v3),.val,(.arr 45 v4)],kD,false⟩]⟩
def h_cl:How:=⟨aC [],
 aC [(9,⟨[.bool],[(47,(.bool (.v 0)))],[],[],0⟩),(7,⟨[.bool],[(36,(.bool (.v 0)))],[],[],0⟩),(5,⟨[.bool],[(8,(.bool (.v 0)))],[],[],0⟩)],
 aC []⟩
theorem FY:Has Tryz.prog 144 c_cl qM:=fp (R:=bq) (tr:=false) (E:=[(91,0,y7),(153,1,c_fl),(154,2,c_ez),(102,3,c_ds)]) (Φ:=C5) (t:=t_cl) ⟨lD,FW,FX,Ar,trivial⟩ Tryz.f144 h_cl (by kernel_rfl)
def c_em:Con:=⟨[.own true [.val,(.arr 88 v3),.val,(.arr 45 v4)] kD false,.ro true kJ],[⟨true,[.val,(.arr 88 v3),.val,(.arr 45 v4)],kD,false⟩]⟩
theorem FZ:Has Tryz.prog 128 c_em tU:=fp (R:=bq) (tr:=false) (E:=[(143,0,c_fg),(91,1,y7),(118,2,Cr),(144,3,c_cl)]) (Φ:=C6) (t:=t_em) ⟨Av,lD,rq,FY,trivial⟩ Tryz.f128 hE (by kernel_rfl)
def c_ey:Con:=⟨[.ro true [kI,.list]],[⟨false,[.val],[kI],false⟩]⟩
def h_ey:How:=⟨aC [(0,⟨[kI,kI],[(3,(sI 0)),(4,(sI 1))],[],[],0⟩)],
 aC [],
 aC []⟩
theorem F0:Has Tryz.prog 156 c_ey tV:=fp (R:=bq) (tr:=false) (E:=[]) (Φ:=ph []) (t:=t_ey) trivial Tryz.f156 h_ey (by kernel_rfl)
def c_fs:Con:=⟨[.ro true [kI,.list],.ro true [kI,kI,.list]],[⟨false,[.val],[.bool],false⟩]⟩
theorem Aw:Has Tryz.prog 147 c_fs oI:=fp (R:=bq) (tr:=false) (E:=[(156,0,c_ey)]) (Φ:=C7) (t:=t_fs) ⟨F0,trivial⟩ Tryz.f147 hE (by kernel_rfl)
def kO:Con:=⟨[.own true [.val,(.arr 50 [.val,.val])] [kI,.list] false,.ro true [kI,kI,.list]],[⟨true,[.val,(.arr 50 [.val,.val])],[kI,.list],false⟩]⟩
theorem nY:Has Tryz.prog 158 kO du:=fp (R:=bq) (tr:=false) (E:=[]) (Φ:=ph []) (t:=kE) trivial Tryz.f158 hE (by kernel_rfl)
def c_ga:Con:=⟨[.ro false [kI],.ro false [.list]],[⟨true,[.val,.val],[kI,.list],false⟩,⟨false,[.val],[.bool],false⟩]⟩
def h_ga:How:=⟨aC [(0,⟨[kI,kI,.list],[(5,(.bool (.b false))),(8,(sI 0))],[(2,.cells [(sI 1),(.sl 1000)]),(1000,.arr 50 [.val,.val] (.v 2))],[1],1⟩)],
 aC [],
 aC []⟩
theorem F1:Has Tryz.prog 155 c_ga oJ:=fp (R:=bq) (tr:=false) (E:=[(99,0,c_dh),(101,1,E4),(147,2,c_fs),(158,3,kO)]) (Φ:=C8) (t:=t_ga) ⟨An,wW,Aw,nY,trivial⟩ Tryz.f155 h_ga (by kernel_rfl)
def c_dr:Con:=⟨[.ro true kH,.ro false [.bool]],[⟨true,[.val,.val],[kI,.list],false⟩]⟩
theorem F2:Has Tryz.prog 145 c_dr oK:=fp (R:=bq) (tr:=false) (E:=[(155,0,c_ga)]) (Φ:=C9) (t:=t_dr) ⟨F1,trivial⟩ Tryz.f145 hE (by kernel_rfl)
def c_fd:Con:=⟨[.ro true kJ],[⟨true,v3,[kI,kI,.list],false⟩]⟩
theorem F3:Has Tryz.prog 146 c_fd tW:=fp (R:=bq) (tr:=false) (E:=[]) (Φ:=ph []) (t:=t_fd) trivial Tryz.f146 hE (by kernel_rfl)
def c_ci:Con:=⟨[.ro true kH,.ro true kJ,.ro false [kI]],[⟨true,v4,kJ,false⟩,⟨false,[.val],[.bool],false⟩]⟩
def h_ci:How:=⟨aC [],
 aC [(6,⟨[.bool],[(28,(.bool (.v 0)))],[],[],0⟩),(4,⟨[.bool],[(15,(.bool (.v 0)))],[],[],0⟩)],
 aC []⟩
theorem F4:Has Tryz.prog 148 c_ci qP:=fp (R:=bq) (tr:=false) (E:=[]) (Φ:=ph []) (t:=t_ci) trivial Tryz.f148 h_ci (by kernel_rfl)
def c_ev:Con:=⟨[.own true [.val,.val,.val,(.arr 88 v3),.val] kH false,.ro true kJ],[⟨true,[.val,.val,.val,(.arr 88 v3),.val],kH,false⟩,⟨true,v4,kJ,false⟩,⟨false,[.val],[.bool],false⟩]⟩
theorem F5:Has Tryz.prog 129 c_ev tX:=fp (R:=bq) (tr:=false) (E:=[(143,0,c_fg),(145,1,c_dr),(146,2,c_fd),(147,3,c_fs),(127,4,c_fx),(148,5,c_ci)]) (Φ:=Da) (t:=t_ev) ⟨Av,F2,F3,Aw,Aq,F4,trivial⟩ Tryz.f129 hE (by kernel_rfl)
def c_ep:Con:=⟨[.own true [.val,(.arr 88 v3),.val,(.arr 45 v4),(.arr 40 [.val,.val,.val,(.arr 88 v3),.val]),(.arr 45 v4)] kW false,.ro true kJ],[⟨true,[.val,(.arr 88 v3),.val,(.arr 45 v4),(.arr 40 [.val,.val,.val,(.arr 88 v3),.val]),(.arr 45 v4)],kW,false⟩,⟨true,v4,kJ,false⟩,⟨false,[.val],[.bool],false⟩]⟩
theorem F6:Has Tryz.prog 105 c_ep tY:=fp (R:=bq) (tr:=false) (E:=[(128,0,c_em),(129,1,c_ev)]) (Φ:=Db) (t:=t_ep) ⟨FZ,F5,trivial⟩ Tryz.f105 hE (by kernel_rfl)
def c_fh:Con:=⟨[.own true [.val,(.arr 88 v3),.val,(.arr 45 v4),(.arr 40 [.val,.val,.val,(.arr 88 v3),.val]),(.arr 45 v4)] kW false,.ro true [kI,kI,kI,.list]],[⟨true,[.val,(.arr 88 v3),.val,(.arr 45 v4),(.arr 40 [.val,.val,.val,(.arr 88 v3),.val]),(.arr 45 v4)],kW,false⟩]⟩
theorem F7:Has Tryz.prog 74 c_fh oL:=fp (R:=bq) (tr:=false) (E:=[(100,0,sS),(104,1,c_eu),(103,2,c_fj),(105,3,c_ep)]) (Φ:=Dc) (t:=t_fh) ⟨gJ,FV,Au,F6,trivial⟩ Tryz.f74 hE (by kernel_rfl)
def c_dc:Con:=⟨[.own true [.val,(.arr 88 v3),.val,(.arr 45 v4),(.arr 40 [.val,.val,.val,(.arr 88 v3),.val]),(.arr 45 v4)] kW false,.ro false [kI]],[⟨true,[.val,(.arr 88 v3),.val,(.arr 45 v4),(.arr 40 [.val,.val,.val,(.arr 88 v3),.val]),(.arr 45 v4)],kW,false⟩]⟩
def h_dc:How:=⟨aC [],
 aC [(3,⟨[kI],[],[(4,.cells [(.bool (.v 1000)),(.sl 0),(sI 0),(.sl 1),(.sl 2),(.sl 3)])],[],0⟩)],
 aC []⟩
theorem F8:Has Tryz.prog 106 c_dc tZ:=fp (R:=bq) (tr:=false) (E:=[(100,0,sS)]) (Φ:=Dd) (t:=t_dc) ⟨gJ,trivial⟩ Tryz.f106 h_dc (by kernel_rfl)
def c_fk:Con:=⟨[.own true [(.arr 88 v3),.val] [.list,kI] false,.ro false [kI]],[⟨true,[(.arr 88 v3),.val],[.list,kI],false⟩]⟩
theorem Ax:Has Tryz.prog 108 c_fk oM:=fp (R:=bq) (tr:=true) (E:=[]) (Φ:=ph []) (t:=t_fk) trivial Tryz.f108 hE (by kernel_rfl)
def c_eb:Con:=⟨[.own true [.val,(.arr 88 v3),.val,(.arr 45 v4)] kD false,.ro false [kI]],[⟨true,[.val,(.arr 88 v3),.val,(.arr 45 v4)],kD,false⟩]⟩
theorem F9:Has Tryz.prog 107 c_eb t6:=fp (R:=bq) (tr:=false) (E:=[(108,0,c_fk)]) (Φ:=De) (t:=t_eb) ⟨Ax,trivial⟩ Tryz.f107 hE (by kernel_rfl)
def c_ef:Con:=⟨[.own true [.val,(.arr 88 v3),.val,(.arr 45 v4),(.arr 40 [.val,.val,.val,(.arr 88 v3),.val]),(.arr 45 v4)] kW false,.ro true [kI,kI,kI,.list]],[⟨true,[.val,(.arr 88 v3),.val,(.arr 45 v4),(.arr 40 [.val,.val,.val,(.arr 88 v3),.val]),(.arr 45 v4)],kW,false⟩]⟩
theorem Ga:Has Tryz.prog 75 c_ef oN:=fp (R:=bq) (tr:=false) (E:=[(100,0,sS),(106,1,c_dc),(107,2,c_eb),(108,3,c_fk)]) (Φ:=Df) (t:=t_ef) ⟨gJ,F8,F9,Ax,trivial⟩ Tryz.f75 hE (by kernel_rfl)
def c_fp:Con:=⟨[.own true [.val,(.arr 88 v3),.val,(.arr 45 v4),(.arr 40 [.val,.val,.val,(.arr 88 v3),.val]),(.arr 45 v4)] kW false,.ro true [kI,kI,kI,.list]],[⟨true,[.val,(.arr 88 v3),.val,(.arr 45 v4),(.arr 40 [.val,.val,.val,(.arr 88 v3),.val]),(.arr 45 v4)],kW,false⟩]⟩
def h_fp:How:=⟨aC [],
 aC [(5,⟨[.bool],[(7,(.bool (.v 0)))],[],[],0⟩)],
 aC []⟩
theorem Ay:Has Tryz.prog 36 c_fp li:=fp (R:=bq) (tr:=false) (E:=[(73,0,c_es),(74,1,c_fh),(75,2,c_ef)]) (Φ:=Dg) (t:=t_fp) ⟨FU,F7,Ga,trivial⟩ Tryz.f36 h_fp (by kernel_rfl)
def c_de:Con:=⟨[.ptr [.val,.val] [.list,kI],.ro true kW],[⟨true,v4,[kI,kI,kI,.list],false⟩]⟩
def h_de:How:=⟨aC [],
 aC [(25,⟨[.bool],[(77,(.bool (.v 0)))],[],[],0⟩),(17,⟨[.bool],[(52,(.bool (.v 0)))],[],[],0⟩),(9,⟨[.bool],[(32,(.bool (.v 0)))],[],[],0⟩),(6,⟨[.list,kI],[],[(0,.cells [(.view true (.v 0)),(sI 1)])],[],0⟩)],
 aC []⟩
theorem Gb:Has Tryz.prog 55 c_de qQ:=fp (R:=bq) (tr:=false) (E:=[(91,0,y7),(92,1,c_dn),(32,2,Cq)]) (Φ:=Dh) (t:=t_de) ⟨lD,As,rp,trivial⟩ Tryz.f55 h_de (by kernel_rfl)
def c_ek:Con:=⟨[.ptr [.val,.val] [.list,kI]],[⟨false,[(.arr 3 [.val])],[.list],false⟩,⟨false,[(.arr 56 v4)],[.list],false⟩,⟨true,[.val,(.arr 88 v3),.val,(.arr 45 v4),(.arr 40 [.val,.val,.val,(.arr 88 v3),.val]),(.arr 45 v4)],kW,false⟩]⟩
def h_ek:How:=⟨aC [(2,⟨[kI,.list,kI,.bool,kI,.list,.list,.list,.list,.list],[(8,(.sl 1000)),(11,(sI 0))],[(0,.cells [(.view true (.v 1)),(sI 2)]),(7,.cells [(.bool (.v 3)),(.sl 1001),(sI 4),(.sl 1002),(.sl 1003),(.sl 1004)]),(1000,.arr 56 v4 (.v 5)),(1001,.arr 88 v3 (.v 6)),(1002,.arr 45 v4 (.v 7)),(1003,.arr 40 [.val,.val,.val,(.arr 88 v3),.val] (.v 8)),(1004,.arr 45 v4 (.v 9))],[9,10,11,12,13],5⟩),(0,⟨[kI,.bool,kI,.list,.list,.list,.list,.list],[(8,(.sl 1000)),(29,(sI 0))],[(7,.cells [(.bool (.v 1)),(.sl 1001),(sI 2),(.sl 1002),(.sl 1003),(.sl 1004)]),(1000,.arr 56 v4 (.v 3)),(1001,.arr 88 v3 (.v 4)),(1002,.arr 45 v4 (.v 5)),(1003,.arr 40 [.val,.val,.val,(.arr 88 v3),.val] (.v 6)),(1004,.arr 45 v4 (.v 7))],[8,3,4,5,6],5⟩)],
 aC [(11,⟨[.bool,kI,.list,kI,.list,.list,.list,.list,.list],[(8,(.sl 1000))],[(7,.cells [(.bool (.v 0)),(.sl 1001),(sI 1),(.sl 1002),(.sl 1003),(.sl 1004)]),(0,.cells [(.view true (.v 2)),(sI 3)]),(1000,.arr 56 v4 (.v 4)),(1001,.arr 88 v3 (.v 5)),(1002,.arr 45 v4 (.v 6)),(1003,.arr 40 [.val,.val,.val,(.arr 88 v3),.val] (.v 7)),(1004,.arr 45 v4 (.v 8))],[8,3,4,5,6],5⟩)],
 aC []⟩
theorem Gc:Has Tryz.prog 31 c_ek t7:=fp (R:=bq) (tr:=false) (E:=[(54,0,c_di),(35,1,c_dp),(32,2,Cq),(36,3,c_fp),(55,4,c_de)]) (Φ:=Di) (t:=t_ek) ⟨FP,Ao,rp,Ay,Gb,trivial⟩ Tryz.f31 h_ek (by kernel_rfl)
def nZ:Con:=⟨[.own false [.val] [.list] false],[⟨false,[.val],[.list],false⟩,⟨false,[.val],[.list],false⟩]⟩
def h_aw:How:=⟨aC [(1,⟨[.list],[(6,(.sl 1000))],[(1000,.arr 56 v4 (.v 0))],[2],1⟩)],
 aC [],
 aC []⟩
theorem eM:Has Tryz.prog 15 nZ eV:=fp (R:=bq) (tr:=false) (E:=[(30,0,c_ex),(31,1,c_ek),(32,2,Cq)]) (Φ:=Dj) (t:=t_aw) ⟨FO,Gc,rp,trivial⟩ Tryz.f15 h_aw (by kernel_rfl)
def c_dv:Con:=⟨[],[⟨true,[.val,.val,.val,(.arr 45 v4)],kD,false⟩]⟩
theorem Ge:Has Tryz.prog 56 c_dv t8:=fp (R:=[]) (tr:=false) (E:=[]) (Φ:=ph []) (t:=t_dv) trivial Tryz.f56 hE (by kernel_rfl)
def lQ:Con:=⟨[.ro false [kI],.ro false [kI],.ro false [kI]],[⟨false,[.val],[.bool],false⟩]⟩
theorem dH:Has Tryz.prog 42 lQ bD:=fp (R:=[]) (tr:=false) (E:=[]) (Φ:=ph []) (t:=t_gb) trivial Tryz.f42 hE (by kernel_rfl)
def y8:Con:=⟨[.ro false [kI]],[⟨false,[.val],[.bool],false⟩]⟩
theorem lE:Has Tryz.prog 43 y8 fl:=fp (R:=[]) (tr:=false) (E:=[(42,0,lQ)]) (Φ:=Dk) (t:=t_eh) ⟨dH,trivial⟩ Tryz.f43 hE (by kernel_rfl)
def c_dt:Con:=⟨[.ro false [kI],.ro false [kI]],[⟨true,v5,kH,false⟩,⟨false,[.val],[.bool],false⟩]⟩
theorem Gf:Has Tryz.prog 57 c_dt t9:=fp (R:=[]) (tr:=false) (E:=[(43,0,y8),(42,1,lQ)]) (Φ:=Dl) (t:=t_dt) ⟨lE,dH,trivial⟩ Tryz.f57 hE (by kernel_rfl)
def c_do:Con:=⟨[.ro false [.list]],[⟨true,[.val,.val,.val,(.arr 45 v4),(.arr 40 v5),(.arr 45 v4)],kW,false⟩,⟨false,[.val],[.bool],false⟩]⟩
def h_do:How:=⟨aC [(0,⟨[kI,.list],[(3,(.bool (.b false))),(17,(sI 0))],[(2,.cells [(.bool (.v 1003)),(.view true (.v 1004)),(sI 1005),(.sl 1),(.sl 1000),.nil]),(1000,.arr 40 v5 (.v 1))],[],1⟩)],
 aC [],
 aC []⟩
theorem Gg:Has Tryz.prog 33 c_do ua:=fp (R:=[]) (tr:=false) (E:=[(56,0,c_dv),(57,1,c_dt)]) (Φ:=Dm) (t:=t_do) ⟨Ge,Gf,trivial⟩ Tryz.f33 h_do (by kernel_rfl)
def c_bs:Con:=⟨[.ro false [kI]],[⟨false,[.val],[.bool],false⟩]⟩
theorem Gh:Has Tryz.prog 135 c_bs ub:=fp (R:=[]) (tr:=false) (E:=[(42,0,lQ)]) (Φ:=Dn) (t:=t_bs) ⟨dH,trivial⟩ Tryz.f135 hE (by kernel_rfl)
def c_ao:Con:=⟨[.ro false [.list],.fn 135 []],[⟨false,[.val],[kI],false⟩]⟩
def h_ao:How:=⟨aC [(0,⟨[kI],[(4,(.int .i64 (.n 0))),(8,(sI 0))],[],[],0⟩)],
 aC [],
 aC []⟩
theorem Gi:Has Tryz.prog 149 c_ao uc:=fp (R:=[]) (tr:=false) (E:=[(135,0,c_bs)]) (Φ:=Do) (t:=t_ao) ⟨Gh,trivial⟩ Tryz.f149 h_ao (by kernel_rfl)
def c_al:Con:=⟨[.ro false [.list],.fn 135 []],[⟨false,[.val],[.bool],false⟩]⟩
theorem Gj:Has Tryz.prog 137 c_al ud:=fp (R:=[]) (tr:=false) (E:=[(149,0,c_ao)]) (Φ:=Dp) (t:=t_al) ⟨Gi,trivial⟩ Tryz.f137 hE (by kernel_rfl)
def c_ce:Con:=⟨[.ro false [kI]],[⟨false,[.val],[.bool],false⟩]⟩
theorem Gk:Has Tryz.prog 136 c_ce ue:=fp (R:=[]) (tr:=false) (E:=[]) (Φ:=ph []) (t:=t_ce) trivial Tryz.f136 hE (by kernel_rfl)
def c_an:Con:=⟨[.ro false [.list],.fn 136 []],[⟨false,[.val],[kI],false⟩]⟩
def h_an:How:=⟨aC [(0,⟨[kI],[(4,(.int .i64 (.n 0))),(8,(sI 0))],[],[],0⟩)],
 aC [],
 aC []⟩
theorem Gl:Has Tryz.prog 149 c_an uf:=fp (R:=[]) (tr:=false) (E:=[(136,0,c_ce)]) (Φ:=Dq) (t:=t_an) ⟨Gk,trivial⟩ Tryz.f149 h_an (by kernel_rfl)
def c_ak:Con:=⟨[.ro false [.list],.fn 136 []],[⟨false,[.val],[.bool],false⟩]⟩
theorem Gm:Has Tryz.prog 137 c_ak ug:=fp (R:=[]) (tr:=false) (E:=[(149,0,c_an)]) (Φ:=Dr) (t:=t_ak) ⟨Gl,trivial⟩ Tryz.f137 hE (by kernel_rfl)
def c_dm:Con:=⟨[.ro false [.list]],[⟨false,[.val],[.bool],false⟩]⟩
theorem Az:Has Tryz.prog 119 c_dm oO:=fp (R:=[]) (tr:=false) (E:=[(137,0,c_al),(137,1,c_ak)]) (Φ:=Ds) (t:=t_dm) ⟨Gj,Gm,trivial⟩ Tryz.f119 hE (by kernel_rfl)
def Cs:Con:=⟨[.ro false [kI]],[⟨false,[.val],[.bool],false⟩]⟩
theorem rt:Has Tryz.prog 44 Cs fK:=fp (R:=[]) (tr:=false) (E:=[(42,0,lQ)]) (Φ:=Dt) (t:=t_fi) ⟨dH,trivial⟩ Tryz.f44 hE (by kernel_rfl)
def AA:Con:=⟨[.ro true [kI,kI,.list]],[⟨false,[.val],[.bool],false⟩]⟩
theorem oa:Has Tryz.prog 93 AA gB:=fp (R:=[]) (tr:=false) (E:=[(42,0,lQ),(119,1,c_dm),(44,2,Cs)]) (Φ:=Du) (t:=t_fr) ⟨dH,Az,rt,trivial⟩ Tryz.f93 hE (by kernel_rfl)
def c_er:Con:=⟨[.ro true [kI,kI,.list]],[⟨false,[.val],[.bool],false⟩]⟩
theorem Gn:Has Tryz.prog 109 c_er uh:=fp (R:=[]) (tr:=false) (E:=[(93,0,AA)]) (Φ:=Dv) (t:=t_er) ⟨oa,trivial⟩ Tryz.f109 hE (by kernel_rfl)
def c_am:Con:=⟨[.ro false [.list],.fn 109 []],[⟨false,[.val],[kI],false⟩]⟩
def h_am:How:=⟨aC [(0,⟨[kI],[(4,(.int .i64 (.n 0))),(8,(sI 0))],[],[],0⟩)],
 aC [],
 aC []⟩
theorem Gp:Has Tryz.prog 130 c_am ui:=fp (R:=[]) (tr:=false) (E:=[(109,0,c_er)]) (Φ:=Dw) (t:=t_am) ⟨Gn,trivial⟩ Tryz.f130 h_am (by kernel_rfl)
def c_ag:Con:=⟨[.ro false [.list],.fn 109 []],[⟨false,[.val],[.bool],false⟩]⟩
theorem Gq:Has Tryz.prog 110 c_ag uj:=fp (R:=[]) (tr:=false) (E:=[(130,0,c_am)]) (Φ:=Dy) (t:=t_ag) ⟨Gp,trivial⟩ Tryz.f110 hE (by kernel_rfl)
def AB:Con:=⟨[.ro true [.list,kI]],[⟨false,[.val],[.bool],false⟩]⟩
theorem oc:Has Tryz.prog 77 AB gC:=fp (R:=[]) (tr:=false) (E:=[(42,0,lQ),(110,1,c_ag)]) (Φ:=Dz) (t:=t_fw) ⟨dH,Gq,trivial⟩ Tryz.f77 hE (by kernel_rfl)
def c_cn:Con:=⟨[.ro true [.list,kI]],[⟨false,[.val],[.bool],false⟩]⟩
theorem Gr:Has Tryz.prog 150 c_cn uk:=fp (R:=[]) (tr:=false) (E:=[(119,0,c_dm),(42,1,lQ)]) (Φ:=DA) (t:=t_cn) ⟨Az,dH,trivial⟩ Tryz.f150 hE (by kernel_rfl)
def c_ah:Con:=⟨[.ro false [.list],.fn 150 []],[⟨false,[.val],[kI],false⟩]⟩
def h_ah:How:=⟨aC [(0,⟨[kI],[(4,(.int .i64 (.n 0))),(8,(sI 0))],[],[],0⟩)],
 aC [],
 aC []⟩
theorem Gt:Has Tryz.prog 157 c_ah ul:=fp (R:=[]) (tr:=false) (E:=[(150,0,c_cn)]) (Φ:=DB) (t:=t_ah) ⟨Gr,trivial⟩ Tryz.f157 h_ah (by kernel_rfl)
def c_ac:Con:=⟨[.ro false [.list],.fn 150 []],[⟨false,[.val],[.bool],false⟩]⟩
theorem Gu:Has Tryz.prog 151 c_ac um:=fp (R:=[]) (tr:=false) (E:=[(157,0,c_ah)]) (Φ:=DC) (t:=t_ac) ⟨Gt,trivial⟩ Tryz.f151 hE (by kernel_rfl)
def c_en:Con:=⟨[.ro false [.list]],[⟨false,[.val],[.bool],false⟩]⟩
theorem Gv:Has Tryz.prog 138 c_en un:=fp (R:=[]) (tr:=false) (E:=[(151,0,c_ac)]) (Φ:=DD) (t:=t_en) ⟨Gu,trivial⟩ Tryz.f138 hE (by kernel_rfl)
def c_ei:Con:=⟨[.ro false [.list],.ro false [kI]],[⟨false,[.val],[kI],false⟩]⟩
theorem AC:Has Tryz.prog 139 c_ei oP:=fp (R:=[]) (tr:=false) (E:=[(42,0,lQ)]) (Φ:=DE) (t:=t_ei) ⟨dH,trivial⟩ Tryz.f139 hE (by kernel_rfl)
def c_dj:Con:=⟨[.ro false [.list],.ro true [kI,kI,.list]],[⟨false,[.val],[.bool],false⟩]⟩
theorem AD:Has Tryz.prog 120 c_dj oQ:=fp (R:=[]) (tr:=false) (E:=[(138,0,c_en),(93,1,AA),(139,2,c_ei)]) (Φ:=DF) (t:=t_dj) ⟨Gv,oa,AC,trivial⟩ Tryz.f120 hE (by kernel_rfl)
def c_bg:Con:=⟨[.ro false [.list]],[⟨false,[.val],[.list],false⟩]⟩
theorem AE:Has Tryz.prog 131 c_bg lZ:=fp (R:=[]) (tr:=false) (E:=[]) (Φ:=ph []) (t:=t_bg) trivial Tryz.f131 hE (by kernel_rfl)
def c_eo:Con:=⟨[.ro false [.list],.ro true [kI,kI,.list]],[⟨false,[.val],[.list],false⟩,⟨false,[.val],[.bool],false⟩]⟩
def h_eo:How:=⟨aC [(0,⟨[kI,.list],[(6,(.sl 1000)),(16,(sI 0))],[(1000,.arr 48 [.val,.val] (.v 1))],[],1⟩)],
 aC [],
 aC []⟩
theorem Gw:Has Tryz.prog 111 c_eo uo:=fp (R:=[]) (tr:=false) (E:=[(120,0,c_dj),(131,1,c_bg)]) (Φ:=DG) (t:=t_eo) ⟨AD,AE,trivial⟩ Tryz.f111 h_eo (by kernel_rfl)
def c_dw:Con:=⟨[.ro false [.list]],[⟨false,[.val],[.list],false⟩,⟨false,[.val],[.bool],false⟩]⟩
def h_dw:How:=⟨aC [(0,⟨[.list,.bool,kI],[(4,(.view true (.v 0))),(5,(.bool (.v 1))),(6,(sI 2))],[],[],0⟩)],
 aC [],
 aC []⟩
theorem AF:Has Tryz.prog 78 c_dw oR:=fp (R:=[]) (tr:=false) (E:=[(111,0,c_eo)]) (Φ:=DH) (t:=t_dw) ⟨Gw,trivial⟩ Tryz.f78 h_dw (by kernel_rfl)
def AG:Con:=⟨[.ro true kJ],[⟨false,[.val],[.bool],false⟩]⟩
theorem od:Has Tryz.prog 20 AG gD:=fp (R:=[]) (tr:=false) (E:=[(42,0,lQ),(43,1,y8),(44,2,Cs)]) (Φ:=DI) (t:=t_fn) ⟨dH,lE,rt,trivial⟩ Tryz.f20 hE (by kernel_rfl)
def Ct:Con:=⟨[.ro true kJ],[⟨false,[.val],[.bool],false⟩]⟩
theorem ru:Has Tryz.prog 79 Ct iQ:=fp (R:=[]) (tr:=false) (E:=[]) (Φ:=ph []) (t:=t_bj) trivial Tryz.f79 hE (by kernel_rfl)
def c_as:Con:=⟨[.ro false [.list],.ro true kJ],[⟨false,[.val],[kI],false⟩]⟩
def h_as:How:=⟨aC [(0,⟨[kI],[(4,(.int .i64 (.n 0))),(8,(sI 0))],[],[],0⟩)],
 aC [],
 aC []⟩
theorem Gx:Has Tryz.prog 112 c_as uq:=fp (R:=[]) (tr:=false) (E:=[]) (Φ:=ph []) (t:=t_as) trivial Tryz.f112 h_as (by kernel_rfl)
def E5:Con:=⟨[.ro false [.list],.ro true kJ],[⟨false,[.val],[.bool],false⟩]⟩
theorem wX:Has Tryz.prog 80 E5 lj:=fp (R:=[]) (tr:=false) (E:=[(112,0,c_as)]) (Φ:=DJ) (t:=t_ap) ⟨Gx,trivial⟩ Tryz.f80 hE (by kernel_rfl)
def vA:Con:=⟨[.ro true kD],[⟨false,[.val],[.bool],false⟩]⟩
def h_fa:How:=⟨aC [(0,⟨[kI],[(2,(.bool (.b false))),(32,(sI 0))],[],[],0⟩)],
 aC [(3,⟨[],[(2,(.bool (.b false)))],[],[],0⟩)],
 aC []⟩
theorem iD:Has Tryz.prog 40 vA dU:=fp (R:=[]) (tr:=false) (E:=[(77,0,AB),(78,1,c_dw),(20,2,AG),(79,3,Ct),(80,4,E5)]) (Φ:=DK) (t:=t_fa) ⟨oc,AF,od,ru,wX,trivial⟩ Tryz.f40 h_fa (by kernel_rfl)
def c_cb:Con:=⟨[.ro true [kI,kI,.list]],[⟨true,v3,[kI,kI,.list],false⟩]⟩
theorem AH:Has Tryz.prog 140 c_cb oS:=fp (R:=[]) (tr:=false) (E:=[(131,0,c_bg)]) (Φ:=DL) (t:=t_cb) ⟨AE,trivial⟩ Tryz.f140 hE (by kernel_rfl)
def E6:Con:=⟨[.ro true [.list,kI],.ro false [kI],.ro false [kI]],[⟨true,[(.arr 88 v3),.val],[.list,kI],false⟩]⟩
def h_ck:How:=⟨aC [(0,⟨[kI,.list],[(17,(sI 0))],[(2,.cells [(.sl 1000),(sI 1003)]),(1000,.arr 88 v3 (.v 1))],[],1⟩)],
 aC [],
 aC []⟩
theorem wY:Has Tryz.prog 124 E6 lk:=fp (R:=[]) (tr:=false) (E:=[(140,0,c_cb)]) (Φ:=DM) (t:=t_ck) ⟨AH,trivial⟩ Tryz.f124 h_ck (by kernel_rfl)
def E7:Con:=⟨[.ro true [.list,kI]],[⟨true,[(.arr 88 v3),.val],[.list,kI],false⟩]⟩
theorem wZ:Has Tryz.prog 116 E7 ll:=fp (R:=[]) (tr:=false) (E:=[(124,0,E6)]) (Φ:=DN) (t:=t_bt) ⟨wY,trivial⟩ Tryz.f116 hE (by kernel_rfl)
def c_at:Con:=⟨[.ro false [.list]],[⟨false,[(.arr 45 v4)],[.list],false⟩]⟩
theorem AI:Has Tryz.prog 89 c_at oT:=fp (R:=[]) (tr:=false) (E:=[]) (Φ:=ph []) (t:=t_at) trivial Tryz.f89 hE (by kernel_rfl)
def AJ:Con:=⟨[.ro true kD],[⟨true,[.val,.val,.val,(.arr 45 v4)],kD,false⟩]⟩
theorem oe:Has Tryz.prog 88 AJ gF:=fp (R:=[]) (tr:=false) (E:=[(116,0,E7),(89,1,c_at)]) (Φ:=DO) (t:=t_bi) ⟨wZ,AI,trivial⟩ Tryz.f88 hE (by kernel_rfl)
def c_cz:Con:=⟨[.own true [.val,.val] [.list,kI] false,.ro false [.bool]],[⟨false,[.val],[.list],false⟩]⟩
theorem AK:Has Tryz.prog 81 c_cz oU:=fp (R:=[]) (tr:=false) (E:=[]) (Φ:=ph []) (t:=t_cz) trivial Tryz.f81 hE (by kernel_rfl)
def y9:Con:=⟨[.ro true kD,.ro false [.bool]],[⟨false,[.val],[.list],false⟩]⟩
theorem lG:Has Tryz.prog 41 y9 eu:=fp (R:=[]) (tr:=false) (E:=[(81,0,c_cz),(78,1,c_dw)]) (Φ:=DP) (t:=t_bw) ⟨AK,AF,trivial⟩ Tryz.f41 hE (by kernel_rfl)
def c_fm:Con:=⟨[.ro true [.list,kI],.ro true [kI,kI,.list]],[⟨true,[.val,.val],[.list,kI],false⟩,⟨false,[.val],[.bool],false⟩]⟩
theorem AL:Has Tryz.prog 121 c_fm oV:=fp (R:=[]) (tr:=false) (E:=[(77,0,AB),(93,1,AA),(116,2,E7),(140,3,c_cb)]) (Φ:=DQ) (t:=t_fm) ⟨oc,oa,wZ,AH,trivial⟩ Tryz.f121 hE (by kernel_rfl)
def E8:Con:=⟨[.ptr [.val,.val,.val,(.arr 45 v4)] kD,.ro true [kI,kI,.list]],[⟨false,[.val],[.bool],false⟩]⟩
theorem w4:Has Tryz.prog 94 E8 gj:=fp (R:=[]) (tr:=false) (E:=[(41,0,y9),(120,1,c_dj),(121,2,c_fm)]) (Φ:=DR) (t:=t_br) ⟨lG,AD,AL,trivial⟩ Tryz.f94 hE (by kernel_rfl)
def c_cv:Con:=⟨[.ro true kD,.ro false [.list]],[⟨true,[.val,.val,.val,(.arr 45 v4)],kD,false⟩,⟨false,[.val],[.bool],false⟩]⟩
theorem Gy:Has Tryz.prog 58 c_cv ur:=fp (R:=[]) (tr:=false) (E:=[(40,0,vA),(88,1,AJ),(41,2,y9),(93,3,AA),(94,4,E8)]) (Φ:=DS) (t:=t_cv) ⟨iD,oe,lG,oa,w4,trivial⟩ Tryz.f58 hE (by kernel_rfl)
def c_da:Con:=⟨[.ro true kD,.ro false [kI]],[⟨true,[.val,.val,.val,(.arr 45 v4)],kD,false⟩,⟨false,[.val],[.bool],false⟩]⟩
theorem Gz:Has Tryz.prog 59 c_da ut:=fp (R:=[]) (tr:=false) (E:=[(40,0,vA),(44,1,Cs),(88,2,AJ),(94,3,E8)]) (Φ:=DT) (t:=t_da) ⟨iD,rt,oe,w4,trivial⟩ Tryz.f59 hE (by kernel_rfl)
def c_cg:Con:=⟨[.ro true kD,.ro false [kI],.ro false [kI],.ro false [kI]],[⟨false,[.val],[.bool],false⟩]⟩
theorem AM:Has Tryz.prog 83 c_cg oX:=fp (R:=[]) (tr:=false) (E:=[(80,0,E5)]) (Φ:=DU) (t:=t_cg) ⟨wX,trivial⟩ Tryz.f83 hE (by kernel_rfl)
def c_ca:Con:=⟨[.ro true kD],[⟨false,[.val],[.list],false⟩]⟩
def h_ca:How:=⟨aC [(0,⟨[kI,.list],[(4,(.sl 1000)),(23,(sI 0))],[(1000,.arr 45 v4 (.v 1))],[],1⟩),(2,⟨[kI,.list],[(4,(.sl 1000)),(38,(sI 0))],[(1000,.arr 45 v4 (.v 1))],[2],1⟩)],
 aC [],
 aC []⟩
theorem AN:Has Tryz.prog 47 c_ca oY:=fp (R:=[]) (tr:=false) (E:=[(41,0,y9),(83,1,c_cg)]) (Φ:=DV) (t:=t_ca) ⟨lG,AM,trivial⟩ Tryz.f47 h_ca (by kernel_rfl)
def c_cc:Con:=⟨[.ptr [.val,.val,.val,(.arr 45 v4),(.arr 40 v5),(.arr 45 v4)] kW,.ro true kJ],[]⟩
theorem AO:Has Tryz.prog 60 c_cc iR:=fp (R:=[]) (tr:=false) (E:=[]) (Φ:=ph []) (t:=t_cc) trivial Tryz.f60 hE (by kernel_rfl)
theorem GA:Has Tryz.prog 95 (lN 45) pg:=wa (ρ:=⟨fun _=>95,fun t=>match t with|22=>30|23=>45|3=>3|4=>4|_=>0,fun x=>x⟩) ⟨sR,⟨Tryz.f95.name,by kernel_rfl,by kernel_rfl⟩,by kernel_rfl,by kernel_rfl,by kernel_rfl,by kernel_rfl⟩ rfl
def c_aq:Con:=lN 45
def c_bu:Con:=⟨[.ro true kD,.ro false [kI],.ro false [kI],.ro false [.list]],[⟨false,[.val],[.bool],false⟩,⟨false,[.val],[.bool],false⟩]⟩
def h_bu:How:=⟨aC [(0,⟨[.bool,.bool,kI],[(8,(.bool (.v 0))),(9,(.bool (.v 1))),(15,(sI 2))],[],[],0⟩)],
 aC [],
 aC []⟩
theorem GB:Has Tryz.prog 152 c_bu l4:=fp (R:=[]) (tr:=false) (E:=[(83,0,c_cg)]) (Φ:=DW) (t:=t_bu) ⟨AM,trivial⟩ Tryz.f152 h_bu (by kernel_rfl)
def c_bf:Con:=⟨[.ptr [.val,.val,.val,(.arr 45 v4)] kD,.ro false [kI]],[]⟩
def h_bf:How:=⟨aC [],
 aC [(9,⟨[.bool],[(82,(.bool (.v 0)))],[],[],0⟩),(7,⟨[.bool],[(71,(.bool (.v 0)))],[],[],0⟩)],
 aC []⟩
theorem GC:Has Tryz.prog 141 c_bf qY:=fp (R:=[]) (tr:=false) (E:=[(41,0,y9),(152,1,c_bu),(139,2,c_ei),(94,3,E8)]) (Φ:=Bu) (t:=t_bf) ⟨lG,GB,AC,w4,trivial⟩ Tryz.f141 h_bf (by kernel_rfl)
def c_cm:Con:=⟨[.ptr [.val,.val,.val,(.arr 45 v4)] kD,.ro true kJ],[]⟩
theorem GD:Has Tryz.prog 122 c_cm uu:=fp (R:=[]) (tr:=false) (E:=[(20,0,AG),(79,1,Ct),(41,2,y9),(80,3,E5),(141,4,c_bf)]) (Φ:=DX) (t:=t_cm) ⟨od,ru,lG,wX,GC,trivial⟩ Tryz.f122 hE (by kernel_rfl)
def c_dq:Con:=⟨[.ro false [kI]],[⟨true,[.val,(.arr 50 [.val,.val])],[kI,.list],false⟩,⟨false,[.val],[.bool],false⟩]⟩
theorem GE:Has Tryz.prog 113 c_dq uw:=fp (R:=[]) (tr:=false) (E:=[(42,0,lQ)]) (Φ:=DY) (t:=t_dq) ⟨dH,trivial⟩ Tryz.f113 hE (by kernel_rfl)
def c_dx:Con:=⟨[.ro true [kI,kI]],[⟨false,[.val],[.bool],false⟩]⟩
theorem GF:Has Tryz.prog 85 c_dx ux:=fp (R:=[]) (tr:=false) (E:=[(42,0,lQ)]) (Φ:=DZ) (t:=t_dx) ⟨dH,trivial⟩ Tryz.f85 hE (by kernel_rfl)
def c_cu:Con:=⟨[.ro true [kI,kI]],[⟨false,[.val],[.bool],false⟩]⟩
theorem GG:Has Tryz.prog 84 c_cu uy:=fp (R:=[]) (tr:=false) (E:=[(85,0,c_dx)]) (Φ:=D0) (t:=t_cu) ⟨GF,trivial⟩ Tryz.f84 hE (by kernel_rfl)
def c_ai:Con:=⟨[.ro false [.list],.fn 84 []],[⟨false,[.val],[kI],false⟩]⟩
def h_ai:How:=⟨aC [(0,⟨[kI],[(4,(.int .i64 (.n 0))),(8,(sI 0))],[],[],0⟩)],
 aC [],
 aC []⟩
theorem GH:Has Tryz.prog 115 c_ai uz:=fp (R:=[]) (tr:=false) (E:=[(84,0,c_cu)]) (Φ:=D1) (t:=t_ai) ⟨GG,trivial⟩ Tryz.f115 h_ai (by kernel_rfl)
def c_ae:Con:=⟨[.ro false [.list],.fn 84 []],[⟨false,[.val],[.bool],false⟩]⟩
theorem GI:Has Tryz.prog 86 c_ae uA:=fp (R:=[]) (tr:=false) (E:=[(115,0,c_ai)]) (Φ:=D2) (t:=t_ae) ⟨GH,trivial⟩ Tryz.f86 hE (by kernel_rfl)
def E9:Con:=⟨[.ro true [kI,.list]],[⟨false,[.val],[kI],false⟩]⟩
def h_bp:How:=⟨aC [(0,⟨[kI,kI],[(3,(sI 0)),(11,(sI 1))],[],[],0⟩)],
 aC [],
 aC []⟩
theorem w8:Has Tryz.prog 49 E9 lm:=fp (R:=[]) (tr:=false) (E:=[]) (Φ:=ph []) (t:=t_bp) trivial Tryz.f49 h_bp (by kernel_rfl)
def c_ew:Con:=⟨[.ro true [kI,.list]],[⟨false,[.val],[.bool],false⟩]⟩
theorem AP:Has Tryz.prog 48 c_ew oZ:=fp (R:=[]) (tr:=false) (E:=[(42,0,lQ),(86,1,c_ae),(49,2,E9)]) (Φ:=D3) (t:=t_ew) ⟨dH,GI,w8,trivial⟩ Tryz.f48 hE (by kernel_rfl)
def c_dk:Con:=⟨[.ro true [kI,.list],.ro true [kI,kI,.list]],[⟨false,[.val],[.bool],false⟩]⟩
theorem AQ:Has Tryz.prog 132 c_dk o5:=fp (R:=[]) (tr:=false) (E:=[(48,0,c_ew),(93,1,AA),(49,2,E9)]) (Φ:=D4) (t:=t_dk) ⟨AP,oa,w8,trivial⟩ Tryz.f132 hE (by kernel_rfl)
def c_ar:Con:=⟨[.ro false [.list]],[⟨false,[(.arr 50 [.val,.val])],[.list],false⟩]⟩
theorem GJ:Has Tryz.prog 133 c_ar uB:=fp (R:=[]) (tr:=false) (E:=[]) (Φ:=ph []) (t:=t_ar) trivial Tryz.f133 hE (by kernel_rfl)
def c_dy:Con:=⟨[.ro true [kI,.list],.ro true [kI,kI,.list]],[⟨true,[.val,.val],[kI,.list],false⟩,⟨false,[.val],[.bool],false⟩]⟩
def h_dy:How:=⟨aC [],
 aC [(4,⟨[.list],[(6,(.ptr 1000 0))],[(1000,.cells [(sI 1000),(.sl 1001)]),(1001,.arr 50 [.val,.val] (.v 0))],[],2⟩)],
 aC []⟩
theorem GK:Has Tryz.prog 114 c_dy uC:=fp (R:=[]) (tr:=false) (E:=[(132,0,c_dk),(133,1,c_ar)]) (Φ:=D5) (t:=t_dy) ⟨AQ,GJ,trivial⟩ Tryz.f114 h_dy (by kernel_rfl)
def c_ee:Con:=⟨[.ro false [kI],.ro false [.list]],[⟨true,[.val,.val],[kI,.list],false⟩,⟨false,[.val],[.bool],false⟩]⟩
def h_ee:How:=⟨aC [(0,⟨[.bool,kI,kI,.list],[(7,(.bool (.v 0))),(8,(sI 1))],[(2,.cells [(sI 2),(.view true (.v 3))])],[],0⟩)],
 aC [],
 aC []⟩
theorem AR:Has Tryz.prog 82 c_ee o6:=fp (R:=[]) (tr:=false) (E:=[(113,0,c_dq),(114,1,c_dy)]) (Φ:=D6) (t:=t_ee) ⟨GE,GK,trivial⟩ Tryz.f82 h_ee (by kernel_rfl)
def za:Con:=⟨[.ro true kH],[⟨false,[.val],[.bool],false⟩]⟩
theorem lH:Has Tryz.prog 45 za fL:=fp (R:=[]) (tr:=false) (E:=[(43,0,y8),(77,1,AB),(82,2,c_ee)]) (Φ:=D7) (t:=t_ec) ⟨lE,oc,AR,trivial⟩ Tryz.f45 hE (by kernel_rfl)
def Cu:Con:=⟨[.ro true kH],[⟨true,v5,kH,false⟩]⟩
theorem rx:Has Tryz.prog 90 Cu iS:=fp (R:=[]) (tr:=false) (E:=[(116,0,E7)]) (Φ:=D8) (t:=t_bc) ⟨wZ,trivial⟩ Tryz.f90 hE (by kernel_rfl)
def Cv:Con:=⟨[.ro true kH,.ro false [.bool]],[⟨true,[.val,.val],[kI,.list],false⟩]⟩
theorem ry:Has Tryz.prog 46 Cv ib:=fp (R:=[]) (tr:=false) (E:=[(81,0,c_cz),(82,1,c_ee)]) (Φ:=D9) (t:=t_bk) ⟨AK,AR,trivial⟩ Tryz.f46 hE (by kernel_rfl)
def c_av:Con:=⟨[.ro true kH,.ro true kJ],[⟨false,[.val],[kI],false⟩]⟩
def h_av:How:=⟨aC [],
 aC [(5,⟨[.bool],[(33,(.bool (.v 0)))],[],[],0⟩),(3,⟨[.bool],[(25,(.bool (.v 0)))],[],[],0⟩)],
 aC []⟩
theorem GL:Has Tryz.prog 142 c_av uD:=fp (R:=[]) (tr:=false) (E:=[(46,0,Cv)]) (Φ:=Ea) (t:=t_av) ⟨ry,trivial⟩ Tryz.f142 h_av (by kernel_rfl)
def c_cp:Con:=⟨[.ro true kH,.ro true kJ],[⟨true,v5,kH,false⟩,⟨true,v4,kJ,false⟩,⟨false,[.val],[.bool],false⟩]⟩
def h_cp:How:=⟨aC [],
 aC [(9,⟨[.list],[],[(5,.cells [(sI 1005),(sI 1007),(.sl 1000)]),(1000,.arr 3 [.val] (.v 0))],[],1⟩)],
 aC []⟩
theorem GM:Has Tryz.prog 123 c_cp uE:=fp (R:=[]) (tr:=false) (E:=[(45,0,za),(90,1,Cu),(20,2,AG),(79,3,Ct),(46,4,Cv),(132,5,c_dk),(121,6,c_fm),(142,7,c_av)]) (Φ:=Eb) (t:=t_cp) ⟨lH,rx,od,ru,ry,AQ,AL,GL,trivial⟩ Tryz.f123 h_cp (by kernel_rfl)
def c_bh:Con:=⟨[.ptr [.val,.val,.val,(.arr 45 v4),(.arr 40 v5),(.arr 45 v4)] kW,.ro true kJ],[⟨true,v4,kJ,false⟩,⟨false,[.val],[.bool],false⟩]⟩
theorem GN:Has Tryz.prog 96 c_bh uF:=fp (R:=[]) (tr:=false) (E:=[(79,0,Ct),(122,1,c_cm),(123,2,c_cp)]) (Φ:=Ec) (t:=t_bh) ⟨ru,GD,GM,trivial⟩ Tryz.f96 hE (by kernel_rfl)
def c_cj:Con:=⟨[.ptr [.val,.val,.val,(.arr 45 v4),(.arr 40 v5),(.arr 45 v4)] kW,.ro true [kI,kI,kI,.list]],[]⟩
def h_cj:How:=⟨aC [],
 aC [(3,⟨kJ,[(4,(.ptr 1000 0))],[(1000,.cells [(sI 0),(sI 1),(sI 2),(sI 3)])],[],1⟩)],
 aC []⟩
theorem GO:Has Tryz.prog 61 c_cj uG:=fp (R:=[]) (tr:=false) (E:=[(42,0,lQ),(60,1,c_cc),(95,2,c_aq),(96,3,c_bh)]) (Φ:=Ed) (t:=t_cj) ⟨dH,AO,GA,GN,trivial⟩ Tryz.f61 h_cj (by kernel_rfl)
def c_dl:Con:=⟨[.ro true [.list,kI]],[⟨true,[.val,.val],[.list,kI],false⟩]⟩
theorem AS:Has Tryz.prog 97 c_dl o7:=fp (R:=[]) (tr:=false) (E:=[(77,0,AB),(124,1,E6)]) (Φ:=Ee) (t:=t_dl) ⟨oc,wY,trivial⟩ Tryz.f97 hE (by kernel_rfl)
def c_cx:Con:=⟨[.ro true kD],[⟨true,[.val,.val,.val,(.arr 45 v4)],kD,false⟩]⟩
theorem GP:Has Tryz.prog 63 c_cx uH:=fp (R:=[]) (tr:=false) (E:=[(40,0,vA),(88,1,AJ),(97,2,c_dl)]) (Φ:=Ef) (t:=t_cx) ⟨iD,oe,AS,trivial⟩ Tryz.f63 hE (by kernel_rfl)
def c_bz:Con:=⟨[.ro true kH],[⟨true,v5,kH,false⟩]⟩
theorem GQ:Has Tryz.prog 64 c_bz uI:=fp (R:=[]) (tr:=false) (E:=[(45,0,za),(90,1,Cu),(97,2,c_dl)]) (Φ:=Eg) (t:=t_bz) ⟨lH,rx,AS,trivial⟩ Tryz.f64 hE (by kernel_rfl)
def c_ab:Con:=⟨[.ptr [.val,.val,.val,(.arr 45 v4),(.arr 40 v5),(.arr 45 v4)] kW,.ro false [kI],.fn 63 [],.fn 64 []],[]⟩
theorem GR:Has Tryz.prog 62 c_ab uJ:=fp (R:=[]) (tr:=false) (E:=[(43,0,y8),(63,1,c_cx),(64,2,c_bz)]) (Φ:=Eh) (t:=t_ab) ⟨lE,GP,GQ,trivial⟩ Tryz.f62 hE (by kernel_rfl)
def c_dz:Con:=⟨[.ro true [.list,kI],.ro false [kI]],[⟨true,[.val,.val],[.list,kI],false⟩]⟩
theorem AT:Has Tryz.prog 98 c_dz o8:=fp (R:=[]) (tr:=false) (E:=[(77,0,AB),(124,1,E6)]) (Φ:=Ej) (t:=t_dz) ⟨oc,wY,trivial⟩ Tryz.f98 hE (by kernel_rfl)
def c_dg:Con:=⟨[.ro true kD,.ro false [kI]],[⟨true,[.val,.val,.val,(.arr 45 v4)],kD,false⟩]⟩
theorem GS:Has Tryz.prog 66 c_dg uK:=fp (R:=[]) (tr:=false) (E:=[(40,0,vA),(98,1,c_dz)]) (Φ:=Ek) (t:=t_dg) ⟨iD,AT,trivial⟩ Tryz.f66 hE (by kernel_rfl)
def c_bq:Con:=⟨[.ro true kD,.rptr [kI,kI,kI,.list]],[⟨true,[.val,.val,.val,(.arr 45 v4)],kD,false⟩]⟩
theorem GT:Has Tryz.prog 65 c_bq uL:=fp (R:=[]) (tr:=false) (E:=[(66,0,c_dg)]) (Φ:=El) (t:=t_bq) ⟨GS,trivial⟩ Tryz.f65 hE (by kernel_rfl)
def c_ch:Con:=⟨[.ro true kH,.ro false [kI]],[⟨true,v5,kH,false⟩]⟩
theorem GU:Has Tryz.prog 68 c_ch uM:=fp (R:=[]) (tr:=false) (E:=[(45,0,za),(98,1,c_dz)]) (Φ:=Em) (t:=t_ch) ⟨lH,AT,trivial⟩ Tryz.f68 hE (by kernel_rfl)
def c_bv:Con:=⟨[.ro true kH,.rptr [kI,kI,kI,.list]],[⟨true,v5,kH,false⟩]⟩
theorem GV:Has Tryz.prog 67 c_bv uN:=fp (R:=[]) (tr:=false) (E:=[(68,0,c_ch)]) (Φ:=En) (t:=t_bv) ⟨GU,trivial⟩ Tryz.f67 hE (by kernel_rfl)
def c_aa:Con:=⟨[.ptr [.val,.val,.val,(.arr 45 v4),(.arr 40 v5),(.arr 45 v4)] kW,.ro false [kI],.fn 65 [[kI,kI,kI,.list]],.fn 67 [[kI,kI,kI,.list]]],[]⟩
theorem GW:Has Tryz.prog 62 c_aa uO:=fp (R:=[]) (tr:=false) (E:=[(43,0,y8),(65,1,c_bq),(67,2,c_bv)]) (Φ:=Eo) (t:=t_aa) ⟨lE,GT,GV,trivial⟩ Tryz.f62 hE (by kernel_rfl)
def c_du:Con:=⟨[.ro true kD],[⟨true,[.val,.val,.val,(.arr 45 v4)],kD,false⟩]⟩
theorem GX:Has Tryz.prog 69 c_du uP:=fp (R:=[]) (tr:=false) (E:=[(40,0,vA),(88,1,AJ)]) (Φ:=Er) (t:=t_du) ⟨iD,oe,trivial⟩ Tryz.f69 hE (by kernel_rfl)
def c_cw:Con:=⟨[.ro true kH],[⟨true,v5,kH,false⟩]⟩
theorem GY:Has Tryz.prog 70 c_cw uQ:=fp (R:=[]) (tr:=false) (E:=[(45,0,za),(90,1,Cu)]) (Φ:=Es) (t:=t_cw) ⟨lH,rx,trivial⟩ Tryz.f70 hE (by kernel_rfl)
def c_ad:Con:=⟨[.ptr [.val,.val,.val,(.arr 45 v4),(.arr 40 v5),(.arr 45 v4)] kW,.ro false [kI],.fn 69 [],.fn 70 []],[]⟩
theorem GZ:Has Tryz.prog 62 c_ad uR:=fp (R:=[]) (tr:=false) (E:=[(43,0,y8),(69,1,c_du),(70,2,c_cw)]) (Φ:=Et) (t:=t_ad) ⟨lE,GX,GY,trivial⟩ Tryz.f62 hE (by kernel_rfl)
def c_db:Con:=⟨[.ptr [.val,.val,.val,(.arr 45 v4),(.arr 40 v5),(.arr 45 v4)] kW,.ro true [kI,kI,kI,.list]],[]⟩
def h_db:How:=⟨aC [],
 aC [(17,⟨[.bool],[(65,(.bool (.v 0)))],[],[],0⟩)],
 aC []⟩
theorem AU:Has Tryz.prog 34 c_db l5:=fp (R:=[]) (tr:=false) (E:=[(58,0,c_cv),(59,1,c_da),(47,2,c_ca),(42,3,lQ),(60,4,c_cc),(61,5,c_cj),(62,6,c_ab),(62,7,c_aa),(62,8,c_ad)]) (Φ:=Ew) (t:=t_db) ⟨Gy,Gz,AN,dH,AO,GO,GR,GW,GZ,trivial⟩ Tryz.f34 h_db (by kernel_rfl)
def og:Con:=⟨[.ro false [.list],.ro false [.list]],[⟨true,[.val,.val,.val,.val,.val,.val],kW,false⟩,⟨false,[.val],[.bool],false⟩]⟩
def h_cr:How:=⟨aC [(0,⟨[kI,.bool,.list,kI,.list,.list,.list],[(25,(sI 0))],[(4,.cells [(.bool (.v 1)),(.view true (.v 2)),(sI 3),(.sl 1000),(.sl 1001),(.sl 1002)]),(1000,.arr 45 v4 (.v 4)),(1001,.arr 40 v5 (.v 5)),(1002,.arr 45 v4 (.v 6))],[1,2,3],3⟩)],
 aC [],
 aC []⟩
theorem eN:Has Tryz.prog 16 og dq:=fp (R:=[]) (tr:=false) (E:=[(33,0,c_do),(34,1,c_db)]) (Φ:=Ex) (t:=t_cr) ⟨Gg,AU,trivial⟩ Tryz.f16 h_cr (by kernel_rfl)
def ol:Con:=⟨[.ro false [.list],.ro false [.list]],[⟨true,[.val,.val,.val,.val,.val,.val],kW,false⟩,⟨false,[.val],[.bool],false⟩]⟩
def h_cq:How:=⟨aC [(0,⟨[kI,.bool,kI,.list,.list,.list,.list],[(8,(sI 0))],[(5,.cells [(.bool (.v 1)),(.sl 1000),(sI 2),(.sl 1001),(.sl 1002),(.sl 1003)]),(1000,.arr 88 v3 (.v 3)),(1001,.arr 45 v4 (.v 4)),(1002,.arr 40 [.val,.val,.val,(.arr 88 v3),.val] (.v 5)),(1003,.arr 45 v4 (.v 6))],[1,2,3,4],4⟩)],
 aC [],
 aC []⟩
theorem eO:Has Tryz.prog 17 ol eW:=fp (R:=bq) (tr:=false) (E:=[(35,0,c_dp),(36,1,c_fp)]) (Φ:=Ey) (t:=t_cq) ⟨Ao,Ay,trivial⟩ Tryz.f17 h_cq (by kernel_rfl)
def c_fe:Con:=⟨[.ro false [.list],.ro false [.list]],[⟨false,[.val],[.bool],false⟩]⟩
def h_fe:How:=⟨aC [(0,⟨[kI],[(4,(.bool (.b false))),(5,(sI 0))],[],[],0⟩)],
 aC [],
 aC []⟩
theorem AV:Has Tryz.prog 28 c_fe l6:=fp (R:=[]) (tr:=false) (E:=[]) (Φ:=ph []) (t:=t_fe) trivial Tryz.f28 h_fe (by kernel_rfl)
def c_fq:Con:=⟨[.ro true [kI,kI,.list],.ro true [kI,kI,.list]],[⟨false,[.val],[.bool],false⟩]⟩
theorem G0:Has Tryz.prog 53 c_fq uS:=fp (R:=[]) (tr:=false) (E:=[(28,0,c_fe)]) (Φ:=Ez) (t:=t_fq) ⟨AV,trivial⟩ Tryz.f53 hE (by kernel_rfl)
def c_fo:Con:=⟨[.ro false [.list],.ro false [.list]],[⟨false,[.val],[.bool],false⟩]⟩
def h_fo:How:=⟨aC [(0,⟨[kI],[(4,(.bool (.b false))),(5,(sI 0))],[],[],0⟩)],
 aC [],
 aC []⟩
theorem AW:Has Tryz.prog 26 c_fo ln:=fp (R:=[]) (tr:=false) (E:=[(53,0,c_fq)]) (Φ:=EA) (t:=t_fo) ⟨G0,trivial⟩ Tryz.f26 h_fo (by kernel_rfl)
def c_fy:Con:=⟨[.ro true [.list,kI],.ro true [.list,kI]],[⟨false,[.val],[.bool],false⟩]⟩
theorem AX:Has Tryz.prog 76 c_fy o9:=fp (R:=[]) (tr:=false) (E:=[(26,0,c_fo)]) (Φ:=EB) (t:=t_fy) ⟨AW,trivial⟩ Tryz.f76 hE (by kernel_rfl)
def c_eg:Con:=⟨[.ro false [.list],.ro false [.list]],[⟨false,[.val],[.bool],false⟩]⟩
def h_eg:How:=⟨aC [(0,⟨[kI],[(4,(.bool (.b false))),(5,(sI 0))],[],[],0⟩)],
 aC [],
 aC []⟩
theorem AY:Has Tryz.prog 38 c_eg pa:=fp (R:=[]) (tr:=false) (E:=[]) (Φ:=ph []) (t:=t_eg) trivial Tryz.f38 h_eg (by kernel_rfl)
def c_fb:Con:=⟨[.ro true kD,.ro true kD],[⟨false,[.val],[.bool],false⟩]⟩
theorem G1:Has Tryz.prog 37 c_fb uT:=fp (R:=[]) (tr:=false) (E:=[(76,0,c_fy),(38,1,c_eg)]) (Φ:=EC) (t:=t_fb) ⟨AX,AY,trivial⟩ Tryz.f37 hE (by kernel_rfl)
def c_ej:Con:=⟨[.ro true kH,.ro true kH],[⟨false,[.val],[.bool],false⟩]⟩
theorem G2:Has Tryz.prog 39 c_ej uU:=fp (R:=[]) (tr:=false) (E:=[(76,0,c_fy)]) (Φ:=ED) (t:=t_ej) ⟨AX,trivial⟩ Tryz.f39 hE (by kernel_rfl)
def om:Con:=⟨[.ro true kW,.ro true kW],[⟨false,[.val],[.bool],false⟩]⟩
def h_ea:How:=⟨aC [(0,⟨[kI],[(4,(.bool (.b false))),(5,(sI 0))],[],[],0⟩)],
 aC [],
 aC []⟩
theorem eP:Has Tryz.prog 18 om dV:=fp (R:=[]) (tr:=false) (E:=[(37,0,c_fb),(38,1,c_eg),(39,2,c_ej)]) (Φ:=EE) (t:=t_ea) ⟨G1,AY,G2,trivial⟩ Tryz.f18 h_ea (by kernel_rfl)
def xz:Con:=⟨[.ro true kD,.ro false [.bool]],[⟨false,[.val],[.list],false⟩]⟩
theorem jD:Has Tryz.prog 19 xz ev:=fp (R:=[]) (tr:=false) (E:=[(40,0,vA),(41,1,y9)]) (Φ:=EF) (t:=t_ct) ⟨iD,lG,trivial⟩ Tryz.f19 hE (by kernel_rfl)
def Fa:Con:=⟨[.ro true kH,.ro false [.bool]],[⟨true,[.val,.val],[kI,.list],false⟩]⟩
theorem w9:Has Tryz.prog 21 Fa lp:=fp (R:=[]) (tr:=false) (E:=[(45,0,za),(46,1,Cv)]) (Φ:=EG) (t:=t_by) ⟨lH,ry,trivial⟩ Tryz.f21 hE (by kernel_rfl)
def c_cy:Con:=⟨[.ro true kD],[⟨false,[.val],[.list],false⟩]⟩
theorem G3:Has Tryz.prog 22 c_cy uV:=fp (R:=[]) (tr:=false) (E:=[(40,0,vA),(47,1,c_ca)]) (Φ:=EH) (t:=t_cy) ⟨iD,AN,trivial⟩ Tryz.f22 hE (by kernel_rfl)
def c_co:Con:=⟨[.ro true [kI,.list]],[⟨false,[.val],[kI],false⟩]⟩
theorem G4:Has Tryz.prog 23 c_co uW:=fp (R:=[]) (tr:=false) (E:=[(48,0,c_ew),(49,1,E9)]) (Φ:=EI) (t:=t_co) ⟨AP,w8,trivial⟩ Tryz.f23 hE (by kernel_rfl)
def c_cf:Con:=⟨[.ro true kJ],[⟨false,[.val],[.bool],false⟩]⟩
theorem G5:Has Tryz.prog 51 c_cf uX:=fp (R:=[]) (tr:=false) (E:=[(20,0,AG)]) (Φ:=EJ) (t:=t_cf) ⟨od,trivial⟩ Tryz.f51 hE (by kernel_rfl)
def c_aj:Con:=⟨[.ro false [.list],.fn 51 []],[⟨false,[.val],[kI],false⟩]⟩
def h_aj:How:=⟨aC [(0,⟨[kI],[(4,(.int .i64 (.n 0))),(8,(sI 0))],[],[],0⟩)],
 aC [],
 aC []⟩
theorem G6:Has Tryz.prog 87 c_aj uY:=fp (R:=[]) (tr:=false) (E:=[(51,0,c_cf)]) (Φ:=EK) (t:=t_aj) ⟨G5,trivial⟩ Tryz.f87 h_aj (by kernel_rfl)
def c_af:Con:=⟨[.ro false [.list],.fn 51 []],[⟨false,[.val],[.bool],false⟩]⟩
theorem G7:Has Tryz.prog 50 c_af uZ:=fp (R:=[]) (tr:=false) (E:=[(87,0,c_aj)]) (Φ:=EL) (t:=t_af) ⟨G6,trivial⟩ Tryz.f50 hE (by kernel_rfl)
def Cw:Con:=⟨[.ro true kW],[⟨false,[.val],[.bool],false⟩]⟩
def h_el:How:=⟨aC [(0,⟨[kI],[(2,(.bool (.b false))),(24,(sI 0))],[],[],0⟩)],
 aC [],
 aC []⟩
theorem rz:Has Tryz.prog 24 Cw iT:=fp (R:=[]) (tr:=false) (E:=[(40,0,vA),(45,1,za),(50,2,c_af)]) (Φ:=EM) (t:=t_el) ⟨iD,lH,G7,trivial⟩ Tryz.f24 h_el (by kernel_rfl)
def c_ba:Con:=⟨[.ro true kW],[⟨true,[.val,.val,.val,(.arr 45 v4),(.arr 40 v5),(.arr 45 v4)],kW,false⟩]⟩
def h_ba:How:=⟨aC [(0,⟨[kI,.list],[(16,(sI 0))],[(2,.cells [(.bool (.v 1006)),(.view true (.v 1007)),(sI 1008),(.sl 3),(.sl 1000),(.sl 4)]),(1000,.arr 40 v5 (.v 1))],[],1⟩)],
 aC [(2,⟨[.bool,.list,kI,.list,.list],[(3,(.ptr 1000 0))],[(1000,.cells [(.bool (.v 0)),(.view true (.v 1)),(sI 2),(.sl 1001),.nil,(.sl 1002)]),(1001,.arr 45 v4 (.v 3)),(1002,.arr 45 v4 (.v 4))],[],3⟩)],
 aC []⟩
theorem G8:Has Tryz.prog 52 c_ba u0:=fp (R:=[]) (tr:=false) (E:=[(88,0,AJ),(89,1,c_at),(90,2,Cu)]) (Φ:=EN) (t:=t_ba) ⟨oe,AI,rx,trivial⟩ Tryz.f52 h_ba (by kernel_rfl)
def c_et:Con:=⟨[.ro true kW,.ro true [kI,kI,kI,.list]],[⟨true,[.val,.val,.val,.val,.val,.val],kW,false⟩]⟩
theorem AZ:Has Tryz.prog 25 c_et pb:=fp (R:=[]) (tr:=false) (E:=[(24,0,Cw),(52,1,c_ba),(34,2,c_db)]) (Φ:=EO) (t:=t_et) ⟨rz,G8,AU,trivial⟩ Tryz.f25 hE (by kernel_rfl)
def c_cd:Con:=⟨[.ro true kW,.ro false [kI]],[⟨false,[.val],[.list],false⟩]⟩
def h_cd:How:=⟨aC [(0,⟨[kI,.list],[(5,(.sl 1000)),(19,(sI 0))],[(1000,.arr 50 [.val,.val] (.v 1))],[],1⟩)],
 aC [],
 aC []⟩
theorem Ba:Has Tryz.prog 27 c_cd pc:=fp (R:=[]) (tr:=false) (E:=[(24,0,Cw),(44,1,Cs),(46,2,Cv)]) (Φ:=EP) (t:=t_cd) ⟨rz,rt,ry,trivial⟩ Tryz.f27 h_cd (by kernel_rfl)
def c_fv:Con:=⟨[.ro true kW],[⟨false,[.val],[.bool],false⟩]⟩
def h_fv:How:=⟨aC [(0,⟨[kI],[(2,(.bool (.b false))),(4,(sI 0))],[],[],0⟩),(2,⟨[kI],[(2,(.bool (.b false))),(7,(sI 0))],[],[],0⟩)],
 aC [(21,⟨[],[(2,(.bool (.b false)))],[],[],0⟩),(19,⟨[],[(2,(.bool (.b false)))],[],[],0⟩),(17,⟨[],[(2,(.bool (.b false)))],[],[],0⟩),(11,⟨[kI],[(6,(sI 0))],[],[],0⟩)],
 aC []⟩
theorem Bb:Has Tryz.prog 29 c_fv pd:=fp (R:=[]) (tr:=false) (E:=[(19,0,xz),(27,1,c_cd)]) (Φ:=EQ) (t:=t_fv) ⟨jD,Ba,trivial⟩ Tryz.f29 h_fv (by kernel_rfl)
end Dx
