import Derived.Test.YtahfbeiobndhkaaGreatProg
import Derived.Test.YtahfbeiobndhkaaGreatXe
import Derived.Test.YtahfbeiobndhkaaGreatYb
set_option linter.all false
namespace Dx
open Go
def tab:List (Nat×TI) :=
 [(3,⟨.int .i64,1,false,[.int .i64 (.n 0)],8⟩),
   (4,⟨.bool,1,false,[.bool (.b false)],1⟩),
   (5,⟨.int .u8,1,false,[.int .u8 (.n 0)],1⟩),
   (9,⟨.str,1,false,[.str (.s ⟨#[]⟩)],16⟩),
   (22,⟨.slice 5,1,false,[.nil],24⟩),
   (23,⟨.slice 82,1,false,[.nil],24⟩),
   (25,⟨.struct [(0,1,false),(1,1,false)],2,true,[.nil,.int .i64 (.n 0)],32⟩),
   (26,⟨.slice 49,1,false,[.nil],24⟩),
   (28,⟨.struct [(0,1,false),(1,2,true),(3,1,false)],4,true,[.bool (.b false),.nil,.int .i64 (.n 0),.nil],64⟩),
   (29,⟨.slice 42,1,false,[.nil],24⟩),
   (31,⟨.struct [(0,4,true),(4,1,false),(5,1,false)],6,true,[.bool (.b false),.nil,.int .i64 (.n 0),.nil,.nil,.nil],112⟩),
   (32,⟨.slice 3,1,false,[.nil],24⟩),
   (34,⟨.struct [(0,1,false),(1,1,false),(2,1,false),(3,1,false)],4,true,[.int .i64 (.n 0),.int .i64 (.n 0),.int .i64 (.n 0),.nil],48⟩),
   (42,⟨.struct [(0,1,false),(1,1,false),(2,1,false),(3,2,true)],5,true,[.int .i64 (.n 0),.bool (.b false),.int .i64 (.n 0),.nil,.int .i64 (.n 0)],56⟩),
   (49,⟨.struct [(0,1,false),(1,1,false),(2,1,false),(3,1,false)],4,true,[.int .i64 (.n 0),.int .i64 (.n 0),.int .i64 (.n 0),.int .i64 (.n 0)],32⟩),
   (50,⟨.slice 54,1,false,[.nil],24⟩),
   (54,⟨.struct [(0,1,false),(1,1,false)],2,true,[.nil,.int .i64 (.n 0)],32⟩),
   (82,⟨.struct [(0,1,false),(1,1,false),(2,1,false)],3,true,[.int .i64 (.n 0),.int .i64 (.n 0),.nil],40⟩),
   (102,⟨.struct [(0,1,false),(1,1,false)],2,true,[.nil,.int .i64 (.n 0)],32⟩),
   (103,⟨.slice 34,1,false,[.nil],24⟩),
   (113,⟨.slice 166,1,false,[.nil],24⟩),
   (115,⟨.struct [(0,1,false),(1,1,false)],2,true,[.int .i64 (.n 0),.nil],32⟩),
   (119,⟨.arr 2 3,2,true,[.int .i64 (.n 0),.int .i64 (.n 0)],16⟩),
   (120,⟨.map 3 119,1,false,[.any],8⟩),
   (166,⟨.struct [(0,1,false),(1,1,false)],2,true,[.int .i64 (.n 0),.int .i64 (.n 0)],16⟩)]
def tab':Tab:=yS tab
theorem Jm:bK Proofs.Tryz.prog (yS tab):=FW (by kernel_rfl)
end Dx
namespace Dx
open Go Go.Proofs
def eqs:List (Nat×Nat):=[(49,4),(166,2)]
theorem Jn:Cd Tryz.prog (AU eqs):=KV (by kernel_rfl)
theorem vx:Tryz.prog.follows .mixedOrders=true:=by kernel_rfl
def aS:List (Nat×List Sh):=[(42,[.val,.val,.val,(.arr 82 [.val,.val,.val]),.val])]
def rowsD:List (Nat×List Sh):=[]
def t7(fn:Func):Code:=match fn.body with
 | some b=>b
 | none=>.skip
def bs:List (Nat×Bool×Nat×Nat):=[]
set_option maxRecDepth 100000 in
theorem bs_ok:∀ p∈bs,yH Tryz.prog p.1 p.2:=by
 intro p hp
 simp only[bs,List.mem_cons,List.not_mem_nil,or_false]at hp
def gE(R:List (Nat×List Sh))(tr:Bool)(E:List (Nat×Nat×Con)):Env:=⟨yS tab,AU eqs,getR R,EE E,tr,FX bs⟩
abbrev hE:How:=⟨aB [],aB [],aB []⟩
abbrev sI(n:Nat):SV:=.int .i64 (.v n)
theorem fo{G:Env}{Φ:Phi}(hG:EnvOk Tryz.prog G Φ){f:FuncId}(fn:Func){c:Con}(H:How){t:Tree}(h:(Tryz.prog.funcs[f]?,fn.body,fn.name== "runtime.NumGoroutine",fnT G H c fn (t7 fn))=(some fn,some (t7 fn),false,t)):Has Tryz.prog f c (fun cs=>aj (den Φ t cs)):=by
 simp only[Prod.mk.injEq]at h
 exact fn_ok hG h.1 h.2.1 h.2.2.1 h.2.2.2
theorem eo{E:Nat->List (Nat×Con)}{R:Rows}{tr:Bool}{Φ:Phi}(h:∀ f c,c∈E f->Has Tryz.prog f c.2 (Φ c.1)):EnvOk Tryz.prog ⟨yS tab,AU eqs,R,E,tr,FX bs⟩ Φ:=⟨Jm,Jn,h,vx,AV bs_ok⟩
theorem fp{E:List (Nat×Nat×Con)}{R:List (Nat×List Sh)}{tr:Bool}{Φ:Phi}(m:z8 Tryz.prog Φ E){f:FuncId}(fn:Func){c:Con}(H:How){t:Tree}(h:(Tryz.prog.funcs[f]?,fn.body,fn.name== "runtime.NumGoroutine",fnT (gE R tr E) H c fn (t7 fn))=(some fn,some (t7 fn),false,t)):Has Tryz.prog f c (fun cs=>aj (den Φ t cs)):=fo (eo (tj (oQ m))) fn H h
abbrev v5:List Sh:=[.val,.val,.val,.val,.val]
abbrev v4:List Sh:=[.val,.val,.val,.val]
abbrev v3:List Sh:=[.val,.val,.val]
abbrev kW:List CK:=[.bool,.list,kI,.list,.list,.list]
abbrev kD:List CK:=[.bool,.list,kI,.list]
abbrev kH:List CK:=[kI,.bool,kI,.list,kI]
abbrev kJ:List CK:=[kI,kI,kI,kI]
def Iq:Con:=⟨[.own false [.val] [.list] false],[⟨false,[.val,.val],[.list,kI],true⟩]⟩
theorem zG:Has Tryz.prog 42 Iq me:=fp (R:=aS) (tr:=false) (E:=[]) (Φ:=ph []) (t:=t_gb) trivial Tryz.f42 hE (by kernel_rfl)
def sK:Con:=⟨[.ptr [.val,.val] [.list,kI],.ro false [kI]],[⟨false,[.val],[kI],false⟩]⟩
theorem gl:Has Tryz.prog 45 sK aL:=fp (R:=aS) (tr:=false) (E:=[]) (Φ:=ph []) (t:=t_cm) trivial Tryz.f45 hE (by kernel_rfl)
def c_do:Con:=⟨[.ptr [.val,.val] [.list,kI]],[⟨false,[(.arr 3 [.val])],[.list],false⟩]⟩
theorem Jo:Has Tryz.prog 126 c_do wv:=fp (R:=aS) (tr:=false) (E:=[(45,0,sK)]) (Φ:=FY) (t:=t_do) ⟨gl,trivial⟩ Tryz.f126 hE (by kernel_rfl)
def c_eu:Con:=⟨[],[⟨true,[.val,(.arr 82 v3),.val,(.arr 49 v4)],kD,false⟩]⟩
theorem Jp:Has Tryz.prog 154 c_eu ww:=fp (R:=aS) (tr:=false) (E:=[]) (Φ:=ph []) (t:=t_eu) trivial Tryz.f154 hE (by kernel_rfl)
def rG:Con:=⟨[.ro false [kI],.ro false [kI],.ro false [kI]],[⟨false,[.val],[.bool],false⟩]⟩
theorem fP:Has Tryz.prog 104 rG ce:=fp (R:=aS) (tr:=false) (E:=[]) (Φ:=ph []) (t:=t_gr) trivial Tryz.f104 hE (by kernel_rfl)
def c_dd:Con:=⟨[.ro false [kI]],[⟨true,[.val,(.arr 166 [.val,.val])],[kI,.list],false⟩,⟨false,[.val],[.bool],false⟩]⟩
theorem Dz:Has Tryz.prog 137 c_dd qj:=fp (R:=aS) (tr:=false) (E:=[(104,0,rG)]) (Φ:=FZ) (t:=t_dd) ⟨fP,trivial⟩ Tryz.f137 hE (by kernel_rfl)
def c_db:Con:=⟨[.ro false [kI],.ro false [kI]],[⟨true,[.val,.val,.val,(.arr 82 v3),.val],kH,false⟩,⟨false,[.val],[.bool],false⟩]⟩
theorem Jq:Has Tryz.prog 155 c_db wy:=fp (R:=aS) (tr:=false) (E:=[(137,0,c_dd),(104,1,rG)]) (Φ:=F0) (t:=t_db) ⟨Dz,fP,trivial⟩ Tryz.f155 hE (by kernel_rfl)
def c_ds:Con:=⟨[.ro false [.list]],[⟨true,[.val,(.arr 82 v3),.val,(.arr 49 v4),(.arr 42 [.val,.val,.val,(.arr 82 v3),.val]),(.arr 49 v4)],kW,false⟩,⟨false,[.val],[.bool],false⟩]⟩
def h_ds:How:=⟨aB [(0,⟨[kI,.list],[(3,(.bool (.b false))),(5,(sI 0))],[(4,.cells [(.bool (.v 1001)),(.sl 1),(sI 1003),(.sl 2),(.sl 1000),(.sl 3)]),(1000,.arr 42 [.val,.val,.val,(.arr 82 v3),.val] (.v 1))],[],1⟩)],
 aB [],
 aB []⟩
theorem Jr:Has Tryz.prog 127 c_ds wz:=fp (R:=aS) (tr:=false) (E:=[(154,0,c_eu),(155,1,c_db)]) (Φ:=F1) (t:=t_ds) ⟨Jp,Jq,trivial⟩ Tryz.f127 h_ds (by kernel_rfl)
def c_fl:Con:=⟨[.ro false [.list]],[⟨false,[.val],[.bool],false⟩]⟩
def h_fl:How:=⟨aB [(0,⟨[kI,kI],[(2,(.bool (.b false))),(3,(sI 0)),(4,(sI 1))],[],[],0⟩)],
 aB [],
 aB []⟩
theorem Js:Has Tryz.prog 110 c_fl wA:=fp (R:=aS) (tr:=false) (E:=[(104,0,rG)]) (Φ:=F2) (t:=t_fl) ⟨fP,trivial⟩ Tryz.f110 h_fl (by kernel_rfl)
def DA:Con:=⟨[.ro true [kI,kI,.list]],[⟨false,[.val],[.bool],false⟩]⟩
theorem pQ:Has Tryz.prog 62 DA gW:=fp (R:=aS) (tr:=false) (E:=[(104,0,rG),(110,1,c_fl)]) (Φ:=F3) (t:=t_gp) ⟨fP,Js,trivial⟩ Tryz.f62 hE (by kernel_rfl)
def c_fy:Con:=⟨[.ro false [.list],.ro true [kI,kI,.list]],[⟨false,[.val],[.bool],false⟩]⟩
theorem DB:Has Tryz.prog 111 c_fy qk:=fp (R:=aS) (tr:=false) (E:=[]) (Φ:=ph []) (t:=t_fy) trivial Tryz.f111 hE (by kernel_rfl)
def jZ:Con:=⟨[.own false [(.arr 54 [.val,.val])] [.list] false,.ro true [kI,kI,.list]],[⟨false,[(.arr 54 [.val,.val])],[.list],false⟩]⟩
theorem mV:Has Tryz.prog 124 jZ cS:=fp (R:=aS) (tr:=false) (E:=[]) (Φ:=ph []) (t:=jR) trivial Tryz.f124 hE (by kernel_rfl)
def c_gk:Con:=⟨[.ro false [.list]],[⟨false,[.val],[.list],false⟩,⟨false,[.val],[.bool],false⟩]⟩
def h_gk:How:=⟨aB [(0,⟨[kI,.list],[(2,.nil),(3,(.bool (.b false))),(4,(.sl 1000)),(5,(sI 0))],[(1000,.arr 54 [.val,.val] (.v 1))],[0],1⟩)],
 aB [],
 aB []⟩
theorem DC:Has Tryz.prog 76 c_gk mf:=fp (R:=aS) (tr:=false) (E:=[(62,0,DA),(111,1,c_fy),(124,2,jZ)]) (Φ:=F4) (t:=t_gk) ⟨pQ,DB,mV,trivial⟩ Tryz.f76 h_gk (by kernel_rfl)
def As:Con:=⟨[.ro true kD,.ro false [.bool]],[⟨false,[.val],[.list],false⟩]⟩
theorem kj:Has Tryz.prog 84 As dw:=fp (R:=aS) (tr:=false) (E:=[(76,0,c_gk)]) (Φ:=F5) (t:=t_dr) ⟨DC,trivial⟩ Tryz.f84 hE (by kernel_rfl)
def c_go:Con:=⟨[.own true [(.arr 82 v3),.val] [.list,kI] false,.own true v3 [kI,kI,.list] false],[⟨true,[(.arr 82 v3),.val],[.list,kI],false⟩,⟨false,[.val],[.bool],false⟩]⟩
theorem DD:Has Tryz.prog 112 c_go ql:=fp (R:=aS) (tr:=false) (E:=[]) (Φ:=ph []) (t:=t_go) trivial Tryz.f112 hE (by kernel_rfl)
def Ir:Con:=⟨[.own true [.val,(.arr 82 v3),.val,(.arr 49 v4)] kD false,.own true v3 [kI,kI,.list] false],[⟨true,[.val,(.arr 82 v3),.val,(.arr 49 v4)],kD,false⟩,⟨false,[.val],[.bool],false⟩]⟩
theorem zH:Has Tryz.prog 63 Ir cV:=fp (R:=aS) (tr:=false) (E:=[(84,0,As),(111,1,c_fy),(112,2,c_go)]) (Φ:=F6) (t:=t_du) ⟨kj,DB,DD,trivial⟩ Tryz.f63 hE (by kernel_rfl)
def DE:Con:=⟨[.ro false [.list],.ro true kJ],[⟨false,[.val],[.bool],false⟩]⟩
def h_ej:How:=⟨aB [(0,⟨[kI],[(4,(.bool (.b false))),(5,(sI 0))],[],[],0⟩)],
 aB [],
 aB []⟩
theorem pR:Has Tryz.prog 78 DE gX:=fp (R:=aS) (tr:=false) (E:=[]) (Φ:=ph []) (t:=t_ej) trivial Tryz.f78 h_ej (by kernel_rfl)
def Is:Con:=⟨[.ro true kD],[⟨false,[.val],[.list],false⟩]⟩
def h_dq:How:=⟨aB [(0,⟨[kI,.list],[(3,(.sl 1000)),(5,(sI 0))],[(1000,.arr 49 v4 (.v 1))],[1],1⟩),(2,⟨[kI,.list],[(3,(.sl 1000)),(6,(sI 0))],[(1000,.arr 49 v4 (.v 1))],[2],1⟩)],
 aB [],
 aB []⟩
theorem zI:Has Tryz.prog 85 Is kq:=fp (R:=aS) (tr:=false) (E:=[(84,0,As),(78,1,DE)]) (Φ:=F7) (t:=t_dq) ⟨kj,pR,trivial⟩ Tryz.f85 h_dq (by kernel_rfl)
def c_fu:Con:=⟨[.own true [.val,(.arr 82 v3),.val,(.arr 49 v4),(.arr 42 [.val,.val,.val,(.arr 82 v3),.val]),(.arr 49 v4)] kW false,.ro true kJ],[⟨true,[.val,(.arr 82 v3),.val,(.arr 49 v4),(.arr 42 [.val,.val,.val,(.arr 82 v3),.val]),(.arr 49 v4)],kW,false⟩]⟩
theorem DF:Has Tryz.prog 131 c_fu mY:=fp (R:=aS) (tr:=false) (E:=[]) (Φ:=ph []) (t:=t_fu) trivial Tryz.f131 hE (by kernel_rfl)
def c_eo:Con:=⟨[.own true [.val,(.arr 82 v3),.val,(.arr 49 v4),(.arr 42 [.val,.val,.val,(.arr 82 v3),.val]),(.arr 49 v4)] kW false,.ro true [kI,kI,kI,.list]],[⟨true,[.val,(.arr 82 v3),.val,(.arr 49 v4),(.arr 42 [.val,.val,.val,(.arr 82 v3),.val]),(.arr 49 v4)],kW,false⟩]⟩
theorem Jt:Has Tryz.prog 99 c_eo wB:=fp (R:=aS) (tr:=false) (E:=[(84,0,As),(62,1,DA),(63,2,Ir),(104,3,rG),(85,4,Is),(131,5,c_fu)]) (Φ:=F8) (t:=t_eo) ⟨kj,pQ,zH,fP,zI,DF,trivial⟩ Tryz.f99 hE (by kernel_rfl)
def c_fd:Con:=⟨[.own true [.val,(.arr 82 v3),.val,(.arr 49 v4),(.arr 42 [.val,.val,.val,(.arr 82 v3),.val]),(.arr 49 v4)] kW false,.ro false [kI]],[⟨true,[.val,(.arr 82 v3),.val,(.arr 49 v4),(.arr 42 [.val,.val,.val,(.arr 82 v3),.val]),(.arr 49 v4)],kW,false⟩]⟩
theorem Ju:Has Tryz.prog 132 c_fd tu:=fp (R:=aS) (tr:=false) (E:=[]) (Φ:=ph []) (t:=t_fd) trivial Tryz.f132 hE (by kernel_rfl)
def Ft:Con:=⟨[.ro true kJ],[⟨false,[.val],[.bool],false⟩]⟩
theorem t8:Has Tryz.prog 52 Ft jk:=fp (R:=aS) (tr:=false) (E:=[(104,0,rG)]) (Φ:=F9) (t:=t_fj) ⟨fP,trivial⟩ Tryz.f52 hE (by kernel_rfl)
def c_fo:Con:=⟨[.ro true kD,.ro false [kI],.ro false [.list],.ro false [kI]],[⟨false,[.val],[.bool],false⟩]⟩
def h_fo:How:=⟨aB [(0,⟨[kI],[(8,(.bool (.b false))),(9,(sI 0))],[],[],0⟩)],
 aB [],
 aB []⟩
theorem Jv:Has Tryz.prog 152 c_fo wC:=fp (R:=aS) (tr:=false) (E:=[(78,0,DE)]) (Φ:=Ga) (t:=t_fo) ⟨pR,trivial⟩ Tryz.f152 h_fo (by kernel_rfl)
def c_ge:Con:=⟨[.ro true kD,.ro false [kI],.ro false [.list],.ro false [kI]],[⟨false,[.val],[.bool],false⟩]⟩
def h_ge:How:=⟨aB [(0,⟨[kI],[(8,(.bool (.b false))),(9,(sI 0))],[],[],0⟩)],
 aB [],
 aB []⟩
theorem Jw:Has Tryz.prog 153 c_ge mg:=fp (R:=aS) (tr:=false) (E:=[(78,0,DE)]) (Φ:=Gb) (t:=t_ge) ⟨pR,trivial⟩ Tryz.f153 h_ge (by kernel_rfl)
def c_da:Con:=⟨[.own true [.val,(.arr 82 v3),.val,(.arr 49 v4)] kD false,.ro false [kI]],[⟨true,[.val,(.arr 82 v3),.val,(.arr 49 v4)],kD,false⟩]⟩
def h_da:How:=⟨aB [],
 aB [(9,⟨[.bool],[(47,(.bool (.v 0)))],[],[],0⟩),(7,⟨[.bool],[(36,(.bool (.v 0)))],[],[],0⟩),(5,⟨[.bool],[(8,(.bool (.v 0)))],[],[],0⟩)],
 aB []⟩
theorem Jx:Has Tryz.prog 123 c_da tz:=fp (R:=aS) (tr:=false) (E:=[(84,0,As),(152,1,c_fo),(153,2,c_ge),(63,3,Ir)]) (Φ:=Gc) (t:=t_da) ⟨kj,Jv,Jw,zH,trivial⟩ Tryz.f123 h_da (by kernel_rfl)
def c_es:Con:=⟨[.own true [.val,(.arr 82 v3),.val,(.arr 49 v4)] kD false,.ro true kJ],[⟨true,[.val,(.arr 82 v3),.val,(.arr 49 v4)],kD,false⟩]⟩
theorem DG:Has Tryz.prog 75 c_es qm:=fp (R:=aS) (tr:=false) (E:=[(52,0,Ft),(84,1,As),(78,2,DE),(123,3,c_da)]) (Φ:=Ge) (t:=t_es) ⟨t8,kj,pR,Jx,trivial⟩ Tryz.f75 hE (by kernel_rfl)
def c_fv:Con:=⟨[.ro true [kI,.list]],[⟨false,[.val],[kI],false⟩]⟩
def h_fv:How:=⟨aB [(0,⟨[kI,kI],[(3,(sI 0)),(4,(sI 1))],[],[],0⟩)],
 aB [],
 aB []⟩
theorem Jy:Has Tryz.prog 158 c_fv wD:=fp (R:=aS) (tr:=false) (E:=[]) (Φ:=ph []) (t:=t_fv) trivial Tryz.f158 h_fv (by kernel_rfl)
def c_gn:Con:=⟨[.ro true [kI,.list],.ro true [kI,kI,.list]],[⟨false,[.val],[.bool],false⟩]⟩
theorem DH:Has Tryz.prog 138 c_gn qn:=fp (R:=aS) (tr:=false) (E:=[(158,0,c_fv)]) (Φ:=Gf) (t:=t_gn) ⟨Jy,trivial⟩ Tryz.f138 hE (by kernel_rfl)
def lT:Con:=⟨[.own true [.val,(.arr 166 [.val,.val])] [kI,.list] false,.ro true [kI,kI,.list]],[⟨true,[.val,(.arr 166 [.val,.val])],[kI,.list],false⟩]⟩
theorem pS:Has Tryz.prog 139 lT di:=fp (R:=aS) (tr:=false) (E:=[]) (Φ:=ph []) (t:=lG) trivial Tryz.f139 hE (by kernel_rfl)
def c_gq:Con:=⟨[.ro false [kI],.ro false [.list]],[⟨true,[.val,.val],[kI,.list],false⟩,⟨false,[.val],[.bool],false⟩]⟩
def h_gq:How:=⟨aB [(0,⟨[kI,kI,.list],[(5,(.bool (.b false))),(8,(sI 0))],[(2,.cells [(sI 1),(.sl 1000)]),(1000,.arr 166 [.val,.val] (.v 2))],[1],1⟩)],
 aB [],
 aB []⟩
theorem DI:Has Tryz.prog 103 c_gq mh:=fp (R:=aS) (tr:=false) (E:=[(137,0,c_dd),(62,1,DA),(138,2,c_gn),(139,3,lT)]) (Φ:=Gg) (t:=t_gq) ⟨Dz,pQ,DH,pS,trivial⟩ Tryz.f103 h_gq (by kernel_rfl)
def c_dt:Con:=⟨[.ro true kH,.ro false [.bool]],[⟨true,[.val,.val],[kI,.list],false⟩]⟩
theorem Jz:Has Tryz.prog 166 c_dt qo:=fp (R:=aS) (tr:=false) (E:=[(103,0,c_gq)]) (Φ:=Gh) (t:=t_dt) ⟨DI,trivial⟩ Tryz.f166 hE (by kernel_rfl)
def c_fx:Con:=⟨[.ro true kJ],[⟨true,v3,[kI,kI,.list],false⟩]⟩
theorem JA:Has Tryz.prog 167 c_fx wE:=fp (R:=aS) (tr:=false) (E:=[]) (Φ:=ph []) (t:=t_fx) trivial Tryz.f167 hE (by kernel_rfl)
def c_cj:Con:=⟨[.ro true kH,.ro true kJ,.ro false [kI]],[⟨true,v4,kJ,false⟩,⟨false,[.val],[.bool],false⟩]⟩
def h_cj:How:=⟨aB [],
 aB [(6,⟨[.bool],[(28,(.bool (.v 0)))],[],[],0⟩),(4,⟨[.bool],[(15,(.bool (.v 0)))],[],[],0⟩)],
 aB []⟩
theorem JB:Has Tryz.prog 168 c_cj tD:=fp (R:=aS) (tr:=false) (E:=[]) (Φ:=ph []) (t:=t_cj) trivial Tryz.f168 h_cj (by kernel_rfl)
def c_fh:Con:=⟨[.own true [.val,.val,.val,(.arr 82 v3),.val] kH false,.ro true kJ],[⟨true,[.val,.val,.val,(.arr 82 v3),.val],kH,false⟩,⟨true,v4,kJ,false⟩,⟨false,[.val],[.bool],false⟩]⟩
theorem JC:Has Tryz.prog 157 c_fh wF:=fp (R:=aS) (tr:=false) (E:=[(52,0,Ft),(166,1,c_dt),(167,2,c_fx),(138,3,c_gn),(112,4,c_go),(168,5,c_cj)]) (Φ:=Gi) (t:=t_fh) ⟨t8,Jz,JA,DH,DD,JB,trivial⟩ Tryz.f157 hE (by kernel_rfl)
def c_ek:Con:=⟨[.own true [.val,(.arr 82 v3),.val,(.arr 49 v4),(.arr 42 [.val,.val,.val,(.arr 82 v3),.val]),(.arr 49 v4)] kW false,.ro true kJ],[⟨true,[.val,(.arr 82 v3),.val,(.arr 49 v4),(.arr 42 [.val,.val,.val,(.arr 82 v3),.val]),(.arr 49 v4)],kW,false⟩,⟨true,v4,kJ,false⟩,⟨false,[.val],[.bool],false⟩]⟩
theorem JD:Has Tryz.prog 133 c_ek wG:=fp (R:=aS) (tr:=false) (E:=[(75,0,c_es),(157,1,c_fh)]) (Φ:=Gj) (t:=t_ek) ⟨DG,JC,trivial⟩ Tryz.f133 hE (by kernel_rfl)
def c_fw:Con:=⟨[.own true [.val,(.arr 82 v3),.val,(.arr 49 v4),(.arr 42 [.val,.val,.val,(.arr 82 v3),.val]),(.arr 49 v4)] kW false,.ro true [kI,kI,kI,.list]],[⟨true,[.val,(.arr 82 v3),.val,(.arr 49 v4),(.arr 42 [.val,.val,.val,(.arr 82 v3),.val]),(.arr 49 v4)],kW,false⟩]⟩
theorem JE:Has Tryz.prog 100 c_fw qp:=fp (R:=aS) (tr:=false) (E:=[(104,0,rG),(132,1,c_fd),(131,2,c_fu),(133,3,c_ek)]) (Φ:=Gk) (t:=t_fw) ⟨fP,Ju,DF,JD,trivial⟩ Tryz.f100 hE (by kernel_rfl)
def c_dw:Con:=⟨[.own true [.val,(.arr 82 v3),.val,(.arr 49 v4),(.arr 42 [.val,.val,.val,(.arr 82 v3),.val]),(.arr 49 v4)] kW false,.ro false [kI]],[⟨true,[.val,(.arr 82 v3),.val,(.arr 49 v4),(.arr 42 [.val,.val,.val,(.arr 82 v3),.val]),(.arr 49 v4)],kW,false⟩]⟩
def h_dw:How:=⟨aB [],
 aB [(3,⟨[kI],[],[(4,.cells [(.bool (.v 1000)),(.sl 0),(sI 0),(.sl 1),(.sl 2),(.sl 3)])],[],0⟩)],
 aB []⟩
theorem JF:Has Tryz.prog 134 c_dw wH:=fp (R:=aS) (tr:=false) (E:=[(104,0,rG)]) (Φ:=Gl) (t:=t_dw) ⟨fP,trivial⟩ Tryz.f134 h_dw (by kernel_rfl)
def c_fn:Con:=⟨[.own true [(.arr 82 v3),.val] [.list,kI] false,.ro false [kI]],[⟨true,[(.arr 82 v3),.val],[.list,kI],false⟩]⟩
theorem DJ:Has Tryz.prog 136 c_fn qq:=fp (R:=aS) (tr:=true) (E:=[]) (Φ:=ph []) (t:=t_fn) trivial Tryz.f136 hE (by kernel_rfl)
def c_ey:Con:=⟨[.own true [.val,(.arr 82 v3),.val,(.arr 49 v4)] kD false,.ro false [kI]],[⟨true,[.val,(.arr 82 v3),.val,(.arr 49 v4)],kD,false⟩]⟩
theorem JG:Has Tryz.prog 135 c_ey wI:=fp (R:=aS) (tr:=false) (E:=[(136,0,c_fn)]) (Φ:=Gm) (t:=t_ey) ⟨DJ,trivial⟩ Tryz.f135 hE (by kernel_rfl)
def c_eq:Con:=⟨[.own true [.val,(.arr 82 v3),.val,(.arr 49 v4),(.arr 42 [.val,.val,.val,(.arr 82 v3),.val]),(.arr 49 v4)] kW false,.ro true [kI,kI,kI,.list]],[⟨true,[.val,(.arr 82 v3),.val,(.arr 49 v4),(.arr 42 [.val,.val,.val,(.arr 82 v3),.val]),(.arr 49 v4)],kW,false⟩]⟩
theorem JH:Has Tryz.prog 101 c_eq qr:=fp (R:=aS) (tr:=false) (E:=[(104,0,rG),(134,1,c_dw),(135,2,c_ey),(136,3,c_fn)]) (Φ:=Gn) (t:=t_eq) ⟨fP,JF,JG,DJ,trivial⟩ Tryz.f101 hE (by kernel_rfl)
def c_gl:Con:=⟨[.own true [.val,(.arr 82 v3),.val,(.arr 49 v4),(.arr 42 [.val,.val,.val,(.arr 82 v3),.val]),(.arr 49 v4)] kW false,.ro true [kI,kI,kI,.list]],[⟨true,[.val,(.arr 82 v3),.val,(.arr 49 v4),(.arr 42 [.val,.val,.val,(.arr 82 v3),.val]),(.arr 49 v4)],kW,false⟩]⟩
def h_gl:How:=⟨aB [],
 aB [(5,⟨[.bool],[(7,(.bool (.v 0)))],[],[],0⟩)],
 aB []⟩
theorem DK:Has Tryz.prog 49 c_gl mi:=fp (R:=aS) (tr:=false) (E:=[(99,0,c_eo),(100,1,c_fw),(101,2,c_eq)]) (Φ:=Gp) (t:=t_gl) ⟨Jt,JE,JH,trivial⟩ Tryz.f49 h_gl (by kernel_rfl)
def c_dh:Con:=⟨[.ptr [.val,.val] [.list,kI],.ro true kW],[⟨true,v4,[kI,kI,kI,.list],false⟩]⟩
def h_dh:How:=⟨aB [],
 aB [(25,⟨[.bool],[(77,(.bool (.v 0)))],[],[],0⟩),(17,⟨[.bool],[(52,(.bool (.v 0)))],[],[],0⟩),(9,⟨[.bool],[(32,(.bool (.v 0)))],[],[],0⟩),(6,⟨[.list,kI],[],[(0,.cells [(.view true (.v 0)),(sI 1)])],[],0⟩)],
 aB []⟩
theorem DL:Has Tryz.prog 44 c_dh mZ:=fp (R:=aS) (tr:=false) (E:=[(84,0,As),(85,1,Is),(45,2,sK)]) (Φ:=Gq) (t:=t_dh) ⟨kj,zI,gl,trivial⟩ Tryz.f44 h_dh (by kernel_rfl)
def c_ep:Con:=⟨[.ptr [.val,.val] [.list,kI]],[⟨false,[(.arr 3 [.val])],[.list],false⟩,⟨false,[(.arr 34 v4)],[.list],false⟩,⟨true,[.val,(.arr 82 v3),.val,(.arr 49 v4),(.arr 42 [.val,.val,.val,(.arr 82 v3),.val]),(.arr 49 v4)],kW,false⟩]⟩
def h_ep:How:=⟨aB [(2,⟨[kI,.list,kI,.bool,kI,.list,.list,.list,.list,.list],[(8,(.sl 1000)),(11,(sI 0))],[(0,.cells [(.view true (.v 1)),(sI 2)]),(7,.cells [(.bool (.v 3)),(.sl 1001),(sI 4),(.sl 1002),(.sl 1003),(.sl 1004)]),(1000,.arr 34 v4 (.v 5)),(1001,.arr 82 v3 (.v 6)),(1002,.arr 49 v4 (.v 7)),(1003,.arr 42 [.val,.val,.val,(.arr 82 v3),.val] (.v 8)),(1004,.arr 49 v4 (.v 9))],[9,10,11,12,13],5⟩),(0,⟨[kI,.bool,kI,.list,.list,.list,.list,.list],[(8,(.sl 1000)),(29,(sI 0))],[(7,.cells [(.bool (.v 1)),(.sl 1001),(sI 2),(.sl 1002),(.sl 1003),(.sl 1004)]),(1000,.arr 34 v4 (.v 3)),(1001,.arr 82 v3 (.v 4)),(1002,.arr 49 v4 (.v 5)),(1003,.arr 42 [.val,.val,.val,(.arr 82 v3),.val] (.v 6)),(1004,.arr 49 v4 (.v 7))],[8,3,4,5,6],5⟩)],
 aB [(11,⟨[.bool,kI,.list,kI,.list,.list,.list,.list,.list],[(8,(.sl 1000))],[(7,.cells [(.bool (.v 0)),(.sl 1001),(sI 1),(.sl 1002),(.sl 1003),(.sl 1004)]),(0,.cells [(.view true (.v 2)),(sI 3)]),(1000,.arr 34 v4 (.v 4)),(1001,.arr 82 v3 (.v 5)),(1002,.arr 49 v4 (.v 6)),(1003,.arr 42 [.val,.val,.val,(.arr 82 v3),.val] (.v 7)),(1004,.arr 49 v4 (.v 8))],[8,3,4,5,6],5⟩)],
 aB []⟩
theorem DM:Has Tryz.prog 83 c_ep qt:=fp (R:=aS) (tr:=false) (E:=[(126,0,c_do),(127,1,c_ds),(45,2,sK),(49,3,c_gl),(44,4,c_dh)]) (Φ:=Gr) (t:=t_ep) ⟨Jo,Jr,gl,DK,DL,trivial⟩ Tryz.f83 h_ep (by kernel_rfl)
def It:Con:=⟨[.ptr [.val,.val] [.list,kI]],[⟨true,v4,kJ,false⟩]⟩
def h_fb:How:=⟨aB [],
 aB [(4,⟨[kI,.list,kI],[],[(2,.cells [(sI 1005),(sI 1009),(sI 1013),(sI 0)]),(0,.cells [(.view true (.v 1)),(sI 2)])],[],0⟩)],
 aB []⟩
theorem zJ:Has Tryz.prog 72 It ku:=fp (R:=aS) (tr:=false) (E:=[(45,0,sK)]) (Φ:=Gt) (t:=t_fb) ⟨gl,trivial⟩ Tryz.f72 h_fb (by kernel_rfl)
def c_dm:Con:=⟨[.ptr [.val,.val] [.list,kI]],[⟨true,[.val,.val,.val,.val,.val,.val],kW,false⟩]⟩
def h_dm:How:=⟨aB [(1,⟨[.list],[],[(8,.cells [(.bool (.v 1004)),(.sl 4),(sI 1006),(.sl 5),(.sl 6),(.sl 1000)]),(1000,.arr 49 v4 (.v 0))],[7],1⟩)],
 aB [],
 aB []⟩
theorem JI:Has Tryz.prog 43 c_dm wJ:=fp (R:=aS) (tr:=true) (E:=[(83,0,c_ep),(45,1,sK),(72,2,It)]) (Φ:=Gu) (t:=t_dm) ⟨DM,gl,zJ,trivial⟩ Tryz.f43 h_dm (by kernel_rfl)
def Iu:Con:=⟨[.ptr [.val,.val] [.list,kI]],[⟨false,[(.arr 1000003 [.val])],[.list],false⟩]⟩
def h_fg:How:=⟨aB [],
 aB [(4,⟨[.list,.list,kI],[],[(1,.arr 3 [.val] (.v 0)),(0,.cells [(.view true (.v 1)),(sI 2)])],[],0⟩)],
 aB []⟩
theorem zK:Has Tryz.prog 46 Iu mj:=fp (R:=aS) (tr:=true) (E:=[(45,0,sK)]) (Φ:=Gv) (t:=t_fg) ⟨gl,trivial⟩ Tryz.f46 h_fg (by kernel_rfl)
def Fu:Con:=⟨[.own false [.val] [.list] false],[⟨true,[.val,.val,.val,.val,.val,.val],kW,false⟩,⟨true,v4,[kI,kI,kI,.list],false⟩]⟩
theorem t9:Has Tryz.prog 15 Fu kv:=fp (R:=aS) (tr:=false) (E:=[(42,0,Iq),(43,1,c_dm),(44,2,c_dh),(45,3,sK),(46,4,Iu)]) (Φ:=Gw) (t:=t_bh) ⟨zG,JI,DL,gl,zK,trivial⟩ Tryz.f15 hE (by kernel_rfl)
def nV:Con:=⟨[.ro false [kI],.ro false [kI],.ro false [kI]],[⟨false,[.val],[.bool],false⟩]⟩
theorem ej:Has Tryz.prog 79 nV bE:=fp (R:=[]) (tr:=false) (E:=[]) (Φ:=ph []) (t:=t_gs) trivial Tryz.f79 hE (by kernel_rfl)
def c_bm:Con:=⟨[.ro false [kI]],[⟨false,[.val],[.bool],false⟩]⟩
theorem JJ:Has Tryz.prog 143 c_bm wK:=fp (R:=[]) (tr:=false) (E:=[(79,0,nV)]) (Φ:=Gx) (t:=t_bm) ⟨ej,trivial⟩ Tryz.f143 hE (by kernel_rfl)
def c_ao:Con:=⟨[.ro false [.list],.fn 143 []],[⟨false,[.val],[kI],false⟩]⟩
def h_ao:How:=⟨aB [(0,⟨[kI],[(4,(.int .i64 (.n 0))),(8,(sI 0))],[],[],0⟩)],
 aB [],
 aB []⟩
theorem JK:Has Tryz.prog 161 c_ao wL:=fp (R:=[]) (tr:=false) (E:=[(143,0,c_bm)]) (Φ:=Gy) (t:=t_ao) ⟨JJ,trivial⟩ Tryz.f161 h_ao (by kernel_rfl)
def c_al:Con:=⟨[.ro false [.list],.fn 143 []],[⟨false,[.val],[.bool],false⟩]⟩
theorem JL:Has Tryz.prog 145 c_al wM:=fp (R:=[]) (tr:=false) (E:=[(161,0,c_ao)]) (Φ:=Gz) (t:=t_al) ⟨JK,trivial⟩ Tryz.f145 hE (by kernel_rfl)
def c_bo:Con:=⟨[.ro false [kI]],[⟨false,[.val],[.bool],false⟩]⟩
theorem JM:Has Tryz.prog 144 c_bo wN:=fp (R:=[]) (tr:=false) (E:=[]) (Φ:=ph []) (t:=t_bo) trivial Tryz.f144 hE (by kernel_rfl)
def c_an:Con:=⟨[.ro false [.list],.fn 144 []],[⟨false,[.val],[kI],false⟩]⟩
def h_an:How:=⟨aB [(0,⟨[kI],[(4,(.int .i64 (.n 0))),(8,(sI 0))],[],[],0⟩)],
 aB [],
 aB []⟩
theorem JN:Has Tryz.prog 161 c_an wO:=fp (R:=[]) (tr:=false) (E:=[(144,0,c_bo)]) (Φ:=GA) (t:=t_an) ⟨JM,trivial⟩ Tryz.f161 h_an (by kernel_rfl)
def c_ak:Con:=⟨[.ro false [.list],.fn 144 []],[⟨false,[.val],[.bool],false⟩]⟩
theorem JO:Has Tryz.prog 145 c_ak wP:=fp (R:=[]) (tr:=false) (E:=[(161,0,c_an)]) (Φ:=GB) (t:=t_ak) ⟨JN,trivial⟩ Tryz.f145 hE (by kernel_rfl)
def c_dj:Con:=⟨[.ro false [.list]],[⟨false,[.val],[.bool],false⟩]⟩
theorem DN:Has Tryz.prog 115 c_dj qu:=fp (R:=[]) (tr:=false) (E:=[(145,0,c_al),(145,1,c_ak)]) (Φ:=GC) (t:=t_dj) ⟨JL,JO,trivial⟩ Tryz.f115 hE (by kernel_rfl)
def Iv:Con:=⟨[.ro false [kI]],[⟨false,[.val],[.bool],false⟩]⟩
theorem zM:Has Tryz.prog 81 Iv gY:=fp (R:=[]) (tr:=false) (E:=[(79,0,nV)]) (Φ:=GD) (t:=t_ft) ⟨ej,trivial⟩ Tryz.f81 hE (by kernel_rfl)
def DO:Con:=⟨[.ro true [kI,kI,.list]],[⟨false,[.val],[.bool],false⟩]⟩
theorem pT:Has Tryz.prog 66 DO gZ:=fp (R:=[]) (tr:=false) (E:=[(79,0,nV),(115,1,c_dj),(81,2,Iv)]) (Φ:=GE) (t:=t_gf) ⟨ej,DN,zM,trivial⟩ Tryz.f66 hE (by kernel_rfl)
def c_dx:Con:=⟨[.ro true [kI,kI,.list]],[⟨false,[.val],[.bool],false⟩]⟩
theorem JP:Has Tryz.prog 118 c_dx wQ:=fp (R:=[]) (tr:=false) (E:=[(66,0,DO)]) (Φ:=GF) (t:=t_dx) ⟨pT,trivial⟩ Tryz.f118 hE (by kernel_rfl)
def c_am:Con:=⟨[.ro false [.list],.fn 118 []],[⟨false,[.val],[kI],false⟩]⟩
def h_am:How:=⟨aB [(0,⟨[kI],[(4,(.int .i64 (.n 0))),(8,(sI 0))],[],[],0⟩)],
 aB [],
 aB []⟩
theorem JQ:Has Tryz.prog 149 c_am wR:=fp (R:=[]) (tr:=false) (E:=[(118,0,c_dx)]) (Φ:=GG) (t:=t_am) ⟨JP,trivial⟩ Tryz.f149 h_am (by kernel_rfl)
def c_ah:Con:=⟨[.ro false [.list],.fn 118 []],[⟨false,[.val],[.bool],false⟩]⟩
theorem JR:Has Tryz.prog 119 c_ah wS:=fp (R:=[]) (tr:=false) (E:=[(149,0,c_am)]) (Φ:=GH) (t:=t_ah) ⟨JQ,trivial⟩ Tryz.f119 hE (by kernel_rfl)
def DP:Con:=⟨[.ro true [.list,kI]],[⟨false,[.val],[.bool],false⟩]⟩
theorem pU:Has Tryz.prog 68 DP g0:=fp (R:=[]) (tr:=false) (E:=[(79,0,nV),(119,1,c_ah)]) (Φ:=GI) (t:=t_gh) ⟨ej,JR,trivial⟩ Tryz.f68 hE (by kernel_rfl)
def c_cu:Con:=⟨[.ro true [.list,kI]],[⟨false,[.val],[.bool],false⟩]⟩
theorem JS:Has Tryz.prog 162 c_cu wT:=fp (R:=[]) (tr:=false) (E:=[(115,0,c_dj),(79,1,nV)]) (Φ:=GJ) (t:=t_cu) ⟨DN,ej,trivial⟩ Tryz.f162 hE (by kernel_rfl)
def c_ai:Con:=⟨[.ro false [.list],.fn 162 []],[⟨false,[.val],[kI],false⟩]⟩
def h_ai:How:=⟨aB [(0,⟨[kI],[(4,(.int .i64 (.n 0))),(8,(sI 0))],[],[],0⟩)],
 aB [],
 aB []⟩
theorem JT:Has Tryz.prog 171 c_ai wU:=fp (R:=[]) (tr:=false) (E:=[(162,0,c_cu)]) (Φ:=GK) (t:=t_ai) ⟨JS,trivial⟩ Tryz.f171 h_ai (by kernel_rfl)
def c_ae:Con:=⟨[.ro false [.list],.fn 162 []],[⟨false,[.val],[.bool],false⟩]⟩
theorem JU:Has Tryz.prog 163 c_ae wV:=fp (R:=[]) (tr:=false) (E:=[(171,0,c_ai)]) (Φ:=GL) (t:=t_ae) ⟨JT,trivial⟩ Tryz.f163 hE (by kernel_rfl)
def c_fa:Con:=⟨[.ro false [.list]],[⟨false,[.val],[.bool],false⟩]⟩
theorem JV:Has Tryz.prog 146 c_fa wW:=fp (R:=[]) (tr:=false) (E:=[(163,0,c_ae)]) (Φ:=GM) (t:=t_fa) ⟨JU,trivial⟩ Tryz.f146 hE (by kernel_rfl)
def c_ex:Con:=⟨[.ro false [.list],.ro false [kI]],[⟨false,[.val],[kI],false⟩]⟩
theorem DQ:Has Tryz.prog 147 c_ex qv:=fp (R:=[]) (tr:=false) (E:=[(79,0,nV)]) (Φ:=GN) (t:=t_ex) ⟨ej,trivial⟩ Tryz.f147 hE (by kernel_rfl)
def c_dp:Con:=⟨[.ro false [.list],.ro true [kI,kI,.list]],[⟨false,[.val],[.bool],false⟩]⟩
theorem DR:Has Tryz.prog 116 c_dp qw:=fp (R:=[]) (tr:=false) (E:=[(146,0,c_fa),(66,1,DO),(147,2,c_ex)]) (Φ:=GO) (t:=t_dp) ⟨JV,pT,DQ,trivial⟩ Tryz.f116 hE (by kernel_rfl)
def c_bc:Con:=⟨[.ro false [.list]],[⟨false,[.val],[.list],false⟩]⟩
theorem DS:Has Tryz.prog 150 c_bc m6:=fp (R:=[]) (tr:=false) (E:=[]) (Φ:=ph []) (t:=t_bc) trivial Tryz.f150 hE (by kernel_rfl)
def c_dy:Con:=⟨[.ro false [.list],.ro true [kI,kI,.list]],[⟨false,[.val],[.list],false⟩,⟨false,[.val],[.bool],false⟩]⟩
def h_dy:How:=⟨aB [(0,⟨[kI,.list],[(6,(.sl 1000)),(16,(sI 0))],[(1000,.arr 54 [.val,.val] (.v 1))],[],1⟩)],
 aB [],
 aB []⟩
theorem JW:Has Tryz.prog 120 c_dy wX:=fp (R:=[]) (tr:=false) (E:=[(116,0,c_dp),(150,1,c_bc)]) (Φ:=GP) (t:=t_dy) ⟨DR,DS,trivial⟩ Tryz.f120 h_dy (by kernel_rfl)
def c_ed:Con:=⟨[.ro false [.list]],[⟨false,[.val],[.list],false⟩,⟨false,[.val],[.bool],false⟩]⟩
def h_ed:How:=⟨aB [(0,⟨[.list,.bool,kI],[(4,(.view true (.v 0))),(5,(.bool (.v 1))),(6,(sI 2))],[],[],0⟩)],
 aB [],
 aB []⟩
theorem DT:Has Tryz.prog 69 c_ed qx:=fp (R:=[]) (tr:=false) (E:=[(120,0,c_dy)]) (Φ:=GQ) (t:=t_ed) ⟨JW,trivial⟩ Tryz.f69 h_ed (by kernel_rfl)
def DU:Con:=⟨[.ro false [kI]],[⟨false,[.val],[.bool],false⟩]⟩
theorem pV:Has Tryz.prog 80 DU gC:=fp (R:=[]) (tr:=false) (E:=[(79,0,nV)]) (Φ:=GR) (t:=t_ea) ⟨ej,trivial⟩ Tryz.f80 hE (by kernel_rfl)
def DV:Con:=⟨[.ro true kJ],[⟨false,[.val],[.bool],false⟩]⟩
theorem pW:Has Tryz.prog 38 DV hD:=fp (R:=[]) (tr:=false) (E:=[(79,0,nV),(80,1,DU),(81,2,Iv)]) (Φ:=GS) (t:=t_ga) ⟨ej,pV,zM,trivial⟩ Tryz.f38 hE (by kernel_rfl)
def Fv:Con:=⟨[.ro true kJ],[⟨false,[.val],[.bool],false⟩]⟩
theorem ub:Has Tryz.prog 70 Fv jl:=fp (R:=[]) (tr:=false) (E:=[]) (Φ:=ph []) (t:=t_bg) trivial Tryz.f70 hE (by kernel_rfl)
def c_ar:Con:=⟨[.ro false [.list],.ro true kJ],[⟨false,[.val],[kI],false⟩]⟩
def h_ar:How:=⟨aB [(0,⟨[kI],[(4,(.int .i64 (.n 0))),(8,(sI 0))],[],[],0⟩)],
 aB [],
 aB []⟩
theorem JX:Has Tryz.prog 121 c_ar wY:=fp (R:=[]) (tr:=false) (E:=[]) (Φ:=ph []) (t:=t_ar) trivial Tryz.f121 h_ar (by kernel_rfl)
def Iw:Con:=⟨[.ro false [.list],.ro true kJ],[⟨false,[.val],[.bool],false⟩]⟩
theorem zN:Has Tryz.prog 71 Iw ml:=fp (R:=[]) (tr:=false) (E:=[(121,0,c_ar)]) (Φ:=GT) (t:=t_ap) ⟨JX,trivial⟩ Tryz.f71 hE (by kernel_rfl)
def pX:Con:=⟨[.ro true kD],[⟨false,[.val],[.bool],false⟩]⟩
def h_fm:How:=⟨aB [(0,⟨[kI],[(2,(.bool (.b false))),(32,(sI 0))],[],[],0⟩)],
 aB [(3,⟨[],[(2,(.bool (.b false)))],[],[],0⟩)],
 aB []⟩
theorem eV:Has Tryz.prog 32 pX cu:=fp (R:=[]) (tr:=false) (E:=[(68,0,DP),(69,1,c_ed),(38,2,DV),(70,3,Fv),(71,4,Iw)]) (Φ:=GU) (t:=t_fm) ⟨pU,DT,pW,ub,zN,trivial⟩ Tryz.f32 h_fm (by kernel_rfl)
def c_dv:Con:=⟨[.ro false [kI]],[⟨true,[.val,(.arr 166 [.val,.val])],[kI,.list],false⟩,⟨false,[.val],[.bool],false⟩]⟩
theorem JY:Has Tryz.prog 140 c_dv wZ:=fp (R:=[]) (tr:=false) (E:=[(79,0,nV)]) (Φ:=GV) (t:=t_dv) ⟨ej,trivial⟩ Tryz.f140 hE (by kernel_rfl)
def c_ew:Con:=⟨[.ro true [kI,kI]],[⟨false,[.val],[.bool],false⟩]⟩
theorem JZ:Has Tryz.prog 173 c_ew w8:=fp (R:=[]) (tr:=false) (E:=[(79,0,nV)]) (Φ:=GW) (t:=t_ew) ⟨ej,trivial⟩ Tryz.f173 hE (by kernel_rfl)
def c_cx:Con:=⟨[.ro true [kI,kI]],[⟨false,[.val],[.bool],false⟩]⟩
theorem J0:Has Tryz.prog 172 c_cx w9:=fp (R:=[]) (tr:=false) (E:=[(173,0,c_ew)]) (Φ:=GX) (t:=t_cx) ⟨JZ,trivial⟩ Tryz.f172 hE (by kernel_rfl)
def c_ag:Con:=⟨[.ro false [.list],.fn 172 []],[⟨false,[.val],[kI],false⟩]⟩
def h_ag:How:=⟨aB [(0,⟨[kI],[(4,(.int .i64 (.n 0))),(8,(sI 0))],[],[],0⟩)],
 aB [],
 aB []⟩
theorem J1:Has Tryz.prog 175 c_ag xa:=fp (R:=[]) (tr:=false) (E:=[(172,0,c_cx)]) (Φ:=GY) (t:=t_ag) ⟨J0,trivial⟩ Tryz.f175 h_ag (by kernel_rfl)
def c_af:Con:=⟨[.ro false [.list],.fn 172 []],[⟨false,[.val],[.bool],false⟩]⟩
theorem J2:Has Tryz.prog 174 c_af xb:=fp (R:=[]) (tr:=false) (E:=[(175,0,c_ag)]) (Φ:=GZ) (t:=t_af) ⟨J1,trivial⟩ Tryz.f174 hE (by kernel_rfl)
def c_bp:Con:=⟨[.ro true [kI,.list]],[⟨false,[.val],[kI],false⟩]⟩
def h_bp:How:=⟨aB [(0,⟨[kI,kI],[(3,(sI 0)),(11,(sI 1))],[],[],0⟩)],
 aB [],
 aB []⟩
theorem DW:Has Tryz.prog 170 c_bp qy:=fp (R:=[]) (tr:=false) (E:=[]) (Φ:=ph []) (t:=t_bp) trivial Tryz.f170 h_bp (by kernel_rfl)
def c_ez:Con:=⟨[.ro true [kI,.list]],[⟨false,[.val],[.bool],false⟩]⟩
theorem J3:Has Tryz.prog 169 c_ez xc:=fp (R:=[]) (tr:=false) (E:=[(79,0,nV),(174,1,c_af),(170,2,c_bp)]) (Φ:=G0) (t:=t_ez) ⟨ej,J2,DW,trivial⟩ Tryz.f169 hE (by kernel_rfl)
def c_df:Con:=⟨[.ro true [kI,.list],.ro true [kI,kI,.list]],[⟨false,[.val],[.bool],false⟩]⟩
theorem DX:Has Tryz.prog 159 c_df qz:=fp (R:=[]) (tr:=false) (E:=[(169,0,c_ez),(66,1,DO),(170,2,c_bp)]) (Φ:=G1) (t:=t_df) ⟨J3,pT,DW,trivial⟩ Tryz.f159 hE (by kernel_rfl)
def c_at:Con:=⟨[.ro false [.list]],[⟨false,[(.arr 166 [.val,.val])],[.list],false⟩]⟩
theorem J4:Has Tryz.prog 160 c_at xd:=fp (R:=[]) (tr:=false) (E:=[]) (Φ:=ph []) (t:=t_at) trivial Tryz.f160 hE (by kernel_rfl)
def c_ev:Con:=⟨[.ro true [kI,.list],.ro true [kI,kI,.list]],[⟨true,[.val,.val],[kI,.list],false⟩,⟨false,[.val],[.bool],false⟩]⟩
def h_ev:How:=⟨aB [],
 aB [(4,⟨[.list],[(6,(.ptr 1000 0))],[(1000,.cells [(sI 1000),(.sl 1001)]),(1001,.arr 166 [.val,.val] (.v 0))],[],2⟩)],
 aB []⟩
theorem J5:Has Tryz.prog 141 c_ev xe:=fp (R:=[]) (tr:=false) (E:=[(159,0,c_df),(160,1,c_at)]) (Φ:=G2) (t:=t_ev) ⟨DX,J4,trivial⟩ Tryz.f141 h_ev (by kernel_rfl)
def c_eh:Con:=⟨[.ro false [kI],.ro false [.list]],[⟨true,[.val,.val],[kI,.list],false⟩,⟨false,[.val],[.bool],false⟩]⟩
def h_eh:How:=⟨aB [(0,⟨[.bool,kI,kI,.list],[(7,(.bool (.v 0))),(8,(sI 1))],[(2,.cells [(sI 2),(.view true (.v 3))])],[],0⟩)],
 aB [],
 aB []⟩
theorem DY:Has Tryz.prog 105 c_eh qA:=fp (R:=[]) (tr:=false) (E:=[(140,0,c_dv),(141,1,c_ev)]) (Φ:=G3) (t:=t_eh) ⟨JY,J5,trivial⟩ Tryz.f105 h_eh (by kernel_rfl)
def DZ:Con:=⟨[.ro true kH],[⟨false,[.val],[.bool],false⟩]⟩
theorem pY:Has Tryz.prog 54 DZ hP:=fp (R:=[]) (tr:=false) (E:=[(80,0,DU),(68,1,DP),(105,2,c_eh)]) (Φ:=G4) (t:=t_el) ⟨pV,pU,DY,trivial⟩ Tryz.f54 hE (by kernel_rfl)
def c_cp:Con:=⟨[.ro true kJ],[⟨false,[.val],[.bool],false⟩]⟩
theorem J6:Has Tryz.prog 56 c_cp xf:=fp (R:=[]) (tr:=false) (E:=[(38,0,DV)]) (Φ:=G5) (t:=t_cp) ⟨pW,trivial⟩ Tryz.f56 hE (by kernel_rfl)
def c_aj:Con:=⟨[.ro false [.list],.fn 56 []],[⟨false,[.val],[kI],false⟩]⟩
def h_aj:How:=⟨aB [(0,⟨[kI],[(4,(.int .i64 (.n 0))),(8,(sI 0))],[],[],0⟩)],
 aB [],
 aB []⟩
theorem J7:Has Tryz.prog 106 c_aj xg:=fp (R:=[]) (tr:=false) (E:=[(56,0,c_cp)]) (Φ:=G6) (t:=t_aj) ⟨J6,trivial⟩ Tryz.f106 h_aj (by kernel_rfl)
def c_ac:Con:=⟨[.ro false [.list],.fn 56 []],[⟨false,[.val],[.bool],false⟩]⟩
theorem J8:Has Tryz.prog 55 c_ac xh:=fp (R:=[]) (tr:=false) (E:=[(106,0,c_aj)]) (Φ:=G7) (t:=t_ac) ⟨J7,trivial⟩ Tryz.f55 hE (by kernel_rfl)
def c_ec:Con:=⟨[.ro true kW],[⟨false,[.val],[.bool],false⟩]⟩
def h_ec:How:=⟨aB [(0,⟨[kI],[(2,(.bool (.b false))),(24,(sI 0))],[],[],0⟩)],
 aB [],
 aB []⟩
theorem D0:Has Tryz.prog 21 c_ec m7:=fp (R:=[]) (tr:=false) (E:=[(32,0,pX),(54,1,DZ),(55,2,c_ac)]) (Φ:=G8) (t:=t_ec) ⟨eV,pY,J8,trivial⟩ Tryz.f21 h_ec (by kernel_rfl)
def c_bu:Con:=⟨[.ro true [kI,kI,.list]],[⟨true,v3,[kI,kI,.list],false⟩]⟩
theorem D1:Has Tryz.prog 148 c_bu qB:=fp (R:=[]) (tr:=false) (E:=[(150,0,c_bc)]) (Φ:=G9) (t:=t_bu) ⟨DS,trivial⟩ Tryz.f148 hE (by kernel_rfl)
def Ix:Con:=⟨[.ro true [.list,kI],.ro false [kI],.ro false [kI]],[⟨true,[(.arr 82 v3),.val],[.list,kI],false⟩]⟩
def h_cs:How:=⟨aB [(0,⟨[kI,.list],[(17,(sI 0))],[(2,.cells [(.sl 1000),(sI 1003)]),(1000,.arr 82 v3 (.v 1))],[],1⟩)],
 aB [],
 aB []⟩
theorem zO:Has Tryz.prog 125 Ix mm:=fp (R:=[]) (tr:=false) (E:=[(148,0,c_bu)]) (Φ:=Ha) (t:=t_cs) ⟨D1,trivial⟩ Tryz.f125 h_cs (by kernel_rfl)
def Iy:Con:=⟨[.ro true [.list,kI]],[⟨true,[(.arr 82 v3),.val],[.list,kI],false⟩]⟩
theorem zP:Has Tryz.prog 114 Iy mn:=fp (R:=[]) (tr:=false) (E:=[(125,0,Ix)]) (Φ:=Hb) (t:=t_bt) ⟨zO,trivial⟩ Tryz.f114 hE (by kernel_rfl)
def c_as:Con:=⟨[.ro false [.list]],[⟨false,[(.arr 49 v4)],[.list],false⟩]⟩
theorem D2:Has Tryz.prog 86 c_as qC:=fp (R:=[]) (tr:=false) (E:=[]) (Φ:=ph []) (t:=t_as) trivial Tryz.f86 hE (by kernel_rfl)
def BZ:Con:=⟨[.ro true kD],[⟨true,[.val,.val,.val,(.arr 49 v4)],kD,false⟩]⟩
theorem mH:Has Tryz.prog 65 BZ fV:=fp (R:=[]) (tr:=false) (E:=[(114,0,Iy),(86,1,c_as)]) (Φ:=Hc) (t:=t_bb) ⟨zP,D2,trivial⟩ Tryz.f65 hE (by kernel_rfl)
def Fw:Con:=⟨[.ro true kH],[⟨true,v5,kH,false⟩]⟩
theorem uc:Has Tryz.prog 87 Fw jm:=fp (R:=[]) (tr:=false) (E:=[(114,0,Iy)]) (Φ:=Hd) (t:=t_ax) ⟨zP,trivial⟩ Tryz.f87 hE (by kernel_rfl)
def c_az:Con:=⟨[.ro true kW],[⟨true,[.val,.val,.val,(.arr 49 v4),(.arr 42 v5),(.arr 49 v4)],kW,false⟩]⟩
def h_az:How:=⟨aB [(0,⟨[kI,.list],[(16,(sI 0))],[(2,.cells [(.bool (.v 1006)),(.view true (.v 1007)),(sI 1008),(.sl 3),(.sl 1000),(.sl 4)]),(1000,.arr 42 v5 (.v 1))],[],1⟩)],
 aB [(2,⟨[.bool,.list,kI,.list,.list],[(3,(.ptr 1000 0))],[(1000,.cells [(.bool (.v 0)),(.view true (.v 1)),(sI 2),(.sl 1001),.nil,(.sl 1002)]),(1001,.arr 49 v4 (.v 3)),(1002,.arr 49 v4 (.v 4))],[],3⟩)],
 aB []⟩
theorem J9:Has Tryz.prog 47 c_az xi:=fp (R:=[]) (tr:=false) (E:=[(65,0,BZ),(86,1,c_as),(87,2,Fw)]) (Φ:=He) (t:=t_az) ⟨mH,D2,uc,trivial⟩ Tryz.f47 h_az (by kernel_rfl)
def c_cv:Con:=⟨[.own true [.val,.val] [.list,kI] false,.ro false [.bool]],[⟨false,[.val],[.list],false⟩]⟩
theorem D3:Has Tryz.prog 108 c_cv qD:=fp (R:=[]) (tr:=false) (E:=[]) (Φ:=ph []) (t:=t_cv) trivial Tryz.f108 hE (by kernel_rfl)
def Ca:Con:=⟨[.ro true kD,.ro false [.bool]],[⟨false,[.val],[.list],false⟩]⟩
theorem mI:Has Tryz.prog 59 Ca eu:=fp (R:=[]) (tr:=false) (E:=[(108,0,c_cv),(69,1,c_ed)]) (Φ:=Hf) (t:=t_bv) ⟨D3,DT,trivial⟩ Tryz.f59 hE (by kernel_rfl)
def c_fz:Con:=⟨[.ro true [.list,kI],.ro true [kI,kI,.list]],[⟨true,[.val,.val],[.list,kI],false⟩,⟨false,[.val],[.bool],false⟩]⟩
theorem D4:Has Tryz.prog 117 c_fz qE:=fp (R:=[]) (tr:=false) (E:=[(68,0,DP),(66,1,DO),(114,2,Iy),(148,3,c_bu)]) (Φ:=Hg) (t:=t_fz) ⟨pU,pT,zP,D1,trivial⟩ Tryz.f117 hE (by kernel_rfl)
def Iz:Con:=⟨[.ptr [.val,.val,.val,(.arr 49 v4)] kD,.ro true [kI,kI,.list]],[⟨false,[.val],[.bool],false⟩]⟩
theorem zQ:Has Tryz.prog 67 Iz gD:=fp (R:=[]) (tr:=false) (E:=[(59,0,Ca),(116,1,c_dp),(117,2,c_fz)]) (Φ:=Hh) (t:=t_bz) ⟨mI,DR,D4,trivial⟩ Tryz.f67 hE (by kernel_rfl)
def Fx:Con:=⟨[.ro true kD,.ro false [.list]],[⟨true,[.val,.val,.val,(.arr 49 v4)],kD,false⟩,⟨false,[.val],[.bool],false⟩]⟩
theorem ud:Has Tryz.prog 30 Fx hU:=fp (R:=[]) (tr:=false) (E:=[(32,0,pX),(65,1,BZ),(59,2,Ca),(66,3,DO),(67,4,Iz)]) (Φ:=Hi) (t:=t_cr) ⟨eV,mH,mI,pT,zQ,trivial⟩ Tryz.f30 hE (by kernel_rfl)
def c_dn:Con:=⟨[.ro true kD,.ro false [kI]],[⟨true,[.val,.val,.val,(.arr 49 v4)],kD,false⟩,⟨false,[.val],[.bool],false⟩]⟩
theorem Ka:Has Tryz.prog 88 c_dn xj:=fp (R:=[]) (tr:=false) (E:=[(32,0,pX),(81,1,Iv),(65,2,BZ),(67,3,Iz)]) (Φ:=Hj) (t:=t_dn) ⟨eV,zM,mH,zQ,trivial⟩ Tryz.f88 hE (by kernel_rfl)
def c_cl:Con:=⟨[.ro true kD,.ro false [kI],.ro false [kI],.ro false [kI]],[⟨false,[.val],[.bool],false⟩]⟩
theorem D5:Has Tryz.prog 107 c_cl qF:=fp (R:=[]) (tr:=false) (E:=[(71,0,Iw)]) (Φ:=Hk) (t:=t_cl) ⟨zN,trivial⟩ Tryz.f107 hE (by kernel_rfl)
def c_bl:Con:=⟨[.ro true kD],[⟨false,[.val],[.list],false⟩]⟩
def h_bl:How:=⟨aB [(0,⟨[kI,.list],[(4,(.sl 1000)),(23,(sI 0))],[(1000,.arr 49 v4 (.v 1))],[],1⟩),(2,⟨[kI,.list],[(4,(.sl 1000)),(38,(sI 0))],[(1000,.arr 49 v4 (.v 1))],[2],1⟩)],
 aB [],
 aB []⟩
theorem D6:Has Tryz.prog 58 c_bl qG:=fp (R:=[]) (tr:=false) (E:=[(59,0,Ca),(107,1,c_cl)]) (Φ:=Hl) (t:=t_bl) ⟨mI,D5,trivial⟩ Tryz.f58 h_bl (by kernel_rfl)
def c_bq:Con:=⟨[.ptr [.val,.val,.val,(.arr 49 v4),(.arr 42 v5),(.arr 49 v4)] kW,.ro true kJ],[]⟩
theorem D7:Has Tryz.prog 89 c_bq jn:=fp (R:=[]) (tr:=false) (E:=[]) (Φ:=ph []) (t:=t_bq) trivial Tryz.f89 hE (by kernel_rfl)
theorem Kb:Has Tryz.prog 128 (mP 49) qV:=yV (ρ:=⟨fun _=>128,fun t=>match t with|22=>26|23=>49|3=>3|4=>4|_=>0,fun x=>x⟩) ⟨vx,⟨Tryz.f128.name,by kernel_rfl,by kernel_rfl⟩,by kernel_rfl,by kernel_rfl,by kernel_rfl,by kernel_rfl⟩ rfl
def c_aq:Con:=mP 49
def c_bx:Con:=⟨[.ro true kD,.ro false [kI],.ro false [kI],.ro false [.list]],[⟨false,[.val],[.bool],false⟩,⟨false,[.val],[.bool],false⟩]⟩
def h_bx:How:=⟨aB [(0,⟨[.bool,.bool,kI],[(8,(.bool (.v 0))),(9,(.bool (.v 1))),(15,(sI 2))],[],[],0⟩)],
 aB [],
 aB []⟩
theorem Kc:Has Tryz.prog 151 c_bx m8:=fp (R:=[]) (tr:=false) (E:=[(107,0,c_cl)]) (Φ:=Hm) (t:=t_bx) ⟨D5,trivial⟩ Tryz.f151 h_bx (by kernel_rfl)
def c_bf:Con:=⟨[.ptr [.val,.val,.val,(.arr 49 v4)] kD,.ro false [kI]],[]⟩
def h_bf:How:=⟨aB [],
 aB [(9,⟨[.bool],[(82,(.bool (.v 0)))],[],[],0⟩),(7,⟨[.bool],[(71,(.bool (.v 0)))],[],[],0⟩)],
 aB []⟩
theorem Kd:Has Tryz.prog 122 c_bf tM:=fp (R:=[]) (tr:=false) (E:=[(59,0,Ca),(151,1,c_bx),(147,2,c_ex),(67,3,Iz)]) (Φ:=EG) (t:=t_bf) ⟨mI,Kc,DQ,zQ,trivial⟩ Tryz.f122 h_bf (by kernel_rfl)
def c_cq:Con:=⟨[.ptr [.val,.val,.val,(.arr 49 v4)] kD,.ro true kJ],[]⟩
theorem D8:Has Tryz.prog 74 c_cq qH:=fp (R:=[]) (tr:=false) (E:=[(38,0,DV),(70,1,Fv),(59,2,Ca),(71,3,Iw),(122,4,c_bf)]) (Φ:=Hn) (t:=t_cq) ⟨pW,ub,mI,zN,Kd,trivial⟩ Tryz.f74 hE (by kernel_rfl)
def c_be:Con:=⟨[.ro true kH,.ro false [.bool]],[⟨true,[.val,.val],[kI,.list],false⟩]⟩
theorem D9:Has Tryz.prog 164 c_be m9:=fp (R:=[]) (tr:=false) (E:=[(108,0,c_cv),(105,1,c_eh)]) (Φ:=Ho) (t:=t_be) ⟨D3,DY,trivial⟩ Tryz.f164 hE (by kernel_rfl)
def c_au:Con:=⟨[.ro true kH,.ro true kJ],[⟨false,[.val],[kI],false⟩]⟩
def h_au:How:=⟨aB [],
 aB [(5,⟨[.bool],[(33,(.bool (.v 0)))],[],[],0⟩),(3,⟨[.bool],[(25,(.bool (.v 0)))],[],[],0⟩)],
 aB []⟩
theorem Ke:Has Tryz.prog 165 c_au xk:=fp (R:=[]) (tr:=false) (E:=[(164,0,c_be)]) (Φ:=Hp) (t:=t_au) ⟨D9,trivial⟩ Tryz.f165 h_au (by kernel_rfl)
def c_cf:Con:=⟨[.ro true kH,.ro true kJ],[⟨true,v5,kH,false⟩,⟨true,v4,kJ,false⟩,⟨false,[.val],[.bool],false⟩]⟩
def h_cf:How:=⟨aB [],
 aB [(9,⟨[.list],[],[(5,.cells [(sI 1005),(sI 1007),(.sl 1000)]),(1000,.arr 3 [.val] (.v 0))],[],1⟩)],
 aB []⟩
theorem Kf:Has Tryz.prog 156 c_cf xm:=fp (R:=[]) (tr:=false) (E:=[(54,0,DZ),(87,1,Fw),(38,2,DV),(70,3,Fv),(164,4,c_be),(159,5,c_df),(117,6,c_fz),(165,7,c_au)]) (Φ:=Hq) (t:=t_cf) ⟨pY,uc,pW,ub,D9,DX,D4,Ke,trivial⟩ Tryz.f156 h_cf (by kernel_rfl)
def c_bk:Con:=⟨[.ptr [.val,.val,.val,(.arr 49 v4),(.arr 42 v5),(.arr 49 v4)] kW,.ro true kJ],[⟨true,v4,kJ,false⟩,⟨false,[.val],[.bool],false⟩]⟩
theorem Kg:Has Tryz.prog 129 c_bk xn:=fp (R:=[]) (tr:=false) (E:=[(70,0,Fv),(74,1,c_cq),(156,2,c_cf)]) (Φ:=Hr) (t:=t_bk) ⟨ub,D8,Kf,trivial⟩ Tryz.f129 hE (by kernel_rfl)
def c_ct:Con:=⟨[.ptr [.val,.val,.val,(.arr 49 v4),(.arr 42 v5),(.arr 49 v4)] kW,.ro true [kI,kI,kI,.list]],[]⟩
def h_ct:How:=⟨aB [],
 aB [(3,⟨kJ,[(4,(.ptr 1000 0))],[(1000,.cells [(sI 0),(sI 1),(sI 2),(sI 3)])],[],1⟩)],
 aB []⟩
theorem Kh:Has Tryz.prog 90 c_ct xo:=fp (R:=[]) (tr:=false) (E:=[(79,0,nV),(89,1,c_bq),(128,2,c_aq),(129,3,c_bk)]) (Φ:=Hs) (t:=t_ct) ⟨ej,D7,Kb,Kg,trivial⟩ Tryz.f90 h_ct (by kernel_rfl)
def c_dc:Con:=⟨[.ro true [.list,kI]],[⟨true,[.val,.val],[.list,kI],false⟩]⟩
theorem Ea:Has Tryz.prog 130 c_dc qI:=fp (R:=[]) (tr:=false) (E:=[(68,0,DP),(125,1,Ix)]) (Φ:=Ht) (t:=t_dc) ⟨pU,zO,trivial⟩ Tryz.f130 hE (by kernel_rfl)
def c_cd:Con:=⟨[.ro true kD],[⟨true,[.val,.val,.val,(.arr 49 v4)],kD,false⟩]⟩
theorem Ki:Has Tryz.prog 92 c_cd xp:=fp (R:=[]) (tr:=false) (E:=[(32,0,pX),(65,1,BZ),(130,2,c_dc)]) (Φ:=Hu) (t:=t_cd) ⟨eV,mH,Ea,trivial⟩ Tryz.f92 hE (by kernel_rfl)
def c_by:Con:=⟨[.ro true kH],[⟨true,v5,kH,false⟩]⟩
theorem Kj:Has Tryz.prog 93 c_by xq:=fp (R:=[]) (tr:=false) (E:=[(54,0,DZ),(87,1,Fw),(130,2,c_dc)]) (Φ:=Hv) (t:=t_by) ⟨pY,uc,Ea,trivial⟩ Tryz.f93 hE (by kernel_rfl)
def c_ab:Con:=⟨[.ptr [.val,.val,.val,(.arr 49 v4),(.arr 42 v5),(.arr 49 v4)] kW,.ro false [kI],.fn 92 [],.fn 93 []],[]⟩
theorem Kk:Has Tryz.prog 91 c_ab xr:=fp (R:=[]) (tr:=false) (E:=[(80,0,DU),(92,1,c_cd),(93,2,c_by)]) (Φ:=Hw) (t:=t_ab) ⟨pV,Ki,Kj,trivial⟩ Tryz.f91 hE (by kernel_rfl)
def c_eb:Con:=⟨[.ro true [.list,kI],.ro false [kI]],[⟨true,[.val,.val],[.list,kI],false⟩]⟩
theorem Eb:Has Tryz.prog 82 c_eb qJ:=fp (R:=[]) (tr:=false) (E:=[(68,0,DP),(125,1,Ix)]) (Φ:=Hy) (t:=t_eb) ⟨pU,zO,trivial⟩ Tryz.f82 hE (by kernel_rfl)
def c_di:Con:=⟨[.ro true kD,.ro false [kI]],[⟨true,[.val,.val,.val,(.arr 49 v4)],kD,false⟩]⟩
theorem Ec:Has Tryz.prog 40 c_di qK:=fp (R:=[]) (tr:=false) (E:=[(32,0,pX),(82,1,c_eb)]) (Φ:=Hz) (t:=t_di) ⟨eV,Eb,trivial⟩ Tryz.f40 hE (by kernel_rfl)
def c_bw:Con:=⟨[.ro true kD,.rptr [kI,kI,kI,.list]],[⟨true,[.val,.val,.val,(.arr 49 v4)],kD,false⟩]⟩
theorem Kl:Has Tryz.prog 94 c_bw xt:=fp (R:=[]) (tr:=false) (E:=[(40,0,c_di)]) (Φ:=HA) (t:=t_bw) ⟨Ec,trivial⟩ Tryz.f94 hE (by kernel_rfl)
def c_cz:Con:=⟨[.ro true kH,.ro false [kI]],[⟨true,v5,kH,false⟩]⟩
theorem Km:Has Tryz.prog 96 c_cz xu:=fp (R:=[]) (tr:=false) (E:=[(54,0,DZ),(82,1,c_eb)]) (Φ:=HB) (t:=t_cz) ⟨pY,Eb,trivial⟩ Tryz.f96 hE (by kernel_rfl)
def c_br:Con:=⟨[.ro true kH,.rptr [kI,kI,kI,.list]],[⟨true,v5,kH,false⟩]⟩
theorem Kn:Has Tryz.prog 95 c_br xv:=fp (R:=[]) (tr:=false) (E:=[(96,0,c_cz)]) (Φ:=HC) (t:=t_br) ⟨Km,trivial⟩ Tryz.f95 hE (by kernel_rfl)
def c_aa:Con:=⟨[.ptr [.val,.val,.val,(.arr 49 v4),(.arr 42 v5),(.arr 49 v4)] kW,.ro false [kI],.fn 94 [[kI,kI,kI,.list]],.fn 95 [[kI,kI,kI,.list]]],[]⟩
theorem Ko:Has Tryz.prog 91 c_aa xw:=fp (R:=[]) (tr:=false) (E:=[(80,0,DU),(94,1,c_bw),(95,2,c_br)]) (Φ:=HD) (t:=t_aa) ⟨pV,Kl,Kn,trivial⟩ Tryz.f91 hE (by kernel_rfl)
def c_de:Con:=⟨[.ro true kD],[⟨true,[.val,.val,.val,(.arr 49 v4)],kD,false⟩]⟩
theorem Kq:Has Tryz.prog 97 c_de xx:=fp (R:=[]) (tr:=false) (E:=[(32,0,pX),(65,1,BZ)]) (Φ:=HF) (t:=t_de) ⟨eV,mH,trivial⟩ Tryz.f97 hE (by kernel_rfl)
def c_ch:Con:=⟨[.ro true kH],[⟨true,v5,kH,false⟩]⟩
theorem Kr:Has Tryz.prog 98 c_ch xy:=fp (R:=[]) (tr:=false) (E:=[(54,0,DZ),(87,1,Fw)]) (Φ:=HG) (t:=t_ch) ⟨pY,uc,trivial⟩ Tryz.f98 hE (by kernel_rfl)
def c_ad:Con:=⟨[.ptr [.val,.val,.val,(.arr 49 v4),(.arr 42 v5),(.arr 49 v4)] kW,.ro false [kI],.fn 97 [],.fn 98 []],[]⟩
theorem Ks:Has Tryz.prog 91 c_ad xz:=fp (R:=[]) (tr:=false) (E:=[(80,0,DU),(97,1,c_de),(98,2,c_ch)]) (Φ:=HH) (t:=t_ad) ⟨pV,Kq,Kr,trivial⟩ Tryz.f91 hE (by kernel_rfl)
def c_dg:Con:=⟨[.ptr [.val,.val,.val,(.arr 49 v4),(.arr 42 v5),(.arr 49 v4)] kW,.ro true [kI,kI,kI,.list]],[]⟩
def h_dg:How:=⟨aB [],
 aB [(17,⟨[.bool],[(65,(.bool (.v 0)))],[],[],0⟩)],
 aB []⟩
theorem Kt:Has Tryz.prog 48 c_dg tO:=fp (R:=[]) (tr:=false) (E:=[(30,0,Fx),(88,1,c_dn),(58,2,c_bl),(79,3,nV),(89,4,c_bq),(90,5,c_ct),(91,6,c_ab),(91,7,c_aa),(91,8,c_ad)]) (Φ:=HJ) (t:=t_dg) ⟨ud,Ka,D6,ej,D7,Kh,Kk,Ko,Ks,trivial⟩ Tryz.f48 h_dg (by kernel_rfl)
def Fy:Con:=⟨[.ro true kW,.ro true [kI,kI,kI,.list]],[⟨true,[.val,.val,.val,.val,.val,.val],kW,false⟩]⟩
theorem ue:Has Tryz.prog 16 Fy ia:=fp (R:=[]) (tr:=false) (E:=[(21,0,c_ec),(47,1,c_az),(48,2,c_dg)]) (Φ:=HK) (t:=t_fc) ⟨D0,J9,Kt,trivial⟩ Tryz.f16 hE (by kernel_rfl)
def c_gg:Con:=⟨[.ro true [.list,kI]],[⟨false,[.val],[.bool],false⟩]⟩
def h_gg:How:=⟨aB [(0,⟨[kI],[(2,(.bool (.b false))),(3,(sI 0))],[],[],0⟩)],
 aB [],
 aB []⟩
theorem Ed:Has Tryz.prog 77 c_gg qL:=fp (R:=aS) (tr:=false) (E:=[(62,0,DA),(104,1,rG)]) (Φ:=HL) (t:=t_gg) ⟨pQ,fP,trivial⟩ Tryz.f77 h_gg (by kernel_rfl)
def sL:Con:=⟨[.ro true kD],[⟨false,[.val],[.bool],false⟩]⟩
def h_fk:How:=⟨aB [(0,⟨[kI],[(2,(.bool (.b false))),(5,(sI 0))],[],[],0⟩)],
 aB [],
 aB []⟩
theorem gn:Has Tryz.prog 36 sL dU:=fp (R:=aS) (tr:=false) (E:=[(76,0,c_gk),(77,1,c_gg),(52,2,Ft),(78,3,DE)]) (Φ:=HM) (t:=t_fk) ⟨DC,Ed,t8,pR,trivial⟩ Tryz.f36 h_fk (by kernel_rfl)
def c_ef:Con:=⟨[.ro true kH],[⟨false,[.val],[.bool],false⟩]⟩
theorem Ku:Has Tryz.prog 51 c_ef xA:=fp (R:=aS) (tr:=false) (E:=[(103,0,c_gq),(104,1,rG),(77,2,c_gg)]) (Φ:=HN) (t:=t_ef) ⟨DI,fP,Ed,trivial⟩ Tryz.f51 hE (by kernel_rfl)
def Ee:Con:=⟨[.ro true kW],[⟨false,[.val],[.bool],false⟩]⟩
def h_fe:How:=⟨aB [(2,⟨[kI],[(2,(.bool (.b false))),(4,(sI 0))],[],[],0⟩),(0,⟨[kI],[(2,(.bool (.b false))),(3,(sI 0))],[],[],0⟩)],
 aB [],
 aB []⟩
theorem pZ:Has Tryz.prog 19 Ee iL:=fp (R:=aS) (tr:=false) (E:=[(36,0,sL),(51,1,c_ef),(52,2,Ft)]) (Φ:=HO) (t:=t_fe) ⟨gn,Ku,t8,trivial⟩ Tryz.f19 h_fe (by kernel_rfl)
def c_ca:Con:=⟨[.ro true [kI,kI,.list]],[⟨true,v3,[kI,kI,.list],false⟩]⟩
theorem Kv:Has Tryz.prog 142 c_ca xB:=fp (R:=aS) (tr:=false) (E:=[]) (Φ:=ph []) (t:=t_ca) trivial Tryz.f142 hE (by kernel_rfl)
def c_fq:Con:=⟨[.ro true [.list,kI]],[⟨true,[(.arr 82 v3),.val],[.list,kI],false⟩]⟩
def h_fq:How:=⟨aB [(0,⟨[kI,.list],[(4,(sI 0))],[(3,.cells [(.sl 1000),(sI 1001)]),(1000,.arr 82 v3 (.v 1))],[2],1⟩)],
 aB [],
 aB []⟩
theorem Ef:Has Tryz.prog 113 c_fq qM:=fp (R:=aS) (tr:=false) (E:=[(142,0,c_ca)]) (Φ:=HP) (t:=t_fq) ⟨Kv,trivial⟩ Tryz.f113 h_fq (by kernel_rfl)
def IA:Con:=⟨[.ro true kD],[⟨true,[.val,(.arr 82 v3),.val,(.arr 49 v4)],kD,false⟩]⟩
theorem zR:Has Tryz.prog 64 IA mo:=fp (R:=aS) (tr:=false) (E:=[(113,0,c_fq)]) (Φ:=HQ) (t:=t_en) ⟨Ef,trivial⟩ Tryz.f64 hE (by kernel_rfl)
def c_eg:Con:=⟨[.ro true kH],[⟨true,[.val,.val,.val,(.arr 82 v3),.val],kH,false⟩]⟩
theorem Kw:Has Tryz.prog 102 c_eg xC:=fp (R:=aS) (tr:=false) (E:=[(113,0,c_fq)]) (Φ:=HR) (t:=t_eg) ⟨Ef,trivial⟩ Tryz.f102 hE (by kernel_rfl)
def c_et:Con:=⟨[.ro true kW],[⟨true,[.val,(.arr 82 v3),.val,(.arr 49 v4),(.arr 42 [.val,.val,.val,(.arr 82 v3),.val]),(.arr 49 v4)],kW,false⟩]⟩
def h_et:How:=⟨aB [(0,⟨[kI,.list],[(4,(sI 0))],[(2,.cells [(.bool (.v 1006)),(.sl 3),(sI 1007),(.sl 4),(.sl 1000),(.sl 5)]),(1000,.arr 42 [.val,.val,.val,(.arr 82 v3),.val] (.v 1))],[],1⟩)],
 aB [(2,⟨[.bool,kI,.list,.list,.list],[(3,(.ptr 1000 0))],[(1000,.cells [(.bool (.v 0)),(.sl 1001),(sI 1),(.sl 1002),.nil,(.sl 1003)]),(1001,.arr 82 v3 (.v 2)),(1002,.arr 49 v4 (.v 3)),(1003,.arr 49 v4 (.v 4))],[],4⟩)],
 aB []⟩
theorem Kx:Has Tryz.prog 50 c_et xD:=fp (R:=aS) (tr:=false) (E:=[(64,0,IA),(102,1,c_eg)]) (Φ:=HS) (t:=t_et) ⟨zR,Kw,trivial⟩ Tryz.f50 h_et (by kernel_rfl)
def Fz:Con:=⟨[.ro true kW,.ro true [kI,kI,kI,.list]],[⟨true,[.val,.val,.val,.val,.val,.val],kW,false⟩]⟩
theorem uf:Has Tryz.prog 18 Fz iM:=fp (R:=aS) (tr:=false) (E:=[(19,0,Ee),(50,1,c_et),(49,2,c_gl)]) (Φ:=HT) (t:=t_dz) ⟨pZ,Kx,DK,trivial⟩ Tryz.f18 hE (by kernel_rfl)
def FB:Con:=⟨[.ro false [.list],.ro false [.list]],[⟨false,[.val],[.bool],false⟩]⟩
def h_gd:How:=⟨aB [(0,⟨[kI],[(4,(.bool (.b false))),(5,(sI 0))],[],[],0⟩)],
 aB [],
 aB []⟩
theorem ug:Has Tryz.prog 26 FB jo:=fp (R:=[]) (tr:=false) (E:=[]) (Φ:=ph []) (t:=t_gd) trivial Tryz.f26 h_gd (by kernel_rfl)
def c_gi:Con:=⟨[.ro true [kI,kI,.list],.ro true [kI,kI,.list]],[⟨false,[.val],[.bool],false⟩]⟩
theorem Ky:Has Tryz.prog 53 c_gi xE:=fp (R:=[]) (tr:=false) (E:=[(26,0,FB)]) (Φ:=HU) (t:=t_gi) ⟨ug,trivial⟩ Tryz.f53 hE (by kernel_rfl)
def IB:Con:=⟨[.ro false [.list],.ro false [.list]],[⟨false,[.val],[.bool],false⟩]⟩
def h_fs:How:=⟨aB [(0,⟨[kI],[(4,(.bool (.b false))),(5,(sI 0))],[],[],0⟩)],
 aB [],
 aB []⟩
theorem zV:Has Tryz.prog 20 IB jp:=fp (R:=[]) (tr:=false) (E:=[(53,0,c_gi)]) (Φ:=HV) (t:=t_fs) ⟨Ky,trivial⟩ Tryz.f20 h_fs (by kernel_rfl)
def c_gm:Con:=⟨[.ro true [.list,kI],.ro true [.list,kI]],[⟨false,[.val],[.bool],false⟩]⟩
theorem Eg:Has Tryz.prog 57 c_gm qN:=fp (R:=[]) (tr:=false) (E:=[(20,0,IB)]) (Φ:=HW) (t:=t_gm) ⟨zV,trivial⟩ Tryz.f57 hE (by kernel_rfl)
def FC:Con:=⟨[.ro false [.list],.ro false [.list]],[⟨false,[.val],[.bool],false⟩]⟩
def h_em:How:=⟨aB [(0,⟨[kI],[(4,(.bool (.b false))),(5,(sI 0))],[],[],0⟩)],
 aB [],
 aB []⟩
theorem uh:Has Tryz.prog 37 FC iN:=fp (R:=[]) (tr:=false) (E:=[]) (Φ:=ph []) (t:=t_em) trivial Tryz.f37 h_em (by kernel_rfl)
def sM:Con:=⟨[.ro true kD,.ro true kD],[⟨false,[.val],[.bool],false⟩]⟩
theorem gp:Has Tryz.prog 23 sM cW:=fp (R:=[]) (tr:=false) (E:=[(57,0,c_gm),(37,1,FC)]) (Φ:=HX) (t:=t_gc) ⟨Eg,uh,trivial⟩ Tryz.f23 hE (by kernel_rfl)
def c_ee:Con:=⟨[.ro true kH,.ro true kH],[⟨false,[.val],[.bool],false⟩]⟩
theorem Eh:Has Tryz.prog 22 c_ee qO:=fp (R:=[]) (tr:=false) (E:=[(57,0,c_gm)]) (Φ:=HY) (t:=t_ee) ⟨Eg,trivial⟩ Tryz.f22 hE (by kernel_rfl)
def FD:Con:=⟨[.ro true kW,.ro true kW],[⟨false,[.val],[.bool],false⟩]⟩
def h_er:How:=⟨aB [(0,⟨[kI],[(4,(.bool (.b false))),(5,(sI 0))],[],[],0⟩)],
 aB [],
 aB []⟩
theorem ui:Has Tryz.prog 17 FD fW:=fp (R:=[]) (tr:=false) (E:=[(23,0,sM),(37,1,FC),(22,2,c_ee)]) (Φ:=HZ) (t:=t_er) ⟨gp,uh,Eh,trivial⟩ Tryz.f17 h_er (by kernel_rfl)
def IC:Con:=⟨[.ro true kD],[⟨false,[.val],[.list],false⟩]⟩
theorem zW:Has Tryz.prog 24 IC jq:=fp (R:=[]) (tr:=false) (E:=[(32,0,pX),(58,1,c_bl)]) (Φ:=H0) (t:=t_co) ⟨eV,D6,trivial⟩ Tryz.f24 hE (by kernel_rfl)
def yq:Con:=⟨[.ro true kD,.ro false [.bool]],[⟨false,[.val],[.list],false⟩]⟩
theorem i6:Has Tryz.prog 25 yq dh:=fp (R:=[]) (tr:=false) (E:=[(32,0,pX),(59,1,Ca)]) (Φ:=H1) (t:=t_ce) ⟨eV,mI,trivial⟩ Tryz.f25 hE (by kernel_rfl)
def c_fi:Con:=⟨[.ro false [.list],.ro false [.list]],[⟨false,[.val],[.bool],false⟩]⟩
def h_fi:How:=⟨aB [(0,⟨[kI],[(4,(.bool (.b false))),(5,(sI 0))],[],[],0⟩)],
 aB [],
 aB []⟩
theorem Ei:Has Tryz.prog 27 c_fi qP:=fp (R:=[]) (tr:=false) (E:=[(26,0,FB)]) (Φ:=H2) (t:=t_fi) ⟨ug,trivial⟩ Tryz.f27 h_fi (by kernel_rfl)
def c_fp:Con:=⟨[.ptr [.val,.val] [.list,kI]],[⟨true,v3,[kI,kI,.list],false⟩]⟩
def h_fp:How:=⟨aB [],
 aB [(7,⟨kD,[(14,(.bool (.v 0)))],[(3,.cells [(sI 1005),(sI 1009),(.sl 1000)]),(0,.cells [(.view true (.v 1)),(sI 2)]),(1000,.arr 1000003 [.val] (.v 3))],[2],1⟩)],
 aB []⟩
theorem Kz:Has Tryz.prog 109 c_fp xF:=fp (R:=aS) (tr:=false) (E:=[(45,0,sK),(46,1,Iu)]) (Φ:=H3) (t:=t_fp) ⟨gl,zK,trivial⟩ Tryz.f109 h_fp (by kernel_rfl)
def c_ff:Con:=⟨[.ptr [.val,.val] [.list,kI]],[⟨true,v4,kD,false⟩,⟨true,[.val,.val,.val,.val,.val,.val],[.bool,.hole,kI,.hole,.list,.list],false⟩]⟩
theorem Ej:Has Tryz.prog 60 c_ff qQ:=fp (R:=aS) (tr:=false) (E:=[(83,0,c_ep),(45,1,sK),(109,2,c_fp),(72,3,It)]) (Φ:=H4) (t:=t_ff) ⟨DM,gl,Kz,zJ,trivial⟩ Tryz.f60 hE (by kernel_rfl)
def ID:Con:=⟨[.own false [.val] [.list] false],[⟨true,v4,kD,false⟩,⟨false,[.val],[.list],false⟩]⟩
theorem zX:Has Tryz.prog 28 ID kx:=fp (R:=aS) (tr:=false) (E:=[(42,0,Iq),(60,1,c_ff),(46,2,Iu)]) (Φ:=H5) (t:=t_av) ⟨zG,Ej,zK,trivial⟩ Tryz.f28 hE (by kernel_rfl)
def c_cw:Con:=⟨[.ro true kD,.ro false [.bool]],[⟨false,[.val],[.list],false⟩]⟩
theorem KA:Has Tryz.prog 61 c_cw xG:=fp (R:=aS) (tr:=false) (E:=[(36,0,sL),(84,1,As)]) (Φ:=H6) (t:=t_cw) ⟨gn,kj,trivial⟩ Tryz.f61 hE (by kernel_rfl)
def IE:Con:=⟨[.ro true kD,.ro false [.list]],[⟨true,v4,kD,false⟩,⟨false,[.val],[.bool],false⟩]⟩
theorem zY:Has Tryz.prog 29 IE kA:=fp (R:=aS) (tr:=false) (E:=[(61,0,c_cw),(36,1,sL),(62,2,DA),(64,3,IA),(63,4,Ir)]) (Φ:=H7) (t:=t_ci) ⟨KA,gn,pQ,zR,zH,trivial⟩ Tryz.f29 hE (by kernel_rfl)
def c_ei:Con:=⟨[],[⟨true,[.val,.val,.val,(.arr 49 v4)],kD,false⟩]⟩
theorem KB:Has Tryz.prog 31 c_ei tR:=fp (R:=[]) (tr:=false) (E:=[]) (Φ:=ph []) (t:=t_ei) trivial Tryz.f31 hE (by kernel_rfl)
def c_cn:Con:=⟨[.ro true kD],[⟨false,[.val],[.list],false⟩]⟩
theorem KC:Has Tryz.prog 73 c_cn xH:=fp (R:=aS) (tr:=false) (E:=[(36,0,sL),(85,1,Is)]) (Φ:=H9) (t:=t_cn) ⟨gn,zI,trivial⟩ Tryz.f73 hE (by kernel_rfl)
def Ek:Con:=⟨[.own false [.val] [.list] false],[⟨true,v4,kD,false⟩,⟨true,v4,kJ,false⟩]⟩
def h_ay:How:=⟨aB [],
 aB [(6,⟨[.bool,.list,kI],[(28,(.bool (.v 0)))],[(2,.cells [(.view true (.v 1)),(sI 2)])],[],0⟩)],
 aB []⟩
theorem p8:Has Tryz.prog 33 Ek mp:=fp (R:=aS) (tr:=false) (E:=[(42,0,Iq),(60,1,c_ff),(72,2,It),(73,3,c_cn),(45,4,sK)]) (Φ:=Ib) (t:=t_ay) ⟨zG,Ej,zJ,KC,gl,trivial⟩ Tryz.f33 h_ay (by kernel_rfl)
def Cb:Con:=⟨[.ro true kD,.ro true kJ],[⟨true,v4,kD,false⟩]⟩
theorem mJ:Has Tryz.prog 34 Cb gF:=fp (R:=[]) (tr:=false) (E:=[(32,0,pX),(65,1,BZ),(74,2,c_cq)]) (Φ:=Ic) (t:=t_dl) ⟨eV,mH,D8,trivial⟩ Tryz.f34 hE (by kernel_rfl)
def El:Con:=⟨[.ro true kD,.ro true kJ],[⟨true,v4,kD,false⟩]⟩
theorem p9:Has Tryz.prog 35 El mq:=fp (R:=aS) (tr:=false) (E:=[(36,0,sL),(64,1,IA),(75,2,c_es)]) (Φ:=Ie) (t:=t_dk) ⟨gn,zR,DG,trivial⟩ Tryz.f35 hE (by kernel_rfl)
def IF:Con:=⟨[.ro false [.list],.ro true kJ],[⟨false,[.val],[.bool],false⟩]⟩
def h_fr:How:=⟨aB [(0,⟨[kI],[(4,(.bool (.b false))),(5,(sI 0))],[],[],0⟩)],
 aB [],
 aB []⟩
theorem zZ:Has Tryz.prog 39 IF mr:=fp (R:=[]) (tr:=false) (E:=[]) (Φ:=ph []) (t:=t_fr) trivial Tryz.f39 h_fr (by kernel_rfl)
def c_gj:Con:=⟨[.ro false [.list],.ro false [kI],.ro false [.list],.ro false [kI]],[⟨false,[.val],[.bool],false⟩]⟩
def h_gj:How:=⟨aB [(0,⟨[kI],[(8,(.bool (.b false))),(9,(sI 0))],[],[],0⟩)],
 aB [],
 aB []⟩
theorem Em:Has Tryz.prog 41 c_gj qR:=fp (R:=[]) (tr:=false) (E:=[(39,0,IF)]) (Φ:=If) (t:=t_gj) ⟨zZ,trivial⟩ Tryz.f41 h_gj (by kernel_rfl)
end Dx
