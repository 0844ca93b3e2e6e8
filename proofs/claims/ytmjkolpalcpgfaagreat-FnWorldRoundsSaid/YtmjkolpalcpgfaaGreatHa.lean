import Derived.Test.YtmjkolpalcpgfaaGreatProg
import Derived.Test.YtmjkolpalcpgfaaGreatXe
import Derived.Test.YtmjkolpalcpgfaaGreatYb
set_option linter.all false
namespace Dx
open Go
def tab:List (Nat×TI) :=
 [(3,⟨.int .i64,1,false,[.int .i64 (.n 0)],8⟩),
   (4,⟨.bool,1,false,[.bool (.b false)],1⟩),
   (5,⟨.int .u8,1,false,[.int .u8 (.n 0)],1⟩),
   (9,⟨.str,1,false,[.str (.s ⟨#[]⟩)],16⟩),
   (22,⟨.slice 5,1,false,[.nil],24⟩),
   (23,⟨.slice 145,1,false,[.nil],24⟩),
   (25,⟨.struct [(0,1,false),(1,1,false)],2,true,[.nil,.int .i64 (.n 0)],32⟩),
   (26,⟨.slice 82,1,false,[.nil],24⟩),
   (28,⟨.struct [(0,1,false),(1,2,true),(3,1,false)],4,true,[.bool (.b false),.nil,.int .i64 (.n 0),.nil],64⟩),
   (29,⟨.slice 52,1,false,[.nil],24⟩),
   (31,⟨.struct [(0,4,true),(4,1,false),(5,1,false)],6,true,[.bool (.b false),.nil,.int .i64 (.n 0),.nil,.nil,.nil],112⟩),
   (38,⟨.slice 3,1,false,[.nil],24⟩),
   (39,⟨.slice 61,1,false,[.nil],24⟩),
   (44,⟨.slice 54,1,false,[.nil],24⟩),
   (47,⟨.slice 64,1,false,[.nil],24⟩),
   (49,⟨.struct [(0,1,false),(1,1,false)],2,true,[.int .i64 (.n 0),.nil],32⟩),
   (52,⟨.struct [(0,1,false),(1,1,false),(2,1,false),(3,2,true)],5,true,[.int .i64 (.n 0),.bool (.b false),.int .i64 (.n 0),.nil,.int .i64 (.n 0)],56⟩),
   (54,⟨.struct [(0,1,false),(1,1,false)],2,true,[.nil,.int .i64 (.n 0)],32⟩),
   (56,⟨.slice 38,1,false,[.nil],24⟩),
   (57,⟨.slice 56,1,false,[.nil],24⟩),
   (61,⟨.struct [(0,1,false),(1,1,false),(2,1,false),(3,1,false)],4,true,[.int .i64 (.n 0),.int .i64 (.n 0),.int .i64 (.n 0),.nil],48⟩),
   (64,⟨.struct [(0,1,false),(1,1,false)],2,true,[.int .i64 (.n 0),.int .i64 (.n 0)],16⟩),
   (82,⟨.struct [(0,1,false),(1,1,false),(2,1,false),(3,1,false)],4,true,[.int .i64 (.n 0),.int .i64 (.n 0),.int .i64 (.n 0),.int .i64 (.n 0)],32⟩),
   (100,⟨.struct [(0,1,false),(1,1,false)],2,true,[.nil,.int .i64 (.n 0)],32⟩),
   (130,⟨.arr 2 3,2,true,[.int .i64 (.n 0),.int .i64 (.n 0)],16⟩),
   (131,⟨.map 3 130,1,false,[.any],8⟩),
   (135,⟨.slice 26,1,false,[.nil],24⟩),
   (145,⟨.struct [(0,1,false),(1,1,false),(2,1,false)],3,true,[.int .i64 (.n 0),.int .i64 (.n 0),.nil],40⟩)]
def tab':Tab:=zd tab
theorem JW:cm Proofs.Tryz.prog (zd tab):=Gr (by kernel_rfl)
end Dx
namespace Dx
open Go Go.Proofs
def eqs:List (Nat×Nat):=[(82,4),(64,2)]
theorem JX:CH Tryz.prog (Bn eqs):=Ly (by kernel_rfl)
theorem pF:Tryz.prog.follows .mixedOrders=true:=by kernel_rfl
def bd:List (Nat×List Sh):=[(52,[.val,.val,.val,(.arr 145 [.val,.val,.val]),.val])]
def rowsD:List (Nat×List Sh):=[]
def uK(fn:Func):Code:=match fn.body with
 | some b=>b
 | none=>.skip
def bs:List (Nat×Bool×Nat×Nat):=[]
set_option maxRecDepth 100000 in
theorem bs_ok:∀ p∈bs,y2 Tryz.prog p.1 p.2:=by
 intro p hp
 simp only[bs,List.mem_cons,List.not_mem_nil,or_false]at hp
def gE(R:List (Nat×List Sh))(tr:Bool)(E:List (Nat×Nat×Con)):Env:=⟨zd tab,Bn eqs,getR R,E9 E,tr,Gt bs⟩
abbrev hE:How:=⟨aw [],aw [],aw []⟩
abbrev sI(n:Nat):SV:=.int .i64 (.v n)
theorem fo{G:Env}{Φ:Phi}(hG:EnvOk Tryz.prog G Φ){f:FuncId}(fn:Func){c:Con}(H:How){t:Tree}(h:(Tryz.prog.funcs[f]?,fn.body,fn.name== "runtime.NumGoroutine",fnT G H c fn (uK fn))=(some fn,some (uK fn),false,t)):Has Tryz.prog f c (fun cs=>ah (den Φ t cs)):=by
 simp only[Prod.mk.injEq]at h
 exact fn_ok hG h.1 h.2.1 h.2.2.1 h.2.2.2
theorem eo{E:Nat->List (Nat×Con)}{R:Rows}{tr:Bool}{Φ:Phi}(h:∀ f c,c∈E f->Has Tryz.prog f c.2 (Φ c.1)):EnvOk Tryz.prog ⟨zd tab,Bn eqs,R,E,tr,Gt bs⟩ Φ:=⟨JW,JX,h,pF,Bo bs_ok⟩
theorem fp{E:List (Nat×Nat×Con)}{R:List (Nat×List Sh)}{tr:Bool}{Φ:Phi}(m:Av Tryz.prog Φ E){f:FuncId}(fn:Func){c:Con}(H:How){t:Tree}(h:(Tryz.prog.funcs[f]?,fn.body,fn.name== "runtime.NumGoroutine",fnT (gE R tr E) H c fn (uK fn))=(some fn,some (uK fn),false,t)):Has Tryz.prog f c (fun cs=>ah (den Φ t cs)):=fo (eo (tV (pn m))) fn H h
abbrev v5:List Sh:=[.val,.val,.val,.val,.val]
abbrev v4:List Sh:=[.val,.val,.val,.val]
abbrev v3:List Sh:=[.val,.val,.val]
abbrev kW:List CK:=[.bool,.list,kI,.list,.list,.list]
abbrev kD:List CK:=[.bool,.list,kI,.list]
abbrev kH:List CK:=[kI,.bool,kI,.list,kI]
abbrev kJ:List CK:=[kI,kI,kI,kI]
def Ja:Con:=⟨[.own false [.val] [.list] false],[⟨false,[.val,.val],[.list,kI],true⟩]⟩
theorem z7:Has Tryz.prog 37 Ja mD:=fp (R:=bd) (tr:=false) (E:=[]) (Φ:=ph []) (t:=t_fu) trivial Tryz.f37 hE (by kernel_rfl)
def wb:Con:=⟨[.ptr [.val,.val] [.list,kI],.ro false [kI]],[⟨false,[.val],[kI],false⟩]⟩
theorem iH:Has Tryz.prog 39 wb aZ:=fp (R:=bd) (tr:=false) (E:=[]) (Φ:=ph []) (t:=t_di) trivial Tryz.f39 hE (by kernel_rfl)
def c_du:Con:=⟨[.ptr [.val,.val] [.list,kI]],[⟨false,[(.arr 3 [.val])],[.list],false⟩]⟩
theorem JY:Has Tryz.prog 97 c_du wY:=fp (R:=bd) (tr:=false) (E:=[(39,0,wb)]) (Φ:=Gu) (t:=t_du) ⟨iH,trivial⟩ Tryz.f97 hE (by kernel_rfl)
def c_fl:Con:=⟨[],[⟨true,[.val,(.arr 145 v3),.val,(.arr 82 v4)],kD,false⟩]⟩
theorem JZ:Has Tryz.prog 106 c_fl wZ:=fp (R:=bd) (tr:=false) (E:=[]) (Φ:=ph []) (t:=t_fl) trivial Tryz.f106 hE (by kernel_rfl)
def qp:Con:=⟨[.ro false [kI],.ro false [kI],.ro false [kI]],[⟨false,[.val],[.bool],false⟩]⟩
theorem fE:Has Tryz.prog 43 qp cv:=fp (R:=bd) (tr:=false) (E:=[]) (Φ:=ph []) (t:=t_gw) trivial Tryz.f43 hE (by kernel_rfl)
def c_dl:Con:=⟨[.ro false [kI]],[⟨true,[.val,(.arr 64 [.val,.val])],[kI,.list],false⟩,⟨false,[.val],[.bool],false⟩]⟩
theorem D2:Has Tryz.prog 129 c_dl qI:=fp (R:=bd) (tr:=false) (E:=[(43,0,qp)]) (Φ:=Gv) (t:=t_dl) ⟨fE,trivial⟩ Tryz.f129 hE (by kernel_rfl)
def c_do:Con:=⟨[.ro false [kI],.ro false [kI]],[⟨true,[.val,.val,.val,(.arr 145 v3),.val],kH,false⟩,⟨false,[.val],[.bool],false⟩]⟩
theorem J0:Has Tryz.prog 107 c_do w4:=fp (R:=bd) (tr:=false) (E:=[(129,0,c_dl),(43,1,qp)]) (Φ:=Gw) (t:=t_do) ⟨D2,fE,trivial⟩ Tryz.f107 hE (by kernel_rfl)
def c_dv:Con:=⟨[.ro false [.list]],[⟨true,[.val,(.arr 145 v3),.val,(.arr 82 v4),(.arr 52 [.val,.val,.val,(.arr 145 v3),.val]),(.arr 82 v4)],kW,false⟩,⟨false,[.val],[.bool],false⟩]⟩
def h_dv:How:=⟨aw [(0,⟨[kI,.list],[(3,(.bool (.b false))),(5,(sI 0))],[(4,.cells [(.bool (.v 1001)),(.sl 1),(sI 1003),(.sl 2),(.sl 1000),(.sl 3)]),(1000,.arr 52 [.val,.val,.val,(.arr 145 v3),.val] (.v 1))],[],1⟩)],
 aw [],
 aw []⟩
theorem D3:Has Tryz.prog 56 c_dv qJ:=fp (R:=bd) (tr:=false) (E:=[(106,0,c_fl),(107,1,c_do)]) (Φ:=Gx) (t:=t_dv) ⟨JZ,J0,trivial⟩ Tryz.f56 h_dv (by kernel_rfl)
def c_gf:Con:=⟨[.ro false [.list]],[⟨false,[.val],[.bool],false⟩]⟩
def h_gf:How:=⟨aw [(0,⟨[kI,kI],[(2,(.bool (.b false))),(3,(sI 0)),(4,(sI 1))],[],[],0⟩)],
 aw [],
 aw []⟩
theorem J1:Has Tryz.prog 161 c_gf w8:=fp (R:=bd) (tr:=false) (E:=[(43,0,qp)]) (Φ:=Gy) (t:=t_gf) ⟨fE,trivial⟩ Tryz.f161 h_gf (by kernel_rfl)
def F0:Con:=⟨[.ro true [kI,kI,.list]],[⟨false,[.val],[.bool],false⟩]⟩
theorem uL:Has Tryz.prog 126 F0 jP:=fp (R:=bd) (tr:=false) (E:=[(43,0,qp),(161,1,c_gf)]) (Φ:=Gz) (t:=t_gm) ⟨fE,J1,trivial⟩ Tryz.f126 hE (by kernel_rfl)
def c_ga:Con:=⟨[.ro false [.list],.ro true [kI,kI,.list]],[⟨false,[.val],[.bool],false⟩]⟩
theorem D4:Has Tryz.prog 127 c_ga qK:=fp (R:=bd) (tr:=false) (E:=[]) (Φ:=ph []) (t:=t_ga) trivial Tryz.f127 hE (by kernel_rfl)
def kE:Con:=⟨[.own false [(.arr 54 [.val,.val])] [.list] false,.ro true [kI,kI,.list]],[⟨false,[(.arr 54 [.val,.val])],[.list],false⟩]⟩
theorem nB:Has Tryz.prog 128 kE dC:=fp (R:=bd) (tr:=false) (E:=[]) (Φ:=ph []) (t:=kw) trivial Tryz.f128 hE (by kernel_rfl)
def c_gu:Con:=⟨[.ro false [.list]],[⟨false,[.val],[.list],false⟩,⟨false,[.val],[.bool],false⟩]⟩
def h_gu:How:=⟨aw [(0,⟨[kI,.list],[(2,.nil),(3,(.bool (.b false))),(4,(.sl 1000)),(5,(sI 0))],[(1000,.arr 54 [.val,.val] (.v 1))],[0],1⟩)],
 aw [],
 aw []⟩
theorem D5:Has Tryz.prog 86 c_gu mE:=fp (R:=bd) (tr:=false) (E:=[(126,0,F0),(127,1,c_ga),(128,2,kE)]) (Φ:=GA) (t:=t_gu) ⟨uL,D4,nB,trivial⟩ Tryz.f86 h_gu (by kernel_rfl)
def CC:Con:=⟨[.ro true kD,.ro false [.bool]],[⟨false,[.val],[.list],false⟩]⟩
theorem nb:Has Tryz.prog 116 CC ff:=fp (R:=bd) (tr:=false) (E:=[(86,0,c_gu)]) (Φ:=GB) (t:=t_ea) ⟨D5,trivial⟩ Tryz.f116 hE (by kernel_rfl)
def c_gk:Con:=⟨[.own true [(.arr 145 v3),.val] [.list,kI] false,.own true v3 [kI,kI,.list] false],[⟨true,[(.arr 145 v3),.val],[.list,kI],false⟩,⟨false,[.val],[.bool],false⟩]⟩
theorem D6:Has Tryz.prog 159 c_gk qL:=fp (R:=bd) (tr:=false) (E:=[]) (Φ:=ph []) (t:=t_gk) trivial Tryz.f159 hE (by kernel_rfl)
def c_dm:Con:=⟨[.own true [.val,(.arr 145 v3),.val,(.arr 82 v4)] kD false,.own true v3 [kI,kI,.list] false],[⟨true,[.val,(.arr 145 v3),.val,(.arr 82 v4)],kD,false⟩,⟨false,[.val],[.bool],false⟩]⟩
theorem D7:Has Tryz.prog 142 c_dm ec:=fp (R:=bd) (tr:=false) (E:=[(116,0,CC),(127,1,c_ga),(159,2,c_gk)]) (Φ:=GC) (t:=t_dm) ⟨nb,D4,D6,trivial⟩ Tryz.f142 hE (by kernel_rfl)
def D8:Con:=⟨[.ro false [.list],.ro true kJ],[⟨false,[.val],[.bool],false⟩]⟩
def h_eo:How:=⟨aw [(0,⟨[kI],[(4,(.bool (.b false))),(5,(sI 0))],[],[],0⟩)],
 aw [],
 aw []⟩
theorem qq:Has Tryz.prog 88 D8 iB:=fp (R:=bd) (tr:=false) (E:=[]) (Φ:=ph []) (t:=t_eo) trivial Tryz.f88 h_eo (by kernel_rfl)
def Jb:Con:=⟨[.ro true kD],[⟨false,[.val],[.list],false⟩]⟩
def h_ee:How:=⟨aw [(0,⟨[kI,.list],[(3,(.sl 1000)),(5,(sI 0))],[(1000,.arr 82 v4 (.v 1))],[1],1⟩),(2,⟨[kI,.list],[(3,(.sl 1000)),(6,(sI 0))],[(1000,.arr 82 v4 (.v 1))],[2],1⟩)],
 aw [],
 aw []⟩
theorem z8:Has Tryz.prog 83 Jb kS:=fp (R:=bd) (tr:=false) (E:=[(116,0,CC),(88,1,D8)]) (Φ:=GD) (t:=t_ee) ⟨nb,qq,trivial⟩ Tryz.f83 h_ee (by kernel_rfl)
def c_fr:Con:=⟨[.own true [.val,(.arr 145 v3),.val,(.arr 82 v4),(.arr 52 [.val,.val,.val,(.arr 145 v3),.val]),(.arr 82 v4)] kW false,.ro true kJ],[⟨true,[.val,(.arr 145 v3),.val,(.arr 82 v4),(.arr 52 [.val,.val,.val,(.arr 145 v3),.val]),(.arr 82 v4)],kW,false⟩]⟩
theorem D9:Has Tryz.prog 143 c_fr nE:=fp (R:=bd) (tr:=false) (E:=[]) (Φ:=ph []) (t:=t_fr) trivial Tryz.f143 hE (by kernel_rfl)
def c_ep:Con:=⟨[.own true [.val,(.arr 145 v3),.val,(.arr 82 v4),(.arr 52 [.val,.val,.val,(.arr 145 v3),.val]),(.arr 82 v4)] kW false,.ro true [kI,kI,kI,.list]],[⟨true,[.val,(.arr 145 v3),.val,(.arr 82 v4),(.arr 52 [.val,.val,.val,(.arr 145 v3),.val]),(.arr 82 v4)],kW,false⟩]⟩
theorem J2:Has Tryz.prog 108 c_ep w9:=fp (R:=bd) (tr:=false) (E:=[(116,0,CC),(126,1,F0),(142,2,c_dm),(43,3,qp),(83,4,Jb),(143,5,c_fr)]) (Φ:=GE) (t:=t_ep) ⟨nb,uL,D7,fE,z8,D9,trivial⟩ Tryz.f108 hE (by kernel_rfl)
def c_fo:Con:=⟨[.own true [.val,(.arr 145 v3),.val,(.arr 82 v4),(.arr 52 [.val,.val,.val,(.arr 145 v3),.val]),(.arr 82 v4)] kW false,.ro false [kI]],[⟨true,[.val,(.arr 145 v3),.val,(.arr 82 v4),(.arr 52 [.val,.val,.val,(.arr 145 v3),.val]),(.arr 82 v4)],kW,false⟩]⟩
theorem J3:Has Tryz.prog 144 c_fo t7:=fp (R:=bd) (tr:=false) (E:=[]) (Φ:=ph []) (t:=t_fo) trivial Tryz.f144 hE (by kernel_rfl)
def F1:Con:=⟨[.ro true kJ],[⟨false,[.val],[.bool],false⟩]⟩
theorem uM:Has Tryz.prog 48 F1 jQ:=fp (R:=bd) (tr:=false) (E:=[(43,0,qp)]) (Φ:=GF) (t:=t_fv) ⟨fE,trivial⟩ Tryz.f48 hE (by kernel_rfl)
def c_gd:Con:=⟨[.ro true kD,.ro false [kI],.ro false [.list],.ro false [kI]],[⟨false,[.val],[.bool],false⟩]⟩
def h_gd:How:=⟨aw [(0,⟨[kI],[(8,(.bool (.b false))),(9,(sI 0))],[],[],0⟩)],
 aw [],
 aw []⟩
theorem J4:Has Tryz.prog 170 c_gd xa:=fp (R:=bd) (tr:=false) (E:=[(88,0,D8)]) (Φ:=GG) (t:=t_gd) ⟨qq,trivial⟩ Tryz.f170 h_gd (by kernel_rfl)
def c_fq:Con:=⟨[.ro true kD,.ro false [kI],.ro false [.list],.ro false [kI]],[⟨false,[.val],[.bool],false⟩]⟩
def h_fq:How:=⟨aw [(0,⟨[kI],[(8,(.bool (.b false))),(9,(sI 0))],[],[],0⟩)],
 aw [],
 aw []⟩
theorem J5:Has Tryz.prog 171 c_fq mG:=fp (R:=bd) (tr:=false) (E:=[(88,0,D8)]) (Φ:=GH) (t:=t_fq) ⟨qq,trivial⟩ Tryz.f171 h_fq (by kernel_rfl)
def c_dc:Con:=⟨[.own true [.val,(.arr 145 v3),.val,(.arr 82 v4)] kD false,.ro false [kI]],[⟨true,[.val,(.arr 145 v3),.val,(.arr 82 v4)],kD,false⟩]⟩
def h_dc:How:=⟨aw [],
 aw [(9,⟨[.bool],[(47,(.bool (.v 0)))],[],[],0⟩),(7,⟨[.bool],[(36,(.bool (.v 0)))],[],[],0⟩),(5,⟨[.bool],[(8,(.bool (.v 0)))],[],[],0⟩)],
 aw []⟩
theorem J6:Has Tryz.prog 156 c_dc ub:=fp (R:=bd) (tr:=false) (E:=[(116,0,CC),(170,1,c_gd),(171,2,c_fq),(142,3,c_dm)]) (Φ:=GI) (t:=t_dc) ⟨nb,J4,J5,D7,trivial⟩ Tryz.f156 h_dc (by kernel_rfl)
def c_ew:Con:=⟨[.own true [.val,(.arr 145 v3),.val,(.arr 82 v4)] kD false,.ro true kJ],[⟨true,[.val,(.arr 145 v3),.val,(.arr 82 v4)],kD,false⟩]⟩
theorem J7:Has Tryz.prog 124 c_ew xb:=fp (R:=bd) (tr:=false) (E:=[(48,0,F1),(116,1,CC),(88,2,D8),(156,3,c_dc)]) (Φ:=GJ) (t:=t_ew) ⟨uM,nb,qq,J6,trivial⟩ Tryz.f124 hE (by kernel_rfl)
def c_gh:Con:=⟨[.ro true [kI,.list]],[⟨false,[.val],[kI],false⟩]⟩
def h_gh:How:=⟨aw [(0,⟨[kI,kI],[(3,(sI 0)),(4,(sI 1))],[],[],0⟩)],
 aw [],
 aw []⟩
theorem J8:Has Tryz.prog 162 c_gh xc:=fp (R:=bd) (tr:=false) (E:=[]) (Φ:=ph []) (t:=t_gh) trivial Tryz.f162 h_gh (by kernel_rfl)
def c_gn:Con:=⟨[.ro true [kI,.list],.ro true [kI,kI,.list]],[⟨false,[.val],[.bool],false⟩]⟩
theorem Ea:Has Tryz.prog 130 c_gn qM:=fp (R:=bd) (tr:=false) (E:=[(162,0,c_gh)]) (Φ:=GK) (t:=t_gn) ⟨J8,trivial⟩ Tryz.f130 hE (by kernel_rfl)
def ml:Con:=⟨[.own true [.val,(.arr 64 [.val,.val])] [kI,.list] false,.ro true [kI,kI,.list]],[⟨true,[.val,(.arr 64 [.val,.val])],[kI,.list],false⟩]⟩
theorem qr:Has Tryz.prog 131 ml dU:=fp (R:=bd) (tr:=false) (E:=[]) (Φ:=ph []) (t:=l6) trivial Tryz.f131 hE (by kernel_rfl)
def c_gv:Con:=⟨[.ro false [kI],.ro false [.list]],[⟨true,[.val,.val],[kI,.list],false⟩,⟨false,[.val],[.bool],false⟩]⟩
def h_gv:How:=⟨aw [(0,⟨[kI,kI,.list],[(5,(.bool (.b false))),(8,(sI 0))],[(2,.cells [(sI 1),(.sl 1000)]),(1000,.arr 64 [.val,.val] (.v 2))],[1],1⟩)],
 aw [],
 aw []⟩
theorem Eb:Has Tryz.prog 89 c_gv mH:=fp (R:=bd) (tr:=false) (E:=[(129,0,c_dl),(126,1,F0),(130,2,c_gn),(131,3,ml)]) (Φ:=GL) (t:=t_gv) ⟨D2,uL,Ea,qr,trivial⟩ Tryz.f89 h_gv (by kernel_rfl)
def c_dt:Con:=⟨[.ro true kH,.ro false [.bool]],[⟨true,[.val,.val],[kI,.list],false⟩]⟩
theorem J9:Has Tryz.prog 157 c_dt qN:=fp (R:=bd) (tr:=false) (E:=[(89,0,c_gv)]) (Φ:=GM) (t:=t_dt) ⟨Eb,trivial⟩ Tryz.f157 hE (by kernel_rfl)
def c_fw:Con:=⟨[.ro true kJ],[⟨true,v3,[kI,kI,.list],false⟩]⟩
theorem Ka:Has Tryz.prog 158 c_fw xd:=fp (R:=bd) (tr:=false) (E:=[]) (Φ:=ph []) (t:=t_fw) trivial Tryz.f158 hE (by kernel_rfl)
def c_dd:Con:=⟨[.ro true kH,.ro true kJ,.ro false [kI]],[⟨true,v4,kJ,false⟩,⟨false,[.val],[.bool],false⟩]⟩
def h_dd:How:=⟨aw [],
 aw [(6,⟨[.bool],[(28,(.bool (.v 0)))],[],[],0⟩),(4,⟨[.bool],[(15,(.bool (.v 0)))],[],[],0⟩)],
 aw []⟩
theorem Kb:Has Tryz.prog 160 c_dd ue:=fp (R:=bd) (tr:=false) (E:=[]) (Φ:=ph []) (t:=t_dd) trivial Tryz.f160 h_dd (by kernel_rfl)
def c_fg:Con:=⟨[.own true [.val,.val,.val,(.arr 145 v3),.val] kH false,.ro true kJ],[⟨true,[.val,.val,.val,(.arr 145 v3),.val],kH,false⟩,⟨true,v4,kJ,false⟩,⟨false,[.val],[.bool],false⟩]⟩
theorem Kc:Has Tryz.prog 125 c_fg xe:=fp (R:=bd) (tr:=false) (E:=[(48,0,F1),(157,1,c_dt),(158,2,c_fw),(130,3,c_gn),(159,4,c_gk),(160,5,c_dd)]) (Φ:=GN) (t:=t_fg) ⟨uM,J9,Ka,Ea,D6,Kb,trivial⟩ Tryz.f125 hE (by kernel_rfl)
def c_et:Con:=⟨[.own true [.val,(.arr 145 v3),.val,(.arr 82 v4),(.arr 52 [.val,.val,.val,(.arr 145 v3),.val]),(.arr 82 v4)] kW false,.ro true kJ],[⟨true,[.val,(.arr 145 v3),.val,(.arr 82 v4),(.arr 52 [.val,.val,.val,(.arr 145 v3),.val]),(.arr 82 v4)],kW,false⟩,⟨true,v4,kJ,false⟩,⟨false,[.val],[.bool],false⟩]⟩
theorem Ec:Has Tryz.prog 84 c_et nF:=fp (R:=bd) (tr:=false) (E:=[(124,0,c_ew),(125,1,c_fg)]) (Φ:=GO) (t:=t_et) ⟨J7,Kc,trivial⟩ Tryz.f84 hE (by kernel_rfl)
def c_gc:Con:=⟨[.own true [.val,(.arr 145 v3),.val,(.arr 82 v4),(.arr 52 [.val,.val,.val,(.arr 145 v3),.val]),(.arr 82 v4)] kW false,.ro true [kI,kI,kI,.list]],[⟨true,[.val,(.arr 145 v3),.val,(.arr 82 v4),(.arr 52 [.val,.val,.val,(.arr 145 v3),.val]),(.arr 82 v4)],kW,false⟩]⟩
theorem Kd:Has Tryz.prog 109 c_gc qO:=fp (R:=bd) (tr:=false) (E:=[(43,0,qp),(144,1,c_fo),(143,2,c_fr),(84,3,c_et)]) (Φ:=GP) (t:=t_gc) ⟨fE,J3,D9,Ec,trivial⟩ Tryz.f109 hE (by kernel_rfl)
def c_dq:Con:=⟨[.own true [.val,(.arr 145 v3),.val,(.arr 82 v4),(.arr 52 [.val,.val,.val,(.arr 145 v3),.val]),(.arr 82 v4)] kW false,.ro false [kI]],[⟨true,[.val,(.arr 145 v3),.val,(.arr 82 v4),(.arr 52 [.val,.val,.val,(.arr 145 v3),.val]),(.arr 82 v4)],kW,false⟩]⟩
def h_dq:How:=⟨aw [],
 aw [(3,⟨[kI],[],[(4,.cells [(.bool (.v 1000)),(.sl 0),(sI 0),(.sl 1),(.sl 2),(.sl 3)])],[],0⟩)],
 aw []⟩
theorem Ed:Has Tryz.prog 85 c_dq qP:=fp (R:=bd) (tr:=false) (E:=[(43,0,qp)]) (Φ:=GQ) (t:=t_dq) ⟨fE,trivial⟩ Tryz.f85 h_dq (by kernel_rfl)
def c_gb:Con:=⟨[.own true [(.arr 145 v3),.val] [.list,kI] false,.ro false [kI]],[⟨true,[(.arr 145 v3),.val],[.list,kI],false⟩]⟩
theorem Ee:Has Tryz.prog 146 c_gb qQ:=fp (R:=bd) (tr:=true) (E:=[]) (Φ:=ph []) (t:=t_gb) trivial Tryz.f146 hE (by kernel_rfl)
def c_ei:Con:=⟨[.own true [.val,(.arr 145 v3),.val,(.arr 82 v4)] kD false,.ro false [kI]],[⟨true,[.val,(.arr 145 v3),.val,(.arr 82 v4)],kD,false⟩]⟩
theorem Ke:Has Tryz.prog 145 c_ei xf:=fp (R:=bd) (tr:=false) (E:=[(146,0,c_gb)]) (Φ:=GR) (t:=t_ei) ⟨Ee,trivial⟩ Tryz.f145 hE (by kernel_rfl)
def c_ev:Con:=⟨[.own true [.val,(.arr 145 v3),.val,(.arr 82 v4),(.arr 52 [.val,.val,.val,(.arr 145 v3),.val]),(.arr 82 v4)] kW false,.ro true [kI,kI,kI,.list]],[⟨true,[.val,(.arr 145 v3),.val,(.arr 82 v4),(.arr 52 [.val,.val,.val,(.arr 145 v3),.val]),(.arr 82 v4)],kW,false⟩]⟩
theorem Kf:Has Tryz.prog 110 c_ev qR:=fp (R:=bd) (tr:=false) (E:=[(43,0,qp),(85,1,c_dq),(145,2,c_ei),(146,3,c_gb)]) (Φ:=GS) (t:=t_ev) ⟨fE,Ed,Ke,Ee,trivial⟩ Tryz.f110 hE (by kernel_rfl)
def Jc:Con:=⟨[.own true [.val,(.arr 145 v3),.val,(.arr 82 v4),(.arr 52 [.val,.val,.val,(.arr 145 v3),.val]),(.arr 82 v4)] kW false,.ro true [kI,kI,kI,.list]],[⟨true,[.val,(.arr 145 v3),.val,(.arr 82 v4),(.arr 52 [.val,.val,.val,(.arr 145 v3),.val]),(.arr 82 v4)],kW,false⟩]⟩
def h_gp:How:=⟨aw [],
 aw [(5,⟨[.bool],[(7,(.bool (.v 0)))],[],[],0⟩)],
 aw []⟩
theorem z9:Has Tryz.prog 57 Jc jR:=fp (R:=bd) (tr:=false) (E:=[(108,0,c_ep),(109,1,c_gc),(110,2,c_ev)]) (Φ:=GT) (t:=t_gp) ⟨J2,Kd,Kf,trivial⟩ Tryz.f57 h_gp (by kernel_rfl)
def c_ed:Con:=⟨[.ptr [.val,.val] [.list,kI],.ro true kW],[⟨true,v4,[kI,kI,kI,.list],false⟩]⟩
def h_ed:How:=⟨aw [],
 aw [(25,⟨[.bool],[(77,(.bool (.v 0)))],[],[],0⟩),(17,⟨[.bool],[(52,(.bool (.v 0)))],[],[],0⟩),(9,⟨[.bool],[(32,(.bool (.v 0)))],[],[],0⟩),(6,⟨[.list,kI],[],[(0,.cells [(.view true (.v 0)),(sI 1)])],[],0⟩)],
 aw []⟩
theorem Ef:Has Tryz.prog 66 c_ed nG:=fp (R:=bd) (tr:=false) (E:=[(116,0,CC),(83,1,Jb),(39,2,wb)]) (Φ:=GU) (t:=t_ed) ⟨nb,z8,iH,trivial⟩ Tryz.f66 h_ed (by kernel_rfl)
def c_er:Con:=⟨[.ptr [.val,.val] [.list,kI]],[⟨false,[(.arr 3 [.val])],[.list],false⟩,⟨false,[(.arr 61 v4)],[.list],false⟩,⟨true,[.val,(.arr 145 v3),.val,(.arr 82 v4),(.arr 52 [.val,.val,.val,(.arr 145 v3),.val]),(.arr 82 v4)],kW,false⟩]⟩
def h_er:How:=⟨aw [(2,⟨[kI,.list,kI,.bool,kI,.list,.list,.list,.list,.list],[(8,(.sl 1000)),(11,(sI 0))],[(0,.cells [(.view true (.v 1)),(sI 2)]),(7,.cells [(.bool (.v 3)),(.sl 1001),(sI 4),(.sl 1002),(.sl 1003),(.sl 1004)]),(1000,.arr 61 v4 (.v 5)),(1001,.arr 145 v3 (.v 6)),(1002,.arr 82 v4 (.v 7)),(1003,.arr 52 [.val,.val,.val,(.arr 145 v3),.val] (.v 8)),(1004,.arr 82 v4 (.v 9))],[9,10,11,12,13],5⟩),(0,⟨[kI,.bool,kI,.list,.list,.list,.list,.list],[(8,(.sl 1000)),(29,(sI 0))],[(7,.cells [(.bool (.v 1)),(.sl 1001),(sI 2),(.sl 1002),(.sl 1003),(.sl 1004)]),(1000,.arr 61 v4 (.v 3)),(1001,.arr 145 v3 (.v 4)),(1002,.arr 82 v4 (.v 5)),(1003,.arr 52 [.val,.val,.val,(.arr 145 v3),.val] (.v 6)),(1004,.arr 82 v4 (.v 7))],[8,3,4,5,6],5⟩)],
 aw [(11,⟨[.bool,kI,.list,kI,.list,.list,.list,.list,.list],[(8,(.sl 1000))],[(7,.cells [(.bool (.v 0)),(.sl 1001),(sI 1),(.sl 1002),(.sl 1003),(.sl 1004)]),(0,.cells [(.view true (.v 2)),(sI 3)]),(1000,.arr 61 v4 (.v 4)),(1001,.arr 145 v3 (.v 5)),(1002,.arr 82 v4 (.v 6)),(1003,.arr 52 [.val,.val,.val,(.arr 145 v3),.val] (.v 7)),(1004,.arr 82 v4 (.v 8))],[8,3,4,5,6],5⟩)],
 aw []⟩
theorem Eg:Has Tryz.prog 54 c_er qS:=fp (R:=bd) (tr:=false) (E:=[(97,0,c_du),(56,1,c_dv),(39,2,wb),(57,3,Jc),(66,4,c_ed)]) (Φ:=GV) (t:=t_er) ⟨JY,D3,iH,z9,Ef,trivial⟩ Tryz.f54 h_er (by kernel_rfl)
def c_fh:Con:=⟨[.ptr [.val,.val] [.list,kI]],[⟨true,v4,kJ,false⟩]⟩
def h_fh:How:=⟨aw [],
 aw [(4,⟨[kI,.list,kI],[],[(2,.cells [(sI 1005),(sI 1009),(sI 1013),(sI 0)]),(0,.cells [(.view true (.v 1)),(sI 2)])],[],0⟩)],
 aw []⟩
theorem Kg:Has Tryz.prog 69 c_fh ug:=fp (R:=bd) (tr:=false) (E:=[(39,0,wb)]) (Φ:=GW) (t:=t_fh) ⟨iH,trivial⟩ Tryz.f69 h_fh (by kernel_rfl)
def c_dp:Con:=⟨[.ptr [.val,.val] [.list,kI]],[⟨true,[.val,.val,.val,.val,.val,.val],kW,false⟩]⟩
def h_dp:How:=⟨aw [(1,⟨[.list],[],[(8,.cells [(.bool (.v 1004)),(.sl 4),(sI 1006),(.sl 5),(.sl 6),(.sl 1000)]),(1000,.arr 82 v4 (.v 0))],[7],1⟩)],
 aw [],
 aw []⟩
theorem Eh:Has Tryz.prog 38 c_dp nH:=fp (R:=bd) (tr:=true) (E:=[(54,0,c_er),(39,1,wb),(69,2,c_fh)]) (Φ:=GX) (t:=t_dp) ⟨Eg,iH,Kg,trivial⟩ Tryz.f38 h_dp (by kernel_rfl)
def c_ay:Con:=⟨[.own false [.val] [.list] false],[⟨true,[.val,.val,.val,.val,.val,.val],kW,false⟩,⟨false,[.val],[kI],false⟩]⟩
theorem Kh:Has Tryz.prog 15 c_ay xg:=fp (R:=bd) (tr:=false) (E:=[(37,0,Ja),(38,1,c_dp),(39,2,wb)]) (Φ:=GY) (t:=t_ay) ⟨z7,Eh,iH,trivial⟩ Tryz.f15 hE (by kernel_rfl)
def mm:Con:=⟨[.ro false [kI],.ro false [kI],.ro false [kI]],[⟨false,[.val],[.bool],false⟩]⟩
theorem d8:Has Tryz.prog 40 mm bV:=fp (R:=[]) (tr:=false) (E:=[]) (Φ:=ph []) (t:=t_gx) trivial Tryz.f40 hE (by kernel_rfl)
def c_bv:Con:=⟨[.ro false [kI]],[⟨false,[.val],[.bool],false⟩]⟩
theorem Ki:Has Tryz.prog 172 c_bv xh:=fp (R:=[]) (tr:=false) (E:=[(40,0,mm)]) (Φ:=GZ) (t:=t_bv) ⟨d8,trivial⟩ Tryz.f172 hE (by kernel_rfl)
def c_ao:Con:=⟨[.ro false [.list],.fn 172 []],[⟨false,[.val],[kI],false⟩]⟩
def h_ao:How:=⟨aw [(0,⟨[kI],[(4,(.int .i64 (.n 0))),(8,(sI 0))],[],[],0⟩)],
 aw [],
 aw []⟩
theorem Kj:Has Tryz.prog 176 c_ao xi:=fp (R:=[]) (tr:=false) (E:=[(172,0,c_bv)]) (Φ:=G0) (t:=t_ao) ⟨Ki,trivial⟩ Tryz.f176 h_ao (by kernel_rfl)
def c_ak:Con:=⟨[.ro false [.list],.fn 172 []],[⟨false,[.val],[.bool],false⟩]⟩
theorem Kk:Has Tryz.prog 174 c_ak xj:=fp (R:=[]) (tr:=false) (E:=[(176,0,c_ao)]) (Φ:=G1) (t:=t_ak) ⟨Kj,trivial⟩ Tryz.f174 hE (by kernel_rfl)
def c_bz:Con:=⟨[.ro false [kI]],[⟨false,[.val],[.bool],false⟩]⟩
theorem Kl:Has Tryz.prog 173 c_bz xk:=fp (R:=[]) (tr:=false) (E:=[]) (Φ:=ph []) (t:=t_bz) trivial Tryz.f173 hE (by kernel_rfl)
def c_an:Con:=⟨[.ro false [.list],.fn 173 []],[⟨false,[.val],[kI],false⟩]⟩
def h_an:How:=⟨aw [(0,⟨[kI],[(4,(.int .i64 (.n 0))),(8,(sI 0))],[],[],0⟩)],
 aw [],
 aw []⟩
theorem Km:Has Tryz.prog 176 c_an xl:=fp (R:=[]) (tr:=false) (E:=[(173,0,c_bz)]) (Φ:=G2) (t:=t_an) ⟨Kl,trivial⟩ Tryz.f176 h_an (by kernel_rfl)
def c_al:Con:=⟨[.ro false [.list],.fn 173 []],[⟨false,[.val],[.bool],false⟩]⟩
theorem Kn:Has Tryz.prog 174 c_al xm:=fp (R:=[]) (tr:=false) (E:=[(176,0,c_an)]) (Φ:=G3) (t:=t_al) ⟨Km,trivial⟩ Tryz.f174 hE (by kernel_rfl)
def c_dy:Con:=⟨[.ro false [.list]],[⟨false,[.val],[.bool],false⟩]⟩
theorem Ei:Has Tryz.prog 163 c_dy qT:=fp (R:=[]) (tr:=false) (E:=[(174,0,c_ak),(174,1,c_al)]) (Φ:=G4) (t:=t_dy) ⟨Kk,Kn,trivial⟩ Tryz.f163 hE (by kernel_rfl)
def F2:Con:=⟨[.ro false [kI]],[⟨false,[.val],[.bool],false⟩]⟩
theorem uN:Has Tryz.prog 64 F2 gr:=fp (R:=[]) (tr:=false) (E:=[(40,0,mm)]) (Φ:=G5) (t:=t_fy) ⟨d8,trivial⟩ Tryz.f64 hE (by kernel_rfl)
def Ej:Con:=⟨[.ro true [kI,kI,.list]],[⟨false,[.val],[.bool],false⟩]⟩
theorem qt:Has Tryz.prog 133 Ej iC:=fp (R:=[]) (tr:=false) (E:=[(40,0,mm),(163,1,c_dy),(64,2,F2)]) (Φ:=G6) (t:=t_gr) ⟨d8,Ei,uN,trivial⟩ Tryz.f133 hE (by kernel_rfl)
def c_fn:Con:=⟨[.ro true [kI,kI,.list]],[⟨false,[.val],[.bool],false⟩]⟩
theorem Ko:Has Tryz.prog 132 c_fn xn:=fp (R:=[]) (tr:=false) (E:=[(133,0,Ej)]) (Φ:=G7) (t:=t_fn) ⟨qt,trivial⟩ Tryz.f132 hE (by kernel_rfl)
def c_am:Con:=⟨[.ro false [.list],.fn 132 []],[⟨false,[.val],[kI],false⟩]⟩
def h_am:How:=⟨aw [(0,⟨[kI],[(4,(.int .i64 (.n 0))),(8,(sI 0))],[],[],0⟩)],
 aw [],
 aw []⟩
theorem Kq:Has Tryz.prog 164 c_am xo:=fp (R:=[]) (tr:=false) (E:=[(132,0,c_fn)]) (Φ:=G8) (t:=t_am) ⟨Ko,trivial⟩ Tryz.f164 h_am (by kernel_rfl)
def c_aj:Con:=⟨[.ro false [.list],.fn 132 []],[⟨false,[.val],[.bool],false⟩]⟩
theorem Kr:Has Tryz.prog 134 c_aj xp:=fp (R:=[]) (tr:=false) (E:=[(164,0,c_am)]) (Φ:=G9) (t:=t_aj) ⟨Kq,trivial⟩ Tryz.f134 hE (by kernel_rfl)
def Ek:Con:=⟨[.ro true [.list,kI]],[⟨false,[.val],[.bool],false⟩]⟩
theorem qu:Has Tryz.prog 90 Ek iD:=fp (R:=[]) (tr:=false) (E:=[(40,0,mm),(134,1,c_aj)]) (Φ:=Ha) (t:=t_gt) ⟨d8,Kr,trivial⟩ Tryz.f90 hE (by kernel_rfl)
def c_dh:Con:=⟨[.ro true [.list,kI]],[⟨false,[.val],[.bool],false⟩]⟩
theorem Ks:Has Tryz.prog 177 c_dh xq:=fp (R:=[]) (tr:=false) (E:=[(163,0,c_dy),(40,1,mm)]) (Φ:=Hb) (t:=t_dh) ⟨Ei,d8,trivial⟩ Tryz.f177 hE (by kernel_rfl)
def c_ag:Con:=⟨[.ro false [.list],.fn 177 []],[⟨false,[.val],[kI],false⟩]⟩
def h_ag:How:=⟨aw [(0,⟨[kI],[(4,(.int .i64 (.n 0))),(8,(sI 0))],[],[],0⟩)],
 aw [],
 aw []⟩
theorem Kt:Has Tryz.prog 179 c_ag xr:=fp (R:=[]) (tr:=false) (E:=[(177,0,c_dh)]) (Φ:=Hc) (t:=t_ag) ⟨Ks,trivial⟩ Tryz.f179 h_ag (by kernel_rfl)
def c_ad:Con:=⟨[.ro false [.list],.fn 177 []],[⟨false,[.val],[.bool],false⟩]⟩
theorem Ku:Has Tryz.prog 178 c_ad xt:=fp (R:=[]) (tr:=false) (E:=[(179,0,c_ag)]) (Φ:=Hd) (t:=t_ad) ⟨Kt,trivial⟩ Tryz.f178 hE (by kernel_rfl)
def c_fk:Con:=⟨[.ro false [.list]],[⟨false,[.val],[.bool],false⟩]⟩
theorem Kv:Has Tryz.prog 175 c_fk xu:=fp (R:=[]) (tr:=false) (E:=[(178,0,c_ad)]) (Φ:=He) (t:=t_fk) ⟨Ku,trivial⟩ Tryz.f175 hE (by kernel_rfl)
def c_ff:Con:=⟨[.ro false [.list],.ro false [kI]],[⟨false,[.val],[kI],false⟩]⟩
theorem El:Has Tryz.prog 154 c_ff qU:=fp (R:=[]) (tr:=false) (E:=[(40,0,mm)]) (Φ:=Hf) (t:=t_ff) ⟨d8,trivial⟩ Tryz.f154 hE (by kernel_rfl)
def c_ec:Con:=⟨[.ro false [.list],.ro true [kI,kI,.list]],[⟨false,[.val],[.bool],false⟩]⟩
theorem Em:Has Tryz.prog 165 c_ec qV:=fp (R:=[]) (tr:=false) (E:=[(175,0,c_fk),(133,1,Ej),(154,2,c_ff)]) (Φ:=Hg) (t:=t_ec) ⟨Kv,qt,El,trivial⟩ Tryz.f165 hE (by kernel_rfl)
def c_bo:Con:=⟨[.ro false [.list]],[⟨false,[.val],[.list],false⟩]⟩
theorem En:Has Tryz.prog 166 c_bo nJ:=fp (R:=[]) (tr:=false) (E:=[]) (Φ:=ph []) (t:=t_bo) trivial Tryz.f166 hE (by kernel_rfl)
def c_fa:Con:=⟨[.ro false [.list],.ro true [kI,kI,.list]],[⟨false,[.val],[.list],false⟩,⟨false,[.val],[.bool],false⟩]⟩
def h_fa:How:=⟨aw [(0,⟨[kI,.list],[(6,(.sl 1000)),(16,(sI 0))],[(1000,.arr 54 [.val,.val] (.v 1))],[],1⟩)],
 aw [],
 aw []⟩
theorem Kw:Has Tryz.prog 135 c_fa xv:=fp (R:=[]) (tr:=false) (E:=[(165,0,c_ec),(166,1,c_bo)]) (Φ:=Hh) (t:=t_fa) ⟨Em,En,trivial⟩ Tryz.f135 h_fa (by kernel_rfl)
def c_eu:Con:=⟨[.ro false [.list]],[⟨false,[.val],[.list],false⟩,⟨false,[.val],[.bool],false⟩]⟩
def h_eu:How:=⟨aw [(0,⟨[.list,.bool,kI],[(4,(.view true (.v 0))),(5,(.bool (.v 1))),(6,(sI 2))],[],[],0⟩)],
 aw [],
 aw []⟩
theorem Eo:Has Tryz.prog 91 c_eu qW:=fp (R:=[]) (tr:=false) (E:=[(135,0,c_fa)]) (Φ:=Hi) (t:=t_eu) ⟨Kw,trivial⟩ Tryz.f91 h_eu (by kernel_rfl)
def CD:Con:=⟨[.ro false [kI]],[⟨false,[.val],[.bool],false⟩]⟩
theorem nc:Has Tryz.prog 94 CD fX:=fp (R:=[]) (tr:=false) (E:=[(40,0,mm)]) (Φ:=Hj) (t:=t_em) ⟨d8,trivial⟩ Tryz.f94 hE (by kernel_rfl)
def F3:Con:=⟨[.ro true kJ],[⟨false,[.val],[.bool],false⟩]⟩
theorem uO:Has Tryz.prog 53 F3 jS:=fp (R:=[]) (tr:=false) (E:=[(40,0,mm),(94,1,CD),(64,2,F2)]) (Φ:=Hk) (t:=t_ge) ⟨d8,nc,uN,trivial⟩ Tryz.f53 hE (by kernel_rfl)
def Ep:Con:=⟨[.ro true kJ],[⟨false,[.val],[.bool],false⟩]⟩
theorem qv:Has Tryz.prog 92 Ep iE:=fp (R:=[]) (tr:=false) (E:=[]) (Φ:=ph []) (t:=t_bk) trivial Tryz.f92 hE (by kernel_rfl)
def c_as:Con:=⟨[.ro false [.list],.ro true kJ],[⟨false,[.val],[kI],false⟩]⟩
def h_as:How:=⟨aw [(0,⟨[kI],[(4,(.int .i64 (.n 0))),(8,(sI 0))],[],[],0⟩)],
 aw [],
 aw []⟩
theorem Kx:Has Tryz.prog 136 c_as xw:=fp (R:=[]) (tr:=false) (E:=[]) (Φ:=ph []) (t:=t_as) trivial Tryz.f136 h_as (by kernel_rfl)
def Jd:Con:=⟨[.ro false [.list],.ro true kJ],[⟨false,[.val],[.bool],false⟩]⟩
theorem Aa:Has Tryz.prog 93 Jd mI:=fp (R:=[]) (tr:=false) (E:=[(136,0,c_as)]) (Φ:=Hl) (t:=t_ap) ⟨Kx,trivial⟩ Tryz.f93 hE (by kernel_rfl)
def yO:Con:=⟨[.ro true kD],[⟨false,[.val],[.bool],false⟩]⟩
def h_fs:How:=⟨aw [(0,⟨[kI],[(2,(.bool (.b false))),(32,(sI 0))],[],[],0⟩)],
 aw [(3,⟨[],[(2,(.bool (.b false)))],[],[],0⟩)],
 aw []⟩
theorem jE:Has Tryz.prog 49 yO eN:=fp (R:=[]) (tr:=false) (E:=[(90,0,Ek),(91,1,c_eu),(53,2,F3),(92,3,Ep),(93,4,Jd)]) (Φ:=Hm) (t:=t_fs) ⟨qu,Eo,uO,qv,Aa,trivial⟩ Tryz.f49 h_fs (by kernel_rfl)
def c_dz:Con:=⟨[.ro false [kI]],[⟨true,[.val,(.arr 64 [.val,.val])],[kI,.list],false⟩,⟨false,[.val],[.bool],false⟩]⟩
theorem Ky:Has Tryz.prog 137 c_dz xx:=fp (R:=[]) (tr:=false) (E:=[(40,0,mm)]) (Φ:=Hn) (t:=t_dz) ⟨d8,trivial⟩ Tryz.f137 hE (by kernel_rfl)
def c_fe:Con:=⟨[.ro true [kI,kI]],[⟨false,[.val],[.bool],false⟩]⟩
theorem Kz:Has Tryz.prog 113 c_fe xy:=fp (R:=[]) (tr:=false) (E:=[(40,0,mm)]) (Φ:=Ho) (t:=t_fe) ⟨d8,trivial⟩ Tryz.f113 hE (by kernel_rfl)
def c_cm:Con:=⟨[.ro true [kI,kI]],[⟨false,[.val],[.bool],false⟩]⟩
theorem KA:Has Tryz.prog 112 c_cm xz:=fp (R:=[]) (tr:=false) (E:=[(113,0,c_fe)]) (Φ:=Hp) (t:=t_cm) ⟨Kz,trivial⟩ Tryz.f112 hE (by kernel_rfl)
def c_ai:Con:=⟨[.ro false [.list],.fn 112 []],[⟨false,[.val],[kI],false⟩]⟩
def h_ai:How:=⟨aw [(0,⟨[kI],[(4,(.int .i64 (.n 0))),(8,(sI 0))],[],[],0⟩)],
 aw [],
 aw []⟩
theorem KB:Has Tryz.prog 147 c_ai xA:=fp (R:=[]) (tr:=false) (E:=[(112,0,c_cm)]) (Φ:=Hq) (t:=t_ai) ⟨KA,trivial⟩ Tryz.f147 h_ai (by kernel_rfl)
def c_ae:Con:=⟨[.ro false [.list],.fn 112 []],[⟨false,[.val],[.bool],false⟩]⟩
theorem KC:Has Tryz.prog 114 c_ae xB:=fp (R:=[]) (tr:=false) (E:=[(147,0,c_ai)]) (Φ:=Hr) (t:=t_ae) ⟨KB,trivial⟩ Tryz.f114 hE (by kernel_rfl)
def Je:Con:=⟨[.ro true [kI,.list]],[⟨false,[.val],[kI],false⟩]⟩
def h_cj:How:=⟨aw [(0,⟨[kI,kI],[(3,(sI 0)),(11,(sI 1))],[],[],0⟩)],
 aw [],
 aw []⟩
theorem Ab:Has Tryz.prog 60 Je mJ:=fp (R:=[]) (tr:=false) (E:=[]) (Φ:=ph []) (t:=t_cj) trivial Tryz.f60 h_cj (by kernel_rfl)
def c_eq:Con:=⟨[.ro true [kI,.list]],[⟨false,[.val],[.bool],false⟩]⟩
theorem Er:Has Tryz.prog 59 c_eq qX:=fp (R:=[]) (tr:=false) (E:=[(40,0,mm),(114,1,c_ae),(60,2,Je)]) (Φ:=Hs) (t:=t_eq) ⟨d8,KC,Ab,trivial⟩ Tryz.f59 hE (by kernel_rfl)
def c_dn:Con:=⟨[.ro true [kI,.list],.ro true [kI,kI,.list]],[⟨false,[.val],[.bool],false⟩]⟩
theorem Es:Has Tryz.prog 150 c_dn qY:=fp (R:=[]) (tr:=false) (E:=[(59,0,c_eq),(133,1,Ej),(60,2,Je)]) (Φ:=Ht) (t:=t_dn) ⟨Er,qt,Ab,trivial⟩ Tryz.f150 hE (by kernel_rfl)
def c_at:Con:=⟨[.ro false [.list]],[⟨false,[(.arr 64 [.val,.val])],[.list],false⟩]⟩
theorem KD:Has Tryz.prog 167 c_at xC:=fp (R:=[]) (tr:=false) (E:=[]) (Φ:=ph []) (t:=t_at) trivial Tryz.f167 hE (by kernel_rfl)
def c_fj:Con:=⟨[.ro true [kI,.list],.ro true [kI,kI,.list]],[⟨true,[.val,.val],[kI,.list],false⟩,⟨false,[.val],[.bool],false⟩]⟩
def h_fj:How:=⟨aw [],
 aw [(4,⟨[.list],[(6,(.ptr 1000 0))],[(1000,.cells [(sI 1000),(.sl 1001)]),(1001,.arr 64 [.val,.val] (.v 0))],[],2⟩)],
 aw []⟩
theorem KE:Has Tryz.prog 138 c_fj xD:=fp (R:=[]) (tr:=false) (E:=[(150,0,c_dn),(167,1,c_at)]) (Φ:=Hu) (t:=t_fj) ⟨Es,KD,trivial⟩ Tryz.f138 h_fj (by kernel_rfl)
def c_ek:Con:=⟨[.ro false [kI],.ro false [.list]],[⟨true,[.val,.val],[kI,.list],false⟩,⟨false,[.val],[.bool],false⟩]⟩
def h_ek:How:=⟨aw [(0,⟨[.bool,kI,kI,.list],[(7,(.bool (.v 0))),(8,(sI 1))],[(2,.cells [(sI 2),(.view true (.v 3))])],[],0⟩)],
 aw [],
 aw []⟩
theorem Et:Has Tryz.prog 95 c_ek qZ:=fp (R:=[]) (tr:=false) (E:=[(137,0,c_dz),(138,1,c_fj)]) (Φ:=Hv) (t:=t_ek) ⟨Ky,KE,trivial⟩ Tryz.f95 h_ek (by kernel_rfl)
def CE:Con:=⟨[.ro true kH],[⟨false,[.val],[.bool],false⟩]⟩
theorem ng:Has Tryz.prog 50 CE gu:=fp (R:=[]) (tr:=false) (E:=[(94,0,CD),(90,1,Ek),(95,2,c_ek)]) (Φ:=Hw) (t:=t_ej) ⟨nc,qu,Et,trivial⟩ Tryz.f50 hE (by kernel_rfl)
def c_cv:Con:=⟨[.ro true kJ],[⟨false,[.val],[.bool],false⟩]⟩
theorem KF:Has Tryz.prog 52 c_cv xE:=fp (R:=[]) (tr:=false) (E:=[(53,0,F3)]) (Φ:=Hx) (t:=t_cv) ⟨uO,trivial⟩ Tryz.f52 hE (by kernel_rfl)
def c_ah:Con:=⟨[.ro false [.list],.fn 52 []],[⟨false,[.val],[kI],false⟩]⟩
def h_ah:How:=⟨aw [(0,⟨[kI],[(4,(.int .i64 (.n 0))),(8,(sI 0))],[],[],0⟩)],
 aw [],
 aw []⟩
theorem KG:Has Tryz.prog 96 c_ah xF:=fp (R:=[]) (tr:=false) (E:=[(52,0,c_cv)]) (Φ:=Hy) (t:=t_ah) ⟨KF,trivial⟩ Tryz.f96 h_ah (by kernel_rfl)
def c_ac:Con:=⟨[.ro false [.list],.fn 52 []],[⟨false,[.val],[.bool],false⟩]⟩
theorem KH:Has Tryz.prog 51 c_ac xG:=fp (R:=[]) (tr:=false) (E:=[(96,0,c_ah)]) (Φ:=Hz) (t:=t_ac) ⟨KG,trivial⟩ Tryz.f51 hE (by kernel_rfl)
def F4:Con:=⟨[.ro true kW],[⟨false,[.val],[.bool],false⟩]⟩
def h_eh:How:=⟨aw [(0,⟨[kI],[(2,(.bool (.b false))),(24,(sI 0))],[],[],0⟩)],
 aw [],
 aw []⟩
theorem uP:Has Tryz.prog 20 F4 jh:=fp (R:=[]) (tr:=false) (E:=[(49,0,yO),(50,1,CE),(51,2,c_ac)]) (Φ:=HA) (t:=t_eh) ⟨jE,ng,KH,trivial⟩ Tryz.f20 h_eh (by kernel_rfl)
def c_cf:Con:=⟨[.ro true [kI,kI,.list]],[⟨true,v3,[kI,kI,.list],false⟩]⟩
theorem Eu:Has Tryz.prog 169 c_cf rb:=fp (R:=[]) (tr:=false) (E:=[(166,0,c_bo)]) (Φ:=HB) (t:=t_cf) ⟨En,trivial⟩ Tryz.f169 hE (by kernel_rfl)
def Jf:Con:=⟨[.ro true [.list,kI],.ro false [kI],.ro false [kI]],[⟨true,[(.arr 145 v3),.val],[.list,kI],false⟩]⟩
def h_cx:How:=⟨aw [(0,⟨[kI,.list],[(17,(sI 0))],[(2,.cells [(.sl 1000),(sI 1003)]),(1000,.arr 145 v3 (.v 1))],[],1⟩)],
 aw [],
 aw []⟩
theorem Ac:Has Tryz.prog 149 Jf mK:=fp (R:=[]) (tr:=false) (E:=[(169,0,c_cf)]) (Φ:=HC) (t:=t_cx) ⟨Eu,trivial⟩ Tryz.f149 h_cx (by kernel_rfl)
def Jg:Con:=⟨[.ro true [.list,kI]],[⟨true,[(.arr 145 v3),.val],[.list,kI],false⟩]⟩
theorem Ad:Has Tryz.prog 118 Jg mL:=fp (R:=[]) (tr:=false) (E:=[(149,0,Jf)]) (Φ:=HD) (t:=t_cb) ⟨Ac,trivial⟩ Tryz.f118 hE (by kernel_rfl)
def c_au:Con:=⟨[.ro false [.list]],[⟨false,[(.arr 82 v4)],[.list],false⟩]⟩
theorem Ew:Has Tryz.prog 71 c_au rc:=fp (R:=[]) (tr:=false) (E:=[]) (Φ:=ph []) (t:=t_au) trivial Tryz.f71 hE (by kernel_rfl)
def Ex:Con:=⟨[.ro true kD],[⟨true,[.val,.val,.val,(.arr 82 v4)],kD,false⟩]⟩
theorem qw:Has Tryz.prog 70 Ex iF:=fp (R:=[]) (tr:=false) (E:=[(118,0,Jg),(71,1,c_au)]) (Φ:=HE) (t:=t_bu) ⟨Ad,Ew,trivial⟩ Tryz.f70 hE (by kernel_rfl)
def F5:Con:=⟨[.ro true kH],[⟨true,v5,kH,false⟩]⟩
theorem uQ:Has Tryz.prog 72 F5 jT:=fp (R:=[]) (tr:=false) (E:=[(118,0,Jg)]) (Φ:=HF) (t:=t_bd) ⟨Ad,trivial⟩ Tryz.f72 hE (by kernel_rfl)
def c_be:Con:=⟨[.ro true kW],[⟨true,[.val,.val,.val,(.arr 82 v4),(.arr 52 v5),(.arr 82 v4)],kW,false⟩]⟩
def h_be:How:=⟨aw [(0,⟨[kI,.list],[(16,(sI 0))],[(2,.cells [(.bool (.v 1006)),(.view true (.v 1007)),(sI 1008),(.sl 3),(.sl 1000),(.sl 4)]),(1000,.arr 52 v5 (.v 1))],[],1⟩)],
 aw [(2,⟨[.bool,.list,kI,.list,.list],[(3,(.ptr 1000 0))],[(1000,.cells [(.bool (.v 0)),(.view true (.v 1)),(sI 2),(.sl 1001),.nil,(.sl 1002)]),(1001,.arr 82 v4 (.v 3)),(1002,.arr 82 v4 (.v 4))],[],3⟩)],
 aw []⟩
theorem Ey:Has Tryz.prog 41 c_be re:=fp (R:=[]) (tr:=false) (E:=[(70,0,Ex),(71,1,c_au),(72,2,F5)]) (Φ:=HG) (t:=t_be) ⟨qw,Ew,uQ,trivial⟩ Tryz.f41 h_be (by kernel_rfl)
def c_dw:Con:=⟨[.ro true [.list,kI]],[⟨true,[.val,.val],[.list,kI],false⟩]⟩
theorem Ez:Has Tryz.prog 122 c_dw rf:=fp (R:=[]) (tr:=false) (E:=[(90,0,Ek),(149,1,Jf)]) (Φ:=HH) (t:=t_dw) ⟨qu,Ac,trivial⟩ Tryz.f122 hE (by kernel_rfl)
def c_cw:Con:=⟨[.ro true kD],[⟨true,[.val,.val,.val,(.arr 82 v4)],kD,false⟩]⟩
theorem KJ:Has Tryz.prog 79 c_cw xH:=fp (R:=[]) (tr:=false) (E:=[(49,0,yO),(70,1,Ex),(122,2,c_dw)]) (Φ:=HI) (t:=t_cw) ⟨jE,qw,Ez,trivial⟩ Tryz.f79 hE (by kernel_rfl)
def c_ci:Con:=⟨[.ro true kH],[⟨true,v5,kH,false⟩]⟩
theorem KK:Has Tryz.prog 80 c_ci xI:=fp (R:=[]) (tr:=false) (E:=[(50,0,CE),(72,1,F5),(122,2,c_dw)]) (Φ:=HJ) (t:=t_ci) ⟨ng,uQ,Ez,trivial⟩ Tryz.f80 hE (by kernel_rfl)
def c_ab:Con:=⟨[.ptr [.val,.val,.val,(.arr 82 v4),(.arr 52 v5),(.arr 82 v4)] kW,.ro false [kI],.fn 79 [],.fn 80 []],[]⟩
theorem EA:Has Tryz.prog 73 c_ab rg:=fp (R:=[]) (tr:=false) (E:=[(94,0,CD),(79,1,c_cw),(80,2,c_ci)]) (Φ:=HK) (t:=t_ab) ⟨nc,KJ,KK,trivial⟩ Tryz.f73 hE (by kernel_rfl)
def c_dj:Con:=⟨[.ro true kD],[⟨true,[.val,.val,.val,(.arr 82 v4)],kD,false⟩]⟩
theorem KL:Has Tryz.prog 74 c_dj xJ:=fp (R:=[]) (tr:=false) (E:=[(49,0,yO),(70,1,Ex)]) (Φ:=HM) (t:=t_dj) ⟨jE,qw,trivial⟩ Tryz.f74 hE (by kernel_rfl)
def c_cr:Con:=⟨[.ro true kH],[⟨true,v5,kH,false⟩]⟩
theorem KM:Has Tryz.prog 75 c_cr xK:=fp (R:=[]) (tr:=false) (E:=[(50,0,CE),(72,1,F5)]) (Φ:=HN) (t:=t_cr) ⟨ng,uQ,trivial⟩ Tryz.f75 hE (by kernel_rfl)
def c_af:Con:=⟨[.ptr [.val,.val,.val,(.arr 82 v4),(.arr 52 v5),(.arr 82 v4)] kW,.ro false [kI],.fn 74 [],.fn 75 []],[]⟩
theorem EB:Has Tryz.prog 73 c_af rh:=fp (R:=[]) (tr:=false) (E:=[(94,0,CD),(74,1,c_dj),(75,2,c_cr)]) (Φ:=HO) (t:=t_af) ⟨nc,KL,KM,trivial⟩ Tryz.f73 hE (by kernel_rfl)
def c_cs:Con:=⟨[.own true [.val,.val] [.list,kI] false,.ro false [.bool]],[⟨false,[.val],[.list],false⟩]⟩
theorem EC:Has Tryz.prog 111 c_cs ri:=fp (R:=[]) (tr:=false) (E:=[]) (Φ:=ph []) (t:=t_cs) trivial Tryz.f111 hE (by kernel_rfl)
def CF:Con:=⟨[.ro true kD,.ro false [.bool]],[⟨false,[.val],[.list],false⟩]⟩
theorem ni:Has Tryz.prog 58 CF fg:=fp (R:=[]) (tr:=false) (E:=[(111,0,c_cs),(91,1,c_eu)]) (Φ:=HQ) (t:=t_ck) ⟨EC,Eo,trivial⟩ Tryz.f58 hE (by kernel_rfl)
def c_db:Con:=⟨[.ro true kD,.ro false [kI],.ro false [kI],.ro false [kI]],[⟨false,[.val],[.bool],false⟩]⟩
theorem ED:Has Tryz.prog 115 c_db rj:=fp (R:=[]) (tr:=false) (E:=[(93,0,Jd)]) (Φ:=HR) (t:=t_db) ⟨Aa,trivial⟩ Tryz.f115 hE (by kernel_rfl)
def Jh:Con:=⟨[.ro true kD],[⟨false,[.val],[.list],false⟩]⟩
def h_bw:How:=⟨aw [(0,⟨[kI,.list],[(4,(.sl 1000)),(23,(sI 0))],[(1000,.arr 82 v4 (.v 1))],[],1⟩),(2,⟨[kI,.list],[(4,(.sl 1000)),(38,(sI 0))],[(1000,.arr 82 v4 (.v 1))],[2],1⟩)],
 aw [],
 aw []⟩
theorem Ae:Has Tryz.prog 65 Jh mM:=fp (R:=[]) (tr:=false) (E:=[(58,0,CF),(115,1,c_db)]) (Φ:=HS) (t:=t_bw) ⟨ni,ED,trivial⟩ Tryz.f65 h_bw (by kernel_rfl)
theorem KN:Has Tryz.prog 119 (gq 82) po:=DI (ρ:=⟨fun _=>119,fun t=>match t with|22=>26|25=>82|3=>3|4=>4|9=>9|20=>20|_=>0,fun x=>x⟩) ⟨pF,⟨Tryz.f119.name,by kernel_rfl,by kernel_rfl⟩,by kernel_rfl,by kernel_rfl,by kernel_rfl,by kernel_rfl⟩ rfl
def c_av:Con:=gq 82
def c_ar:Con:=⟨[.ro false [.list]],[⟨false,[(.arr 82 v4)],[.list],false⟩]⟩
def h_ar:How:=⟨aw [(2,⟨[kI,.list],[(6,(.sl 1000)),(27,(sI 0))],[(1000,.arr 82 v4 (.v 1))],[0],1⟩),(0,⟨[kI,kI],[(3,(sI 0)),(11,(sI 1))],[],[],0⟩)],
 aw [],
 aw []⟩
theorem KO:Has Tryz.prog 76 c_ar xL:=fp (R:=[]) (tr:=false) (E:=[(119,0,c_av)]) (Φ:=HT) (t:=t_ar) ⟨KN,trivial⟩ Tryz.f76 h_ar (by kernel_rfl)
def c_by:Con:=⟨[.ro true kD,.ro false [kI],.ro false [kI],.ro false [.list]],[⟨false,[.val],[.bool],false⟩,⟨false,[.val],[.bool],false⟩]⟩
def h_by:How:=⟨aw [(0,⟨[.bool,.bool,kI],[(8,(.bool (.v 0))),(9,(.bool (.v 1))),(15,(sI 2))],[],[],0⟩)],
 aw [],
 aw []⟩
theorem KP:Has Tryz.prog 153 c_by nK:=fp (R:=[]) (tr:=false) (E:=[(115,0,c_db)]) (Φ:=HU) (t:=t_by) ⟨ED,trivial⟩ Tryz.f153 h_by (by kernel_rfl)
def c_gj:Con:=⟨[.ro true [.list,kI],.ro true [kI,kI,.list]],[⟨true,[.val,.val],[.list,kI],false⟩,⟨false,[.val],[.bool],false⟩]⟩
theorem EE:Has Tryz.prog 151 c_gj rl:=fp (R:=[]) (tr:=false) (E:=[(90,0,Ek),(133,1,Ej),(118,2,Jg),(169,3,c_cf)]) (Φ:=HV) (t:=t_gj) ⟨qu,qt,Ad,Eu,trivial⟩ Tryz.f151 hE (by kernel_rfl)
def Ji:Con:=⟨[.ptr [.val,.val,.val,(.arr 82 v4)] kD,.ro true [kI,kI,.list]],[⟨false,[.val],[.bool],false⟩]⟩
theorem Af:Has Tryz.prog 139 Ji gY:=fp (R:=[]) (tr:=false) (E:=[(58,0,CF),(165,1,c_ec),(151,2,c_gj)]) (Φ:=HW) (t:=t_cc) ⟨ni,Em,EE,trivial⟩ Tryz.f139 hE (by kernel_rfl)
def c_bq:Con:=⟨[.ptr [.val,.val,.val,(.arr 82 v4)] kD,.ro false [kI]],[]⟩
def h_bq:How:=⟨aw [],
 aw [(9,⟨[.bool],[(82,(.bool (.v 0)))],[],[],0⟩),(7,⟨[.bool],[(71,(.bool (.v 0)))],[],[],0⟩)],
 aw []⟩
theorem KQ:Has Tryz.prog 121 c_bq un:=fp (R:=[]) (tr:=false) (E:=[(58,0,CF),(153,1,c_by),(154,2,c_ff),(139,3,Ji)]) (Φ:=Fa) (t:=t_bq) ⟨ni,KP,El,Af,trivial⟩ Tryz.f121 h_bq (by kernel_rfl)
def Jj:Con:=⟨[.ptr [.val,.val,.val,(.arr 82 v4)] kD,.ro true kJ],[]⟩
theorem Ag:Has Tryz.prog 78 Jj mN:=fp (R:=[]) (tr:=false) (E:=[(53,0,F3),(92,1,Ep),(58,2,CF),(93,3,Jd),(121,4,c_bq)]) (Φ:=HX) (t:=t_cl) ⟨uO,qv,ni,Aa,KQ,trivial⟩ Tryz.f78 hE (by kernel_rfl)
def F6:Con:=⟨[.ro true kH,.ro false [.bool]],[⟨true,[.val,.val],[kI,.list],false⟩]⟩
theorem uR:Has Tryz.prog 61 F6 ji:=fp (R:=[]) (tr:=false) (E:=[(111,0,c_cs),(95,1,c_ek)]) (Φ:=HY) (t:=t_br) ⟨EC,Et,trivial⟩ Tryz.f61 hE (by kernel_rfl)
def c_aw:Con:=⟨[.ro true kH,.ro true kJ],[⟨false,[.val],[kI],false⟩]⟩
def h_aw:How:=⟨aw [],
 aw [(5,⟨[.bool],[(33,(.bool (.v 0)))],[],[],0⟩),(3,⟨[.bool],[(25,(.bool (.v 0)))],[],[],0⟩)],
 aw []⟩
theorem KR:Has Tryz.prog 152 c_aw xM:=fp (R:=[]) (tr:=false) (E:=[(61,0,F6)]) (Φ:=HZ) (t:=t_aw) ⟨uR,trivial⟩ Tryz.f152 h_aw (by kernel_rfl)
def c_co:Con:=⟨[.ro true kH,.ro true kJ],[⟨true,v5,kH,false⟩,⟨true,v4,kJ,false⟩,⟨false,[.val],[.bool],false⟩]⟩
def h_co:How:=⟨aw [],
 aw [(9,⟨[.list],[],[(5,.cells [(sI 1005),(sI 1007),(.sl 1000)]),(1000,.arr 3 [.val] (.v 0))],[],1⟩)],
 aw []⟩
theorem EF:Has Tryz.prog 120 c_co rn:=fp (R:=[]) (tr:=false) (E:=[(50,0,CE),(72,1,F5),(53,2,F3),(92,3,Ep),(61,4,F6),(150,5,c_dn),(151,6,c_gj),(152,7,c_aw)]) (Φ:=H0) (t:=t_co) ⟨ng,uQ,uO,qv,uR,Es,EE,KR,trivial⟩ Tryz.f120 h_co (by kernel_rfl)
def c_ba:Con:=⟨[.ptr [.val,.val,.val,(.arr 82 v4),(.arr 52 v5),.val] kW,.ro true kJ],[⟨true,v4,kJ,false⟩,⟨false,[.val],[.bool],false⟩]⟩
theorem KS:Has Tryz.prog 77 c_ba xN:=fp (R:=[]) (tr:=false) (E:=[(92,0,Ep),(78,1,Jj),(120,2,c_co)]) (Φ:=H2) (t:=t_ba) ⟨qv,Ag,EF,trivial⟩ Tryz.f77 hE (by kernel_rfl)
def c_ch:Con:=⟨[.ptr [.val,.val,.val,(.arr 82 v4),(.arr 52 v5),(.arr 82 v4)] kW],[]⟩
def h_ch:How:=⟨aw [(4,⟨[kI,.bool,.list,kI,.list,.list,.list],[(49,(sI 0))],[(0,.cells [(.bool (.v 1)),(.view true (.v 2)),(sI 3),(.sl 1000),(.sl 1001),(.sl 1002)]),(1000,.arr 82 v4 (.v 4)),(1001,.arr 52 v5 (.v 5)),(1002,.arr 82 v4 (.v 6))],[9,10],3⟩),(2,⟨[kI,.bool,.list,kI,.list,.list,.list],[(29,(sI 0))],[(0,.cells [(.bool (.v 1)),(.view true (.v 2)),(sI 3),(.sl 1000),(.sl 1001),(.view true (.v 4))]),(1000,.arr 82 v4 (.v 5)),(1001,.arr 52 v5 (.v 6))],[4,5],2⟩),(0,⟨[kI,.bool,.list,kI,.list,.list,.list],[(9,(sI 0))],[(0,.cells [(.bool (.v 1)),(.view true (.v 2)),(sI 3),(.sl 1000),(.sl 1001),(.sl 1002)]),(1000,.arr 82 v4 (.v 4)),(1001,.arr 52 v5 (.v 5)),(1002,.arr 82 v4 (.v 6))],[1,2,3],3⟩)],
 aw [],
 aw []⟩
theorem KT:Has Tryz.prog 42 c_ch xO:=fp (R:=[]) (tr:=false) (E:=[(73,0,c_ab),(73,1,c_af),(65,2,Jh),(76,3,c_ar),(77,4,c_ba),(78,5,Jj)]) (Φ:=H3) (t:=t_ch) ⟨EA,EB,Ae,KO,KS,Ag,trivial⟩ Tryz.f42 h_ch (by kernel_rfl)
def tD:Con:=⟨[.ro true kW,.ro false [kI]],[⟨true,[.val,.val,.val,(.arr 82 v4),(.arr 52 v5),(.arr 82 v4)],kW,false⟩]⟩
def h_cz:How:=⟨aw [(0,⟨[kI,.bool,.list,kI,.list,.list,.list],[(18,(sI 0))],[(5,.cells [(.bool (.v 1)),(.view true (.v 2)),(sI 3),(.sl 1000),(.sl 1001),(.sl 1002)]),(1000,.arr 82 v4 (.v 4)),(1001,.arr 52 v5 (.v 5)),(1002,.arr 82 v4 (.v 6))],[2,3,4],3⟩)],
 aw [],
 aw []⟩
theorem gH:Has Tryz.prog 16 tD db:=fp (R:=[]) (tr:=false) (E:=[(20,0,F4),(40,1,mm),(41,2,c_be),(42,3,c_ch)]) (Φ:=H4) (t:=t_cz) ⟨uP,d8,Ey,KT,trivial⟩ Tryz.f16 h_cz (by kernel_rfl)
def c_gl:Con:=⟨[.ro true [.list,kI]],[⟨false,[.val],[.bool],false⟩]⟩
def h_gl:How:=⟨aw [(0,⟨[kI],[(2,(.bool (.b false))),(3,(sI 0))],[],[],0⟩)],
 aw [],
 aw []⟩
theorem EG:Has Tryz.prog 87 c_gl rp:=fp (R:=bd) (tr:=false) (E:=[(126,0,F0),(43,1,qp)]) (Φ:=H6) (t:=t_gl) ⟨uL,fE,trivial⟩ Tryz.f87 h_gl (by kernel_rfl)
def c_gg:Con:=⟨[.ro true kD],[⟨false,[.val],[.bool],false⟩]⟩
def h_gg:How:=⟨aw [(0,⟨[kI],[(2,(.bool (.b false))),(5,(sI 0))],[],[],0⟩)],
 aw [],
 aw []⟩
theorem KU:Has Tryz.prog 46 c_gg xP:=fp (R:=bd) (tr:=false) (E:=[(86,0,c_gu),(87,1,c_gl),(48,2,F1),(88,3,D8)]) (Φ:=H7) (t:=t_gg) ⟨D5,EG,uM,qq,trivial⟩ Tryz.f46 h_gg (by kernel_rfl)
def c_es:Con:=⟨[.ro true kH],[⟨false,[.val],[.bool],false⟩]⟩
theorem KV:Has Tryz.prog 47 c_es xQ:=fp (R:=bd) (tr:=false) (E:=[(89,0,c_gv),(43,1,qp),(87,2,c_gl)]) (Φ:=H8) (t:=t_es) ⟨Eb,fE,EG,trivial⟩ Tryz.f47 hE (by kernel_rfl)
def EH:Con:=⟨[.ro true kW],[⟨false,[.val],[.bool],false⟩]⟩
def h_fm:How:=⟨aw [(2,⟨[kI],[(2,(.bool (.b false))),(4,(sI 0))],[],[],0⟩),(0,⟨[kI],[(2,(.bool (.b false))),(3,(sI 0))],[],[],0⟩)],
 aw [],
 aw []⟩
theorem qx:Has Tryz.prog 19 EH iG:=fp (R:=bd) (tr:=false) (E:=[(46,0,c_gg),(47,1,c_es),(48,2,F1)]) (Φ:=H9) (t:=t_fm) ⟨KU,KV,uM,trivial⟩ Tryz.f19 h_fm (by kernel_rfl)
def c_ct:Con:=⟨[.ro true [kI,kI,.list]],[⟨true,v3,[kI,kI,.list],false⟩]⟩
theorem KW:Has Tryz.prog 155 c_ct xR:=fp (R:=bd) (tr:=false) (E:=[]) (Φ:=ph []) (t:=t_ct) trivial Tryz.f155 hE (by kernel_rfl)
def c_fx:Con:=⟨[.ro true [.list,kI]],[⟨true,[(.arr 145 v3),.val],[.list,kI],false⟩]⟩
def h_fx:How:=⟨aw [(0,⟨[kI,.list],[(4,(sI 0))],[(3,.cells [(.sl 1000),(sI 1001)]),(1000,.arr 145 v3 (.v 1))],[2],1⟩)],
 aw [],
 aw []⟩
theorem EI:Has Tryz.prog 123 c_fx rq:=fp (R:=bd) (tr:=false) (E:=[(155,0,c_ct)]) (Φ:=Ib) (t:=t_fx) ⟨KW,trivial⟩ Tryz.f123 h_fx (by kernel_rfl)
def c_el:Con:=⟨[.ro true kD],[⟨true,[.val,(.arr 145 v3),.val,(.arr 82 v4)],kD,false⟩]⟩
theorem KX:Has Tryz.prog 81 c_el xS:=fp (R:=bd) (tr:=false) (E:=[(123,0,c_fx)]) (Φ:=Ic) (t:=t_el) ⟨EI,trivial⟩ Tryz.f81 hE (by kernel_rfl)
def c_fi:Con:=⟨[.ro true kH],[⟨true,[.val,.val,.val,(.arr 145 v3),.val],kH,false⟩]⟩
theorem KY:Has Tryz.prog 82 c_fi xT:=fp (R:=bd) (tr:=false) (E:=[(123,0,c_fx)]) (Φ:=Ie) (t:=t_fi) ⟨EI,trivial⟩ Tryz.f82 hE (by kernel_rfl)
def c_fb:Con:=⟨[.ro true kW],[⟨true,[.val,(.arr 145 v3),.val,(.arr 82 v4),(.arr 52 [.val,.val,.val,(.arr 145 v3),.val]),(.arr 82 v4)],kW,false⟩]⟩
def h_fb:How:=⟨aw [(0,⟨[kI,.list],[(4,(sI 0))],[(2,.cells [(.bool (.v 1006)),(.sl 3),(sI 1007),(.sl 4),(.sl 1000),(.sl 5)]),(1000,.arr 52 [.val,.val,.val,(.arr 145 v3),.val] (.v 1))],[],1⟩)],
 aw [(2,⟨[.bool,kI,.list,.list,.list],[(3,(.ptr 1000 0))],[(1000,.cells [(.bool (.v 0)),(.sl 1001),(sI 1),(.sl 1002),.nil,(.sl 1003)]),(1001,.arr 145 v3 (.v 2)),(1002,.arr 82 v4 (.v 3)),(1003,.arr 82 v4 (.v 4))],[],4⟩)],
 aw []⟩
theorem EJ:Has Tryz.prog 44 c_fb rt:=fp (R:=bd) (tr:=false) (E:=[(81,0,c_el),(82,1,c_fi)]) (Φ:=If) (t:=t_fb) ⟨KX,KY,trivial⟩ Tryz.f44 h_fb (by kernel_rfl)
def c_fc:Con:=⟨[.own true [.val,(.arr 145 v3),.val,(.arr 82 v4),(.arr 52 [.val,.val,.val,(.arr 145 v3),.val]),(.arr 82 v4)] kW false],[⟨true,[.val,(.arr 145 v3),.val,(.arr 82 v4),(.arr 52 [.val,.val,.val,(.arr 145 v3),.val]),(.arr 82 v4)],kW,false⟩]⟩
def h_fc:How:=⟨aw [(4,⟨[kI,.bool,kI,.list,.list,.list,.list],[(12,(sI 0))],[(4,.cells [(.bool (.v 1)),(.sl 1000),(sI 2),(.sl 1001),(.sl 1002),(.sl 1003)]),(1000,.arr 145 v3 (.v 3)),(1001,.arr 82 v4 (.v 4)),(1002,.arr 52 [.val,.val,.val,(.arr 145 v3),.val] (.v 5)),(1003,.arr 82 v4 (.v 6))],[10,11,12,13],4⟩),(2,⟨[kI,.bool,kI,.list,.list,.list,.list],[(5,(sI 0))],[(4,.cells [(.bool (.v 1)),(.sl 1000),(sI 2),(.sl 1001),(.sl 1002),(.sl 1003)]),(1000,.arr 145 v3 (.v 3)),(1001,.arr 82 v4 (.v 4)),(1002,.arr 52 [.val,.val,.val,(.arr 145 v3),.val] (.v 5)),(1003,.arr 82 v4 (.v 6))],[9,2,0,1],4⟩),(0,⟨[kI,.list],[(3,(sI 0))],[(2,.arr 52 [.val,.val,.val,(.arr 145 v3),.val] (.v 1))],[],0⟩)],
 aw [],
 aw []⟩
theorem KZ:Has Tryz.prog 45 c_fc xU:=fp (R:=bd) (tr:=false) (E:=[(83,0,Jb),(84,1,c_et),(85,2,c_dq)]) (Φ:=Ig) (t:=t_fc) ⟨z8,Ec,Ed,trivial⟩ Tryz.f45 h_fc (by kernel_rfl)
def c_cu:Con:=⟨[.ro true kW,.ro false [kI]],[⟨true,[.val,(.arr 145 v3),.val,(.arr 82 v4),(.arr 52 [.val,.val,.val,(.arr 145 v3),.val]),(.arr 82 v4)],kW,false⟩]⟩
def h_cu:How:=⟨aw [(0,⟨[kI,.bool,kI,.list,.list,.list,.list],[(6,(sI 0))],[(6,.cells [(.bool (.v 1)),(.sl 1000),(sI 2),(.sl 1001),(.sl 1002),(.sl 1003)]),(1000,.arr 145 v3 (.v 3)),(1001,.arr 82 v4 (.v 4)),(1002,.arr 52 [.val,.val,.val,(.arr 145 v3),.val] (.v 5)),(1003,.arr 82 v4 (.v 6))],[2,3,4,5],4⟩)],
 aw [],
 aw []⟩
theorem K0:Has Tryz.prog 18 c_cu ru:=fp (R:=bd) (tr:=false) (E:=[(19,0,EH),(43,1,qp),(44,2,c_fb),(45,3,c_fc)]) (Φ:=Ih) (t:=t_cu) ⟨qx,fE,EJ,KZ,trivial⟩ Tryz.f18 h_cu (by kernel_rfl)
def c_gi:Con:=⟨[.ro false [.list],.ro false [.list]],[⟨false,[.val],[.bool],false⟩]⟩
def h_gi:How:=⟨aw [(0,⟨[kI],[(4,(.bool (.b false))),(5,(sI 0))],[],[],0⟩)],
 aw [],
 aw []⟩
theorem K1:Has Tryz.prog 168 c_gi xV:=fp (R:=[]) (tr:=false) (E:=[]) (Φ:=ph []) (t:=t_gi) trivial Tryz.f168 h_gi (by kernel_rfl)
def c_gs:Con:=⟨[.ro true [kI,kI,.list],.ro true [kI,kI,.list]],[⟨false,[.val],[.bool],false⟩]⟩
theorem K2:Has Tryz.prog 148 c_gs xW:=fp (R:=[]) (tr:=false) (E:=[(168,0,c_gi)]) (Φ:=Ii) (t:=t_gs) ⟨K1,trivial⟩ Tryz.f148 hE (by kernel_rfl)
def c_ft:Con:=⟨[.ro false [.list],.ro false [.list]],[⟨false,[.val],[.bool],false⟩]⟩
def h_ft:How:=⟨aw [(0,⟨[kI],[(4,(.bool (.b false))),(5,(sI 0))],[],[],0⟩)],
 aw [],
 aw []⟩
theorem K3:Has Tryz.prog 117 c_ft xX:=fp (R:=[]) (tr:=false) (E:=[(148,0,c_gs)]) (Φ:=Ij) (t:=t_ft) ⟨K2,trivial⟩ Tryz.f117 h_ft (by kernel_rfl)
def c_go:Con:=⟨[.ro true [.list,kI],.ro true [.list,kI]],[⟨false,[.val],[.bool],false⟩]⟩
theorem EK:Has Tryz.prog 68 c_go rx:=fp (R:=[]) (tr:=false) (E:=[(117,0,c_ft)]) (Φ:=Ik) (t:=t_go) ⟨K3,trivial⟩ Tryz.f68 hE (by kernel_rfl)
def Jk:Con:=⟨[.ro false [.list],.ro false [.list]],[⟨false,[.val],[.bool],false⟩]⟩
def h_en:How:=⟨aw [(0,⟨[kI],[(4,(.bool (.b false))),(5,(sI 0))],[],[],0⟩)],
 aw [],
 aw []⟩
theorem Ah:Has Tryz.prog 36 Jk kT:=fp (R:=[]) (tr:=false) (E:=[]) (Φ:=ph []) (t:=t_en) trivial Tryz.f36 h_en (by kernel_rfl)
def c_fz:Con:=⟨[.ro true kD,.ro true kD],[⟨false,[.val],[.bool],false⟩]⟩
theorem EL:Has Tryz.prog 35 c_fz nL:=fp (R:=[]) (tr:=false) (E:=[(68,0,c_go),(36,1,Jk)]) (Φ:=Il) (t:=t_fz) ⟨EK,Ah,trivial⟩ Tryz.f35 hE (by kernel_rfl)
def c_ey:Con:=⟨[.ro true kH,.ro true kH],[⟨false,[.val],[.bool],false⟩]⟩
theorem EM:Has Tryz.prog 34 c_ey ry:=fp (R:=[]) (tr:=false) (E:=[(68,0,c_go)]) (Φ:=In) (t:=t_ey) ⟨EK,trivial⟩ Tryz.f34 hE (by kernel_rfl)
def qy:Con:=⟨[.ro true kW,.ro true kW],[⟨false,[.val],[.bool],false⟩]⟩
def h_fp:How:=⟨aw [(0,⟨[kI],[(4,(.bool (.b false))),(5,(sI 0))],[],[],0⟩)],
 aw [],
 aw []⟩
theorem fF:Has Tryz.prog 17 qy cY:=fp (R:=[]) (tr:=false) (E:=[(35,0,c_fz),(36,1,Jk),(34,2,c_ey)]) (Φ:=Io) (t:=t_fp) ⟨EL,Ah,EM,trivial⟩ Tryz.f17 h_fp (by kernel_rfl)
def wc:Con:=⟨[.own false [.val] [.list] false],[⟨false,[.val],[.list],false⟩,⟨false,[.val],[.list],false⟩]⟩
def h_ax:How:=⟨aw [(1,⟨[.list],[(6,(.sl 1000))],[(1000,.arr 61 v4 (.v 0))],[2],1⟩)],
 aw [],
 aw []⟩
theorem iI:Has Tryz.prog 21 wc gZ:=fp (R:=bd) (tr:=false) (E:=[(37,0,Ja),(54,1,c_er),(39,2,wb)]) (Φ:=Ip) (t:=t_ax) ⟨z7,Eg,iH,trivial⟩ Tryz.f21 h_ax (by kernel_rfl)
def c_ez:Con:=⟨[],[⟨true,[.val,.val,.val,(.arr 82 v4)],kD,false⟩]⟩
theorem K4:Has Tryz.prog 62 c_ez xY:=fp (R:=[]) (tr:=false) (E:=[]) (Φ:=ph []) (t:=t_ez) trivial Tryz.f62 hE (by kernel_rfl)
def c_dr:Con:=⟨[.ro false [kI],.ro false [kI]],[⟨true,v5,kH,false⟩,⟨false,[.val],[.bool],false⟩]⟩
theorem K5:Has Tryz.prog 63 c_dr xZ:=fp (R:=[]) (tr:=false) (E:=[(94,0,CD),(40,1,mm)]) (Φ:=Iq) (t:=t_dr) ⟨nc,d8,trivial⟩ Tryz.f63 hE (by kernel_rfl)
def F7:Con:=⟨[.ro false [.list]],[⟨true,[.val,.val,.val,(.arr 82 v4),(.arr 52 v5),(.arr 82 v4)],kW,false⟩,⟨false,[.val],[.bool],false⟩]⟩
def h_eb:How:=⟨aw [(0,⟨[kI,.list],[(3,(.bool (.b false))),(17,(sI 0))],[(2,.cells [(.bool (.v 1003)),(.view true (.v 1004)),(sI 1005),(.sl 1),(.sl 1000),.nil]),(1000,.arr 52 v5 (.v 1))],[],1⟩)],
 aw [],
 aw []⟩
theorem uS:Has Tryz.prog 27 F7 jk:=fp (R:=[]) (tr:=false) (E:=[(62,0,c_ez),(63,1,c_dr)]) (Φ:=Ir) (t:=t_eb) ⟨K4,K5,trivial⟩ Tryz.f27 h_eb (by kernel_rfl)
def c_cp:Con:=⟨[.ro true kD,.ro false [.list]],[⟨true,[.val,.val,.val,(.arr 82 v4)],kD,false⟩,⟨false,[.val],[.bool],false⟩]⟩
theorem K6:Has Tryz.prog 98 c_cp ya:=fp (R:=[]) (tr:=false) (E:=[(49,0,yO),(70,1,Ex),(58,2,CF),(133,3,Ej),(139,4,Ji)]) (Φ:=Is) (t:=t_cp) ⟨jE,qw,ni,qt,Af,trivial⟩ Tryz.f98 hE (by kernel_rfl)
def c_dx:Con:=⟨[.ro true kD,.ro false [kI]],[⟨true,[.val,.val,.val,(.arr 82 v4)],kD,false⟩,⟨false,[.val],[.bool],false⟩]⟩
theorem K7:Has Tryz.prog 99 c_dx yb:=fp (R:=[]) (tr:=false) (E:=[(49,0,yO),(64,1,F2),(70,2,Ex),(139,3,Ji)]) (Φ:=It) (t:=t_dx) ⟨jE,uN,qw,Af,trivial⟩ Tryz.f99 hE (by kernel_rfl)
def c_cg:Con:=⟨[.ptr [.val,.val,.val,(.arr 82 v4),(.arr 52 v5),(.arr 82 v4)] kW,.ro true kJ],[]⟩
theorem EN:Has Tryz.prog 100 c_cg jU:=fp (R:=[]) (tr:=false) (E:=[]) (Φ:=ph []) (t:=t_cg) trivial Tryz.f100 hE (by kernel_rfl)
theorem K8:Has Tryz.prog 140 (nr 82) rG:=zf (ρ:=⟨fun _=>140,fun t=>match t with|22=>26|23=>82|3=>3|4=>4|_=>0,fun x=>x⟩) ⟨pF,⟨Tryz.f140.name,by kernel_rfl,by kernel_rfl⟩,by kernel_rfl,by kernel_rfl,by kernel_rfl,by kernel_rfl⟩ rfl
def c_aq:Con:=nr 82
def c_bi:Con:=⟨[.ptr [.val,.val,.val,(.arr 82 v4),(.arr 52 v5),(.arr 82 v4)] kW,.ro true kJ],[⟨true,v4,kJ,false⟩,⟨false,[.val],[.bool],false⟩]⟩
theorem K9:Has Tryz.prog 77 c_bi uy:=fp (R:=[]) (tr:=false) (E:=[(92,0,Ep),(78,1,Jj),(120,2,c_co)]) (Φ:=Iu) (t:=t_bi) ⟨qv,Ag,EF,trivial⟩ Tryz.f77 hE (by kernel_rfl)
def c_da:Con:=⟨[.ptr [.val,.val,.val,(.arr 82 v4),(.arr 52 v5),(.arr 82 v4)] kW,.ro true [kI,kI,kI,.list]],[]⟩
def h_da:How:=⟨aw [],
 aw [(3,⟨kJ,[(4,(.ptr 1000 0))],[(1000,.cells [(sI 0),(sI 1),(sI 2),(sI 3)])],[],1⟩)],
 aw []⟩
theorem La:Has Tryz.prog 101 c_da yc:=fp (R:=[]) (tr:=false) (E:=[(40,0,mm),(100,1,c_cg),(140,2,c_aq),(77,3,c_bi)]) (Φ:=Iv) (t:=t_da) ⟨d8,EN,K8,K9,trivial⟩ Tryz.f101 h_da (by kernel_rfl)
def c_ex:Con:=⟨[.ro true [.list,kI],.ro false [kI]],[⟨true,[.val,.val],[.list,kI],false⟩]⟩
theorem EO:Has Tryz.prog 141 c_ex rz:=fp (R:=[]) (tr:=false) (E:=[(90,0,Ek),(149,1,Jf)]) (Φ:=Iw) (t:=t_ex) ⟨qu,Ac,trivial⟩ Tryz.f141 hE (by kernel_rfl)
def c_dk:Con:=⟨[.ro true kD,.ro false [kI]],[⟨true,[.val,.val,.val,(.arr 82 v4)],kD,false⟩]⟩
theorem Lb:Has Tryz.prog 103 c_dk yd:=fp (R:=[]) (tr:=false) (E:=[(49,0,yO),(141,1,c_ex)]) (Φ:=Iy) (t:=t_dk) ⟨jE,EO,trivial⟩ Tryz.f103 hE (by kernel_rfl)
def c_bx:Con:=⟨[.ro true kD,.rptr [kI,kI,kI,.list]],[⟨true,[.val,.val,.val,(.arr 82 v4)],kD,false⟩]⟩
theorem Lc:Has Tryz.prog 102 c_bx ye:=fp (R:=[]) (tr:=false) (E:=[(103,0,c_dk)]) (Φ:=Iz) (t:=t_bx) ⟨Lb,trivial⟩ Tryz.f102 hE (by kernel_rfl)
def c_cq:Con:=⟨[.ro true kH,.ro false [kI]],[⟨true,v5,kH,false⟩]⟩
theorem Ld:Has Tryz.prog 105 c_cq yf:=fp (R:=[]) (tr:=false) (E:=[(50,0,CE),(141,1,c_ex)]) (Φ:=IA) (t:=t_cq) ⟨ng,EO,trivial⟩ Tryz.f105 hE (by kernel_rfl)
def c_cd:Con:=⟨[.ro true kH,.rptr [kI,kI,kI,.list]],[⟨true,v5,kH,false⟩]⟩
theorem Le:Has Tryz.prog 104 c_cd yg:=fp (R:=[]) (tr:=false) (E:=[(105,0,c_cq)]) (Φ:=IB) (t:=t_cd) ⟨Ld,trivial⟩ Tryz.f104 hE (by kernel_rfl)
def c_aa:Con:=⟨[.ptr [.val,.val,.val,(.arr 82 v4),(.arr 52 v5),(.arr 82 v4)] kW,.ro false [kI],.fn 102 [[kI,kI,kI,.list]],.fn 104 [[kI,kI,kI,.list]]],[]⟩
theorem Lf:Has Tryz.prog 73 c_aa yh:=fp (R:=[]) (tr:=false) (E:=[(94,0,CD),(102,1,c_bx),(104,2,c_cd)]) (Φ:=IC) (t:=t_aa) ⟨nc,Lc,Le,trivial⟩ Tryz.f73 hE (by kernel_rfl)
def c_ds:Con:=⟨[.ptr [.val,.val,.val,(.arr 82 v4),(.arr 52 v5),(.arr 82 v4)] kW,.ro true [kI,kI,kI,.list]],[]⟩
def h_ds:How:=⟨aw [],
 aw [(17,⟨[.bool],[(65,(.bool (.v 0)))],[],[],0⟩)],
 aw []⟩
theorem EP:Has Tryz.prog 55 c_ds nM:=fp (R:=[]) (tr:=false) (E:=[(98,0,c_cp),(99,1,c_dx),(65,2,Jh),(40,3,mm),(100,4,c_cg),(101,5,c_da),(73,6,c_ab),(73,7,c_aa),(73,8,c_af)]) (Φ:=IE) (t:=t_ds) ⟨K6,K7,Ae,d8,EN,La,EA,Lf,EB,trivial⟩ Tryz.f55 h_ds (by kernel_rfl)
def wd:Con:=⟨[.ro false [.list],.ro false [.list]],[⟨true,[.val,.val,.val,.val,.val,.val],kW,false⟩,⟨false,[.val],[.bool],false⟩]⟩
def h_cy:How:=⟨aw [(0,⟨[kI,.bool,.list,kI,.list,.list,.list],[(25,(sI 0))],[(4,.cells [(.bool (.v 1)),(.view true (.v 2)),(sI 3),(.sl 1000),(.sl 1001),(.sl 1002)]),(1000,.arr 82 v4 (.v 4)),(1001,.arr 52 v5 (.v 5)),(1002,.arr 82 v4 (.v 6))],[1,2,3],3⟩)],
 aw [],
 aw []⟩
theorem iJ:Has Tryz.prog 22 wd g0:=fp (R:=[]) (tr:=false) (E:=[(27,0,F7),(55,1,c_ds)]) (Φ:=IF) (t:=t_cy) ⟨uS,EP,trivial⟩ Tryz.f22 h_cy (by kernel_rfl)
def we:Con:=⟨[.ro false [.list],.ro false [.list]],[⟨true,[.val,.val,.val,.val,.val,.val],kW,false⟩,⟨false,[.val],[.bool],false⟩]⟩
def h_dg:How:=⟨aw [(0,⟨[kI,.bool,kI,.list,.list,.list,.list],[(8,(sI 0))],[(5,.cells [(.bool (.v 1)),(.sl 1000),(sI 2),(.sl 1001),(.sl 1002),(.sl 1003)]),(1000,.arr 145 v3 (.v 3)),(1001,.arr 82 v4 (.v 4)),(1002,.arr 52 [.val,.val,.val,(.arr 145 v3),.val] (.v 5)),(1003,.arr 82 v4 (.v 6))],[1,2,3,4],4⟩)],
 aw [],
 aw []⟩
theorem iK:Has Tryz.prog 23 we hD:=fp (R:=bd) (tr:=false) (E:=[(56,0,c_dv),(57,1,Jc)]) (Φ:=IG) (t:=t_dg) ⟨D3,z9,trivial⟩ Tryz.f23 h_dg (by kernel_rfl)
def wg:Con:=⟨[.ro true kD,.ro false [.bool]],[⟨false,[.val],[.list],false⟩]⟩
theorem iL:Has Tryz.prog 24 wg dH:=fp (R:=[]) (tr:=false) (E:=[(49,0,yO),(58,1,CF)]) (Φ:=IH) (t:=t_df) ⟨jE,ni,trivial⟩ Tryz.f24 hE (by kernel_rfl)
def Jl:Con:=⟨[.ro true kH,.ro false [.bool]],[⟨true,[.val,.val],[kI,.list],false⟩]⟩
theorem Ai:Has Tryz.prog 26 Jl mO:=fp (R:=[]) (tr:=false) (E:=[(50,0,CE),(61,1,F6)]) (Φ:=II) (t:=t_ca) ⟨ng,uR,trivial⟩ Tryz.f26 hE (by kernel_rfl)
def Jm:Con:=⟨[.ro true [kI,.list]],[⟨false,[.val],[kI],false⟩]⟩
theorem Aj:Has Tryz.prog 25 Jm mP:=fp (R:=[]) (tr:=false) (E:=[(59,0,c_eq),(60,1,Je)]) (Φ:=IJ) (t:=t_de) ⟨Er,Ab,trivial⟩ Tryz.f25 hE (by kernel_rfl)
def yP:Con:=⟨[.ro true kW,.ro true [kI,kI,kI,.list]],[⟨true,[.val,.val,.val,.val,.val,.val],kW,false⟩]⟩
theorem jF:Has Tryz.prog 28 yP dI:=fp (R:=[]) (tr:=false) (E:=[(20,0,F4),(41,1,c_be),(55,2,c_ds)]) (Φ:=IK) (t:=t_fd) ⟨uP,Ey,EP,trivial⟩ Tryz.f28 hE (by kernel_rfl)
def Jn:Con:=⟨[.ro true kW,.ro false [kI]],[⟨false,[.val],[.list],false⟩]⟩
def h_ce:How:=⟨aw [(0,⟨[kI,.list],[(5,(.sl 1000)),(19,(sI 0))],[(1000,.arr 64 [.val,.val] (.v 1))],[],1⟩)],
 aw [],
 aw []⟩
theorem Ak:Has Tryz.prog 29 Jn mQ:=fp (R:=[]) (tr:=false) (E:=[(20,0,F4),(64,1,F2),(61,2,F6)]) (Φ:=IL) (t:=t_ce) ⟨uP,uN,uR,trivial⟩ Tryz.f29 h_ce (by kernel_rfl)
def Jo:Con:=⟨[.ro true kW],[⟨false,[.val],[.bool],false⟩]⟩
def h_gq:How:=⟨aw [(0,⟨[kI],[(2,(.bool (.b false))),(4,(sI 0))],[],[],0⟩),(2,⟨[kI],[(2,(.bool (.b false))),(7,(sI 0))],[],[],0⟩)],
 aw [(21,⟨[],[(2,(.bool (.b false)))],[],[],0⟩),(19,⟨[],[(2,(.bool (.b false)))],[],[],0⟩),(17,⟨[],[(2,(.bool (.b false)))],[],[],0⟩),(11,⟨[kI],[(6,(sI 0))],[],[],0⟩)],
 aw []⟩
theorem Al:Has Tryz.prog 30 Jo mR:=fp (R:=[]) (tr:=false) (E:=[(24,0,wg),(29,1,Jn)]) (Φ:=IM) (t:=t_gq) ⟨iL,Ak,trivial⟩ Tryz.f30 h_gq (by kernel_rfl)
def c_cn:Con:=⟨[.ro true kD],[⟨false,[.val],[.list],false⟩]⟩
theorem EQ:Has Tryz.prog 31 c_cn rA:=fp (R:=[]) (tr:=false) (E:=[(49,0,yO),(65,1,Jh)]) (Φ:=IN) (t:=t_cn) ⟨jE,Ae,trivial⟩ Tryz.f31 hE (by kernel_rfl)
def c_ef:Con:=⟨[.ptr [.val,.val] [.list,kI]],[⟨false,[(.arr 1000003 [.val])],[.list],false⟩]⟩
def h_ef:How:=⟨aw [],
 aw [(4,⟨[.list,.list,kI],[],[(1,.arr 3 [.val] (.v 0)),(0,.cells [(.view true (.v 1)),(sI 2)])],[],0⟩)],
 aw []⟩
theorem Lg:Has Tryz.prog 67 c_ef yi:=fp (R:=bd) (tr:=true) (E:=[(39,0,wb)]) (Φ:=IP) (t:=t_ef) ⟨iH,trivial⟩ Tryz.f67 h_ef (by kernel_rfl)
def c_bm:Con:=⟨[.own false [.val] [.list] false],[⟨true,[.val,.val,.val,.val,.val,.val],kW,false⟩,⟨true,v4,[kI,kI,kI,.list],false⟩]⟩
theorem ER:Has Tryz.prog 32 c_bm rB:=fp (R:=bd) (tr:=false) (E:=[(37,0,Ja),(38,1,c_dp),(66,2,c_ed),(39,3,wb),(67,4,c_ef)]) (Φ:=IQ) (t:=t_bm) ⟨z7,Eh,Ef,iH,Lg,trivial⟩ Tryz.f32 hE (by kernel_rfl)
def c_eg:Con:=⟨[.ro true kW,.ro true [kI,kI,kI,.list]],[⟨true,[.val,.val,.val,.val,.val,.val],kW,false⟩]⟩
theorem ES:Has Tryz.prog 33 c_eg nN:=fp (R:=bd) (tr:=false) (E:=[(19,0,EH),(44,1,c_fb),(57,2,Jc)]) (Φ:=IR) (t:=t_eg) ⟨qx,EJ,z9,trivial⟩ Tryz.f33 hE (by kernel_rfl)
end Dx
