import Derived.Test.YtkpnlbinfagpcaaGreatProg
import Derived.Test.YtkpnlbinfagpcaaGreatXe
import Derived.Test.YtkpnlbinfagpcaaGreatYb
set_option linter.all false
namespace Dx
open Go
def tab:List (Nat×TI) :=
 [(3,⟨.int .i64,1,false,[.int .i64 (.n 0)],8⟩),
   (4,⟨.bool,1,false,[.bool (.b false)],1⟩),
   (5,⟨.int .u8,1,false,[.int .u8 (.n 0)],1⟩),
   (9,⟨.str,1,false,[.str (.s ⟨#[]⟩)],16⟩),
   (22,⟨.slice 170,1,false,[.nil],24⟩),
   (24,⟨.struct [(0,1,false),(1,1,false)],2,true,[.nil,.int .i64 (.n 0)],32⟩),
   (25,⟨.slice 105,1,false,[.nil],24⟩),
   (27,⟨.struct [(0,1,false),(1,2,true),(3,1,false)],4,true,[.bool (.b false),.nil,.int .i64 (.n 0),.nil],64⟩),
   (28,⟨.slice 89,1,false,[.nil],24⟩),
   (30,⟨.struct [(0,4,true),(4,1,false),(5,1,false)],6,true,[.bool (.b false),.nil,.int .i64 (.n 0),.nil,.nil,.nil],112⟩),
   (32,⟨.slice 162,1,false,[.nil],24⟩),
   (34,⟨.struct [(0,1,false),(1,1,false)],2,true,[.nil,.int .i64 (.n 0)],32⟩),
   (35,⟨.slice 96,1,false,[.nil],24⟩),
   (37,⟨.struct [(0,1,false),(1,2,true),(3,1,false)],4,true,[.bool (.b false),.nil,.int .i64 (.n 0),.nil],64⟩),
   (38,⟨.slice 93,1,false,[.nil],24⟩),
   (40,⟨.struct [(0,4,true),(4,1,false),(5,1,false)],6,true,[.bool (.b false),.nil,.int .i64 (.n 0),.nil,.nil,.nil],112⟩),
   (46,⟨.slice 3,1,false,[.nil],24⟩),
   (47,⟨.slice 60,1,false,[.nil],24⟩),
   (52,⟨.slice 63,1,false,[.nil],24⟩),
   (60,⟨.struct [(0,1,false),(1,1,false),(2,1,false),(3,1,false)],4,true,[.int .i64 (.n 0),.int .i64 (.n 0),.int .i64 (.n 0),.nil],48⟩),
   (63,⟨.struct [(0,1,false),(1,1,false),(2,1,false),(3,1,false)],4,true,[.int .i64 (.n 0),.int .i64 (.n 0),.int .i64 (.n 0),.nil],48⟩),
   (89,⟨.struct [(0,1,false),(1,1,false),(2,1,false),(3,2,true)],5,true,[.int .i64 (.n 0),.bool (.b false),.int .i64 (.n 0),.nil,.int .i64 (.n 0)],56⟩),
   (93,⟨.struct [(0,1,false),(1,1,false),(2,1,false),(3,2,true)],5,true,[.int .i64 (.n 0),.bool (.b false),.int .i64 (.n 0),.nil,.int .i64 (.n 0)],56⟩),
   (96,⟨.struct [(0,1,false),(1,1,false),(2,1,false),(3,1,false)],4,true,[.int .i64 (.n 0),.int .i64 (.n 0),.int .i64 (.n 0),.int .i64 (.n 0)],32⟩),
   (105,⟨.struct [(0,1,false),(1,1,false),(2,1,false),(3,1,false)],4,true,[.int .i64 (.n 0),.int .i64 (.n 0),.int .i64 (.n 0),.int .i64 (.n 0)],32⟩),
   (130,⟨.slice 143,1,false,[.nil],24⟩),
   (135,⟨.slice 181,1,false,[.nil],24⟩),
   (137,⟨.struct [(0,1,false),(1,1,false)],2,true,[.int .i64 (.n 0),.nil],32⟩),
   (143,⟨.struct [(0,1,false),(1,1,false)],2,true,[.nil,.int .i64 (.n 0)],32⟩),
   (152,⟨.slice 35,1,false,[.nil],24⟩),
   (154,⟨.arr 2 3,2,true,[.int .i64 (.n 0),.int .i64 (.n 0)],16⟩),
   (155,⟨.map 3 154,1,false,[.any],8⟩),
   (162,⟨.struct [(0,1,false),(1,1,false),(2,1,false)],3,true,[.int .i64 (.n 0),.int .i64 (.n 0),.nil],40⟩),
   (170,⟨.struct [(0,1,false),(1,1,false),(2,1,false)],3,true,[.int .i64 (.n 0),.int .i64 (.n 0),.nil],40⟩),
   (181,⟨.struct [(0,1,false),(1,1,false)],2,true,[.int .i64 (.n 0),.int .i64 (.n 0)],16⟩)]
def tab':Tab:=yA tab
theorem Ku:bM Proofs.Tryz.prog (yA tab):=GB (by kernel_rfl)
end Dx
namespace Dx
open Go Go.Proofs
def eqs:List (Nat×Nat):=[(96,4),(181,2)]
theorem Kv:Ck Tryz.prog (AS eqs):=MP (by kernel_rfl)
theorem nT:Tryz.prog.follows .mixedOrders=true:=by kernel_rfl
def bc:List (Nat×List Sh):=[(93,[.val,.val,.val,(.arr 162 [.val,.val,.val]),.val])]
def al:List (Nat×List Sh):=[(162,[.val,.val,(.arr 3 [.val])]),(93,[.val,.val,.val,(.arr 162 [.val,.val,(.arr 3 [.val])]),.val]),(63,[.val,.val,.val,(.arr 3 [.val])])]
def tq(fn:Func):Code:=match fn.body with
 | some b=>b
 | none=>.skip
def bs:List (Nat×Bool×Nat×Nat):=[]
set_option maxRecDepth 100000 in
theorem bs_ok:∀ p∈bs,yo Tryz.prog p.1 p.2:=by
 intro p hp
 simp only[bs,List.mem_cons,List.not_mem_nil,or_false]at hp
def gE(R:List (Nat×List Sh))(tr:Bool)(E:List (Nat×Nat×Con)):Env:=⟨yA tab,AS eqs,getR R,E9 E,tr,GC bs⟩
abbrev hE:How:=⟨ar [],ar [],ar []⟩
abbrev sI(n:Nat):SV:=.int .i64 (.v n)
theorem fo{G:Env}{Φ:Phi}(hG:EnvOk Tryz.prog G Φ){f:FuncId}(fn:Func){c:Con}(H:How){t:Tree}(h:(Tryz.prog.funcs[f]?,fn.body,fn.name== "runtime.NumGoroutine",fnT G H c fn (tq fn))=(some fn,some (tq fn),false,t)):Has Tryz.prog f c (fun cs=>ah (den Φ t cs)):=by
 simp only[Prod.mk.injEq]at h
 exact fn_ok hG h.1 h.2.1 h.2.2.1 h.2.2.2
theorem eo{E:Nat->List (Nat×Con)}{R:Rows}{tr:Bool}{Φ:Phi}(h:∀ f c,c∈E f->Has Tryz.prog f c.2 (Φ c.1)):EnvOk Tryz.prog ⟨yA tab,AS eqs,R,E,tr,GC bs⟩ Φ:=⟨Ku,Kv,h,nT,AT bs_ok⟩
theorem fp{E:List (Nat×Nat×Con)}{R:List (Nat×List Sh)}{tr:Bool}{Φ:Phi}(m:zN Tryz.prog Φ E){f:FuncId}(fn:Func){c:Con}(H:How){t:Tree}(h:(Tryz.prog.funcs[f]?,fn.body,fn.name== "runtime.NumGoroutine",fnT (gE R tr E) H c fn (tq fn))=(some fn,some (tq fn),false,t)):Has Tryz.prog f c (fun cs=>ah (den Φ t cs)):=fo (eo (sa (nH m))) fn H h
abbrev v5:List Sh:=[.val,.val,.val,.val,.val]
abbrev v4:List Sh:=[.val,.val,.val,.val]
abbrev v3:List Sh:=[.val,.val,.val]
abbrev kW:List CK:=[.bool,.list,kI,.list,.list,.list]
abbrev kD:List CK:=[.bool,.list,kI,.list]
abbrev kH:List CK:=[kI,.bool,kI,.list,kI]
abbrev kJ:List CK:=[kI,kI,kI,kI]
def c_ge:Con:=⟨[.ro false [.list],.ro false [kI]],[⟨false,[.val],[kI],false⟩]⟩
theorem DO:Has Tryz.prog 55 c_ge pg:=fp (R:=al) (tr:=false) (E:=[]) (Φ:=ph []) (t:=t_ge) trivial Tryz.f55 hE (by kernel_rfl)
def c_hf:Con:=⟨[.ro true [kI,kI,.list],.ro false [kI]],[⟨false,[.val],[kI],false⟩]⟩
theorem Kw:Has Tryz.prog 146 c_hf vu:=fp (R:=al) (tr:=false) (E:=[(55,0,c_ge)]) (Φ:=GD) (t:=t_hf) ⟨DO,trivial⟩ Tryz.f146 hE (by kernel_rfl)
def c_gm:Con:=⟨[.ro false [.list],.ro false [kI]],[⟨false,[.val],[kI],false⟩]⟩
def h_gm:How:=⟨ar [(0,⟨[kI,kI],[(1,(sI 0)),(4,(.int .i64 (.n 0))),(5,(sI 1))],[],[],0⟩)],
 ar [],
 ar []⟩
theorem Kx:Has Tryz.prog 108 c_gm vv:=fp (R:=al) (tr:=false) (E:=[(146,0,c_hf)]) (Φ:=GE) (t:=t_gm) ⟨Kw,trivial⟩ Tryz.f108 h_gm (by kernel_rfl)
def c_ha:Con:=⟨[.ro true [.list,kI],.ro false [kI]],[⟨false,[.val],[kI],false⟩]⟩
theorem DP:Has Tryz.prog 56 c_ha pi:=fp (R:=al) (tr:=false) (E:=[(108,0,c_gm)]) (Φ:=GF) (t:=t_ha) ⟨Kx,trivial⟩ Tryz.f56 hE (by kernel_rfl)
def c_fm:Con:=⟨[.ro false [.list],.ro false [kI]],[⟨false,[.val],[kI],false⟩]⟩
theorem DQ:Has Tryz.prog 30 c_fm pj:=fp (R:=al) (tr:=false) (E:=[]) (Φ:=ph []) (t:=t_fm) trivial Tryz.f30 hE (by kernel_rfl)
def c_gt:Con:=⟨[.ro true kD,.ro false [kI]],[⟨false,[.val],[kI],false⟩]⟩
theorem Ky:Has Tryz.prog 28 c_gt vx:=fp (R:=al) (tr:=false) (E:=[(56,0,c_ha),(30,1,c_fm)]) (Φ:=GG) (t:=t_gt) ⟨DP,DQ,trivial⟩ Tryz.f28 hE (by kernel_rfl)
def c_ee:Con:=⟨[.ro true kH,.ro false [kI]],[⟨false,[.val],[kI],false⟩]⟩
theorem Kz:Has Tryz.prog 57 c_ee vy:=fp (R:=al) (tr:=false) (E:=[(56,0,c_ha)]) (Φ:=GI) (t:=t_ee) ⟨DP,trivial⟩ Tryz.f57 hE (by kernel_rfl)
def c_dt:Con:=⟨[.ro false [.list],.ro false [kI]],[⟨false,[.val],[kI],false⟩]⟩
def h_dt:How:=⟨ar [(0,⟨[kI,kI],[(1,(sI 0)),(4,(.int .i64 (.n 0))),(5,(sI 1))],[],[],0⟩)],
 ar [],
 ar []⟩
theorem KA:Has Tryz.prog 29 c_dt vz:=fp (R:=al) (tr:=false) (E:=[(57,0,c_ee)]) (Φ:=GJ) (t:=t_dt) ⟨Kz,trivial⟩ Tryz.f29 h_dt (by kernel_rfl)
def c_er:Con:=⟨[.ro true kW,.ro false [kI]],[⟨false,[.val],[kI],false⟩]⟩
theorem DR:Has Tryz.prog 6 c_er pl:=fp (R:=al) (tr:=false) (E:=[(28,0,c_gt),(29,1,c_dt),(30,2,c_fm)]) (Φ:=GK) (t:=t_er) ⟨Ky,KA,DQ,trivial⟩ Tryz.f6 hE (by kernel_rfl)
def c_ft:Con:=⟨[.ro true [kI,kI,kI,.list],.ro false [kI]],[⟨false,[.val],[kI],false⟩]⟩
theorem DS:Has Tryz.prog 22 c_ft pm:=fp (R:=al) (tr:=false) (E:=[(55,0,c_ge)]) (Φ:=GL) (t:=t_ft) ⟨DO,trivial⟩ Tryz.f22 hE (by kernel_rfl)
def JH:Con:=⟨[.ro false [.list]],[⟨false,[(.arr 3 [.val])],[.list],false⟩]⟩
def h_gg:How:=⟨ar [(0,⟨[kI,.list],[(4,(sI 0))],[(0,.arr 3 [.val] (.v 1))],[],0⟩)],
 ar [],
 ar []⟩
theorem zt:Has Tryz.prog 15 JH lq:=fp (R:=al) (tr:=false) (E:=[]) (Φ:=ph []) (t:=t_gg) trivial Tryz.f15 h_gg (by kernel_rfl)
def c_hj:Con:=⟨[.ro true [kI,kI,.list]],[⟨true,[.val,.val,(.arr 3 [.val])],[kI,kI,.list],false⟩]⟩
theorem KB:Has Tryz.prog 157 c_hj vA:=fp (R:=al) (tr:=false) (E:=[(15,0,JH)]) (Φ:=GM) (t:=t_hj) ⟨zt,trivial⟩ Tryz.f157 hE (by kernel_rfl)
def c_gk:Con:=⟨[.ro false [.list]],[⟨false,[(.arr 162 [.val,.val,(.arr 3 [.val])])],[.list],false⟩]⟩
def h_gk:How:=⟨ar [(0,⟨[kI,.list],[(4,(sI 0))],[(0,.arr 162 [.val,.val,(.arr 3 [.val])] (.v 1))],[],0⟩)],
 ar [],
 ar []⟩
theorem KC:Has Tryz.prog 117 c_gk vC:=fp (R:=al) (tr:=false) (E:=[(157,0,c_hj)]) (Φ:=GN) (t:=t_gk) ⟨KB,trivial⟩ Tryz.f117 h_gk (by kernel_rfl)
def c_hb:Con:=⟨[.ro true [.list,kI]],[⟨true,[(.arr 162 [.val,.val,(.arr 3 [.val])]),.val],[.list,kI],false⟩]⟩
theorem DT:Has Tryz.prog 66 c_hb pn:=fp (R:=al) (tr:=false) (E:=[(117,0,c_gk)]) (Φ:=GO) (t:=t_hb) ⟨KC,trivial⟩ Tryz.f66 hE (by kernel_rfl)
def c_gv:Con:=⟨[.ro true kJ],[⟨true,v4,kJ,false⟩]⟩
theorem KD:Has Tryz.prog 68 c_gv vD:=fp (R:=al) (tr:=false) (E:=[]) (Φ:=ph []) (t:=t_gv) trivial Tryz.f68 hE (by kernel_rfl)
def c_ep:Con:=⟨[.ro false [.list]],[⟨false,[(.arr 96 v4)],[.list],false⟩]⟩
def h_ep:How:=⟨ar [(0,⟨[kI,.list],[(4,(sI 0))],[(0,.arr 96 v4 (.v 1))],[],0⟩)],
 ar [],
 ar []⟩
theorem DU:Has Tryz.prog 37 c_ep po:=fp (R:=al) (tr:=false) (E:=[(68,0,c_gv)]) (Φ:=GP) (t:=t_ep) ⟨KD,trivial⟩ Tryz.f37 h_ep (by kernel_rfl)
def c_fx:Con:=⟨[.ro true kD],[⟨true,[.val,(.arr 162 [.val,.val,(.arr 3 [.val])]),.val,(.arr 96 v4)],kD,false⟩]⟩
theorem KE:Has Tryz.prog 35 c_fx vE:=fp (R:=al) (tr:=false) (E:=[(66,0,c_hb),(37,1,c_ep)]) (Φ:=GQ) (t:=t_fx) ⟨DT,DU,trivial⟩ Tryz.f35 hE (by kernel_rfl)
def c_et:Con:=⟨[.ro true kH],[⟨true,[.val,.val,.val,(.arr 162 [.val,.val,(.arr 3 [.val])]),.val],kH,false⟩]⟩
theorem KF:Has Tryz.prog 67 c_et vF:=fp (R:=al) (tr:=false) (E:=[(66,0,c_hb)]) (Φ:=GR) (t:=t_et) ⟨DT,trivial⟩ Tryz.f67 hE (by kernel_rfl)
def c_dk:Con:=⟨[.ro false [.list]],[⟨false,[(.arr 93 [.val,.val,.val,(.arr 162 [.val,.val,(.arr 3 [.val])]),.val])],[.list],false⟩]⟩
def h_dk:How:=⟨ar [(0,⟨[kI,.list],[(4,(sI 0))],[(0,.arr 93 [.val,.val,.val,(.arr 162 [.val,.val,(.arr 3 [.val])]),.val] (.v 1))],[],0⟩)],
 ar [],
 ar []⟩
theorem KG:Has Tryz.prog 36 c_dk vG:=fp (R:=al) (tr:=false) (E:=[(67,0,c_et)]) (Φ:=GS) (t:=t_dk) ⟨KF,trivial⟩ Tryz.f36 h_dk (by kernel_rfl)
def c_ff:Con:=⟨[.ro true kW],[⟨true,[.val,(.arr 162 [.val,.val,(.arr 3 [.val])]),.val,(.arr 96 v4),(.arr 93 [.val,.val,.val,(.arr 162 [.val,.val,(.arr 3 [.val])]),.val]),(.arr 96 v4)],kW,false⟩]⟩
theorem DV:Has Tryz.prog 8 c_ff pp:=fp (R:=al) (tr:=false) (E:=[(35,0,c_fx),(36,1,c_dk),(37,2,c_ep)]) (Φ:=GT) (t:=t_ff) ⟨KE,KG,DU,trivial⟩ Tryz.f8 hE (by kernel_rfl)
def c_eu:Con:=⟨[.ro true [kI,kI,kI,.list]],[⟨true,[.val,.val,.val,(.arr 3 [.val])],[kI,kI,kI,.list],false⟩]⟩
theorem DW:Has Tryz.prog 24 c_eu pq:=fp (R:=al) (tr:=false) (E:=[(15,0,JH)]) (Φ:=GU) (t:=t_eu) ⟨zt,trivial⟩ Tryz.f24 hE (by kernel_rfl)
def oP:Con:=⟨[.ro false [kI],.ro false [kI],.ro false [kI]],[⟨false,[.val],[.bool],false⟩]⟩
theorem el:Has Tryz.prog 32 oP bZ:=fp (R:=bc) (tr:=false) (E:=[]) (Φ:=ph []) (t:=t_hm) trivial Tryz.f32 hE (by kernel_rfl)
def c_gn:Con:=⟨[.ro false [.list]],[⟨false,[.val],[.bool],false⟩]⟩
def h_gn:How:=⟨ar [(0,⟨[kI,kI],[(2,(.bool (.b false))),(3,(sI 0)),(4,(sI 1))],[],[],0⟩)],
 ar [],
 ar []⟩
theorem KH:Has Tryz.prog 173 c_gn vH:=fp (R:=bc) (tr:=false) (E:=[(32,0,oP)]) (Φ:=GV) (t:=t_gn) ⟨el,trivial⟩ Tryz.f173 h_gn (by kernel_rfl)
def Gc:Con:=⟨[.ro true [kI,kI,.list]],[⟨false,[.val],[.bool],false⟩]⟩
theorem ts:Has Tryz.prog 136 Gc iJ:=fp (R:=bc) (tr:=false) (E:=[(32,0,oP),(173,1,c_gn)]) (Φ:=GW) (t:=t_hl) ⟨el,KH,trivial⟩ Tryz.f136 hE (by kernel_rfl)
def c_go:Con:=⟨[.ro false [.list],.ro true [kI,kI,.list]],[⟨false,[.val],[.bool],false⟩]⟩
theorem DX:Has Tryz.prog 147 c_go pr:=fp (R:=bc) (tr:=false) (E:=[]) (Φ:=ph []) (t:=t_go) trivial Tryz.f147 hE (by kernel_rfl)
def js:Con:=⟨[.own false [(.arr 143 [.val,.val])] [.list] false,.ro true [kI,kI,.list]],[⟨false,[(.arr 143 [.val,.val])],[.list],false⟩]⟩
theorem l8:Has Tryz.prog 148 js cU:=fp (R:=bc) (tr:=false) (E:=[]) (Φ:=ph []) (t:=jl) trivial Tryz.f148 hE (by kernel_rfl)
def c_hk:Con:=⟨[.ro false [.list]],[⟨false,[.val],[.list],false⟩,⟨false,[.val],[.bool],false⟩]⟩
def h_hk:How:=⟨ar [(0,⟨[kI,.list],[(2,.nil),(3,(.bool (.b false))),(4,(.sl 1000)),(5,(sI 0))],[(1000,.arr 143 [.val,.val] (.v 1))],[0],1⟩)],
 ar [],
 ar []⟩
theorem DY:Has Tryz.prog 109 c_hk lr:=fp (R:=bc) (tr:=false) (E:=[(136,0,Gc),(147,1,c_go),(148,2,js)]) (Φ:=GX) (t:=t_hk) ⟨ts,DX,l8,trivial⟩ Tryz.f109 h_hk (by kernel_rfl)
def c_hi:Con:=⟨[.ro true [.list,kI]],[⟨false,[.val],[.bool],false⟩]⟩
def h_hi:How:=⟨ar [(0,⟨[kI],[(2,(.bool (.b false))),(3,(sI 0))],[],[],0⟩)],
 ar [],
 ar []⟩
theorem DZ:Has Tryz.prog 110 c_hi pu:=fp (R:=bc) (tr:=false) (E:=[(136,0,Gc),(32,1,oP)]) (Φ:=GY) (t:=t_hi) ⟨ts,el,trivial⟩ Tryz.f110 h_hi (by kernel_rfl)
def Ge:Con:=⟨[.ro true kJ],[⟨false,[.val],[.bool],false⟩]⟩
theorem tu:Has Tryz.prog 60 Ge iK:=fp (R:=bc) (tr:=false) (E:=[(32,0,oP)]) (Φ:=GZ) (t:=t_gb) ⟨el,trivial⟩ Tryz.f60 hE (by kernel_rfl)
def D0:Con:=⟨[.ro false [.list],.ro true kJ],[⟨false,[.val],[.bool],false⟩]⟩
def h_fp:How:=⟨ar [(0,⟨[kI],[(4,(.bool (.b false))),(5,(sI 0))],[],[],0⟩)],
 ar [],
 ar []⟩
theorem oQ:Has Tryz.prog 111 D0 gw:=fp (R:=bc) (tr:=false) (E:=[]) (Φ:=ph []) (t:=t_fp) trivial Tryz.f111 h_fp (by kernel_rfl)
def c_gr:Con:=⟨[.ro true kD],[⟨false,[.val],[.bool],false⟩]⟩
def h_gr:How:=⟨ar [(0,⟨[kI],[(2,(.bool (.b false))),(5,(sI 0))],[],[],0⟩)],
 ar [],
 ar []⟩
theorem KJ:Has Tryz.prog 58 c_gr vJ:=fp (R:=bc) (tr:=false) (E:=[(109,0,c_hk),(110,1,c_hi),(60,2,Ge),(111,3,D0)]) (Φ:=G0) (t:=t_gr) ⟨DY,DZ,tu,oQ,trivial⟩ Tryz.f58 h_gr (by kernel_rfl)
def c_dg:Con:=⟨[.ro false [kI]],[⟨true,[.val,(.arr 181 [.val,.val])],[kI,.list],false⟩,⟨false,[.val],[.bool],false⟩]⟩
theorem D1:Has Tryz.prog 135 c_dg pv:=fp (R:=bc) (tr:=false) (E:=[(32,0,oP)]) (Φ:=G1) (t:=t_dg) ⟨el,trivial⟩ Tryz.f135 hE (by kernel_rfl)
def c_gw:Con:=⟨[.ro true [kI,.list]],[⟨false,[.val],[kI],false⟩]⟩
def h_gw:How:=⟨ar [(0,⟨[kI,kI],[(3,(sI 0)),(4,(sI 1))],[],[],0⟩)],
 ar [],
 ar []⟩
theorem KK:Has Tryz.prog 176 c_gw vK:=fp (R:=bc) (tr:=false) (E:=[]) (Φ:=ph []) (t:=t_gw) trivial Tryz.f176 h_gw (by kernel_rfl)
def c_gy:Con:=⟨[.ro true [kI,.list],.ro true [kI,kI,.list]],[⟨false,[.val],[.bool],false⟩]⟩
theorem D2:Has Tryz.prog 149 c_gy pw:=fp (R:=bc) (tr:=false) (E:=[(176,0,c_gw)]) (Φ:=G2) (t:=t_gy) ⟨KK,trivial⟩ Tryz.f149 hE (by kernel_rfl)
def kX:Con:=⟨[.own true [.val,(.arr 181 [.val,.val])] [kI,.list] false,.ro true [kI,kI,.list]],[⟨true,[.val,(.arr 181 [.val,.val])],[kI,.list],false⟩]⟩
theorem oS:Has Tryz.prog 150 kX dd:=fp (R:=bc) (tr:=false) (E:=[]) (Φ:=ph []) (t:=kO) trivial Tryz.f150 hE (by kernel_rfl)
def c_hn:Con:=⟨[.ro false [kI],.ro false [.list]],[⟨true,[.val,.val],[kI,.list],false⟩,⟨false,[.val],[.bool],false⟩]⟩
def h_hn:How:=⟨ar [(0,⟨[kI,kI,.list],[(5,(.bool (.b false))),(8,(sI 0))],[(2,.cells [(sI 1),(.sl 1000)]),(1000,.arr 181 [.val,.val] (.v 2))],[1],1⟩)],
 ar [],
 ar []⟩
theorem D3:Has Tryz.prog 112 c_hn lu:=fp (R:=bc) (tr:=false) (E:=[(135,0,c_dg),(136,1,Gc),(149,2,c_gy),(150,3,kX)]) (Φ:=G3) (t:=t_hn) ⟨D1,ts,D2,oS,trivial⟩ Tryz.f112 h_hn (by kernel_rfl)
def c_fe:Con:=⟨[.ro true kH],[⟨false,[.val],[.bool],false⟩]⟩
theorem KL:Has Tryz.prog 59 c_fe vM:=fp (R:=bc) (tr:=false) (E:=[(112,0,c_hn),(32,1,oP),(110,2,c_hi)]) (Φ:=G4) (t:=t_fe) ⟨D3,el,DZ,trivial⟩ Tryz.f59 hE (by kernel_rfl)
def c_ef:Con:=⟨[.ro true kW],[⟨false,[.val],[.bool],false⟩]⟩
def h_ef:How:=⟨ar [(2,⟨[kI],[(2,(.bool (.b false))),(4,(sI 0))],[],[],0⟩),(0,⟨[kI],[(2,(.bool (.b false))),(3,(sI 0))],[],[],0⟩)],
 ar [],
 ar []⟩
theorem D4:Has Tryz.prog 31 c_ef px:=fp (R:=bc) (tr:=false) (E:=[(58,0,c_gr),(59,1,c_fe),(60,2,Ge)]) (Φ:=G5) (t:=t_ef) ⟨KJ,KL,tu,trivial⟩ Tryz.f31 h_ef (by kernel_rfl)
def c_cj:Con:=⟨[.ro true [kI,kI,.list]],[⟨true,v3,[kI,kI,.list],false⟩]⟩
theorem KM:Has Tryz.prog 151 c_cj vN:=fp (R:=bc) (tr:=false) (E:=[]) (Φ:=ph []) (t:=t_cj) trivial Tryz.f151 hE (by kernel_rfl)
def c_gp:Con:=⟨[.ro true [.list,kI]],[⟨true,[(.arr 162 v3),.val],[.list,kI],false⟩]⟩
def h_gp:How:=⟨ar [(0,⟨[kI,.list],[(4,(sI 0))],[(3,.cells [(.sl 1000),(sI 1001)]),(1000,.arr 162 v3 (.v 1))],[2],1⟩)],
 ar [],
 ar []⟩
theorem D5:Has Tryz.prog 113 c_gp py:=fp (R:=bc) (tr:=false) (E:=[(151,0,c_cj)]) (Φ:=G6) (t:=t_gp) ⟨KM,trivial⟩ Tryz.f113 h_gp (by kernel_rfl)
def c_ew:Con:=⟨[.ro true kD],[⟨true,[.val,(.arr 162 v3),.val,(.arr 96 v4)],kD,false⟩]⟩
theorem KN:Has Tryz.prog 61 c_ew vO:=fp (R:=bc) (tr:=false) (E:=[(113,0,c_gp)]) (Φ:=G7) (t:=t_ew) ⟨D5,trivial⟩ Tryz.f61 hE (by kernel_rfl)
def c_eq:Con:=⟨[.ro true kH],[⟨true,[.val,.val,.val,(.arr 162 v3),.val],kH,false⟩]⟩
theorem KO:Has Tryz.prog 62 c_eq vP:=fp (R:=bc) (tr:=false) (E:=[(113,0,c_gp)]) (Φ:=G8) (t:=t_eq) ⟨D5,trivial⟩ Tryz.f62 hE (by kernel_rfl)
def c_eg:Con:=⟨[.ro true kW],[⟨true,[.val,(.arr 162 v3),.val,(.arr 96 v4),(.arr 93 [.val,.val,.val,(.arr 162 v3),.val]),(.arr 96 v4)],kW,false⟩]⟩
def h_eg:How:=⟨ar [(0,⟨[kI,.list],[(4,(sI 0))],[(2,.cells [(.bool (.v 1006)),(.sl 3),(sI 1007),(.sl 4),(.sl 1000),(.sl 5)]),(1000,.arr 93 [.val,.val,.val,(.arr 162 v3),.val] (.v 1))],[],1⟩)],
 ar [(2,⟨[.bool,kI,.list,.list,.list],[(3,(.ptr 1000 0))],[(1000,.cells [(.bool (.v 0)),(.sl 1001),(sI 1),(.sl 1002),.nil,(.sl 1003)]),(1001,.arr 162 v3 (.v 2)),(1002,.arr 96 v4 (.v 3)),(1003,.arr 96 v4 (.v 4))],[],4⟩)],
 ar []⟩
theorem D6:Has Tryz.prog 33 c_eg pz:=fp (R:=bc) (tr:=false) (E:=[(61,0,c_ew),(62,1,c_eq)]) (Φ:=G9) (t:=t_eg) ⟨KN,KO,trivial⟩ Tryz.f33 h_eg (by kernel_rfl)
def D7:Con:=⟨[.ro true kD,.ro false [.bool]],[⟨false,[.val],[.list],false⟩]⟩
theorem oT:Has Tryz.prog 114 D7 eS:=fp (R:=bc) (tr:=false) (E:=[(109,0,c_hk)]) (Φ:=Ha) (t:=t_dj) ⟨DY,trivial⟩ Tryz.f114 hE (by kernel_rfl)
def c_hg:Con:=⟨[.own true [(.arr 162 v3),.val] [.list,kI] false,.own true v3 [kI,kI,.list] false],[⟨true,[(.arr 162 v3),.val],[.list,kI],false⟩,⟨false,[.val],[.bool],false⟩]⟩
theorem D8:Has Tryz.prog 155 c_hg pA:=fp (R:=bc) (tr:=false) (E:=[]) (Φ:=ph []) (t:=t_hg) trivial Tryz.f155 hE (by kernel_rfl)
def c_dl:Con:=⟨[.own true [.val,(.arr 162 v3),.val,(.arr 96 v4)] kD false,.own true v3 [kI,kI,.list] false],[⟨true,[.val,(.arr 162 v3),.val,(.arr 96 v4)],kD,false⟩,⟨false,[.val],[.bool],false⟩]⟩
theorem D9:Has Tryz.prog 137 c_dl dp:=fp (R:=bc) (tr:=false) (E:=[(114,0,D7),(147,1,c_go),(155,2,c_hg)]) (Φ:=Hb) (t:=t_dl) ⟨oT,DX,D8,trivial⟩ Tryz.f137 hE (by kernel_rfl)
def c_dh:Con:=⟨[.ro true kD],[⟨false,[.val],[.list],false⟩]⟩
def h_dh:How:=⟨ar [(0,⟨[kI,.list],[(3,(.sl 1000)),(5,(sI 0))],[(1000,.arr 96 v4 (.v 1))],[1],1⟩),(2,⟨[kI,.list],[(3,(.sl 1000)),(6,(sI 0))],[(1000,.arr 96 v4 (.v 1))],[2],1⟩)],
 ar [],
 ar []⟩
theorem Ea:Has Tryz.prog 63 c_dh mb:=fp (R:=bc) (tr:=false) (E:=[(114,0,D7),(111,1,D0)]) (Φ:=Hc) (t:=t_dh) ⟨oT,oQ,trivial⟩ Tryz.f63 h_dh (by kernel_rfl)
def c_fz:Con:=⟨[.own true [.val,(.arr 162 v3),.val,(.arr 96 v4),(.arr 93 [.val,.val,.val,(.arr 162 v3),.val]),(.arr 96 v4)] kW false,.ro true kJ],[⟨true,[.val,(.arr 162 v3),.val,(.arr 96 v4),(.arr 93 [.val,.val,.val,(.arr 162 v3),.val]),(.arr 96 v4)],kW,false⟩]⟩
theorem Eb:Has Tryz.prog 138 c_fz me:=fp (R:=bc) (tr:=false) (E:=[]) (Φ:=ph []) (t:=t_fz) trivial Tryz.f138 hE (by kernel_rfl)
def c_fk:Con:=⟨[.own true [.val,(.arr 162 v3),.val,(.arr 96 v4),(.arr 93 [.val,.val,.val,(.arr 162 v3),.val]),(.arr 96 v4)] kW false,.ro true [kI,kI,kI,.list]],[⟨true,[.val,(.arr 162 v3),.val,(.arr 96 v4),(.arr 93 [.val,.val,.val,(.arr 162 v3),.val]),(.arr 96 v4)],kW,false⟩]⟩
theorem KP:Has Tryz.prog 95 c_fk vQ:=fp (R:=bc) (tr:=false) (E:=[(114,0,D7),(136,1,Gc),(137,2,c_dl),(32,3,oP),(63,4,c_dh),(138,5,c_fz)]) (Φ:=Hd) (t:=t_fk) ⟨oT,ts,D9,el,Ea,Eb,trivial⟩ Tryz.f95 hE (by kernel_rfl)
def c_ez:Con:=⟨[.own true [.val,(.arr 162 v3),.val,(.arr 96 v4),(.arr 93 [.val,.val,.val,(.arr 162 v3),.val]),(.arr 96 v4)] kW false,.ro false [kI]],[⟨true,[.val,(.arr 162 v3),.val,(.arr 96 v4),(.arr 93 [.val,.val,.val,(.arr 162 v3),.val]),(.arr 96 v4)],kW,false⟩]⟩
theorem KQ:Has Tryz.prog 139 c_ez sw:=fp (R:=bc) (tr:=false) (E:=[]) (Φ:=ph []) (t:=t_ez) trivial Tryz.f139 hE (by kernel_rfl)
def c_gq:Con:=⟨[.ro true kD,.ro false [kI],.ro false [.list],.ro false [kI]],[⟨false,[.val],[.bool],false⟩]⟩
def h_gq:How:=⟨ar [(0,⟨[kI],[(8,(.bool (.b false))),(9,(sI 0))],[],[],0⟩)],
 ar [],
 ar []⟩
theorem KR:Has Tryz.prog 177 c_gq vR:=fp (R:=bc) (tr:=false) (E:=[(111,0,D0)]) (Φ:=He) (t:=t_gq) ⟨oQ,trivial⟩ Tryz.f177 h_gq (by kernel_rfl)
def c_gi:Con:=⟨[.ro true kD,.ro false [kI],.ro false [.list],.ro false [kI]],[⟨false,[.val],[.bool],false⟩]⟩
def h_gi:How:=⟨ar [(0,⟨[kI],[(8,(.bool (.b false))),(9,(sI 0))],[],[],0⟩)],
 ar [],
 ar []⟩
theorem KS:Has Tryz.prog 178 c_gi lv:=fp (R:=bc) (tr:=false) (E:=[(111,0,D0)]) (Φ:=Hf) (t:=t_gi) ⟨oQ,trivial⟩ Tryz.f178 h_gi (by kernel_rfl)
def c_cu:Con:=⟨[.own true [.val,(.arr 162 v3),.val,(.arr 96 v4)] kD false,.ro false [kI]],[⟨true,[.val,(.arr 162 v3),.val,(.arr 96 v4)],kD,false⟩]⟩
def h_cu:How:=⟨ar [],
 ar [(9,⟨[.bool],[(47,(.bool (.v 0)))],[],[],0⟩),(7,⟨[.bool],[(36,(.bool (.v 0)))],[],[],0⟩),(5,⟨[.bool],[(8,(.bool (.v 0)))],[],[],0⟩)],
 ar []⟩
theorem KT:Has Tryz.prog 152 c_cu sB:=fp (R:=bc) (tr:=false) (E:=[(114,0,D7),(177,1,c_gq),(178,2,c_gi),(137,3,c_dl)]) (Φ:=Hg) (t:=t_cu) ⟨oT,KR,KS,D9,trivial⟩ Tryz.f152 h_cu (by kernel_rfl)
def c_fn:Con:=⟨[.own true [.val,(.arr 162 v3),.val,(.arr 96 v4)] kD false,.ro true kJ],[⟨true,[.val,(.arr 162 v3),.val,(.arr 96 v4)],kD,false⟩]⟩
theorem KU:Has Tryz.prog 115 c_fn vS:=fp (R:=bc) (tr:=false) (E:=[(60,0,Ge),(114,1,D7),(111,2,D0),(152,3,c_cu)]) (Φ:=Hh) (t:=t_fn) ⟨tu,oT,oQ,KT,trivial⟩ Tryz.f115 hE (by kernel_rfl)
def c_dw:Con:=⟨[.ro true kH,.ro false [.bool]],[⟨true,[.val,.val],[kI,.list],false⟩]⟩
theorem KV:Has Tryz.prog 153 c_dw pB:=fp (R:=bc) (tr:=false) (E:=[(112,0,c_hn)]) (Φ:=Hi) (t:=t_dw) ⟨D3,trivial⟩ Tryz.f153 hE (by kernel_rfl)
def c_gu:Con:=⟨[.ro true kJ],[⟨true,v3,[kI,kI,.list],false⟩]⟩
theorem KW:Has Tryz.prog 154 c_gu vT:=fp (R:=bc) (tr:=false) (E:=[]) (Φ:=ph []) (t:=t_gu) trivial Tryz.f154 hE (by kernel_rfl)
def c_cl:Con:=⟨[.ro true kH,.ro true kJ,.ro false [kI]],[⟨true,v4,kJ,false⟩,⟨false,[.val],[.bool],false⟩]⟩
def h_cl:How:=⟨ar [],
 ar [(6,⟨[.bool],[(28,(.bool (.v 0)))],[],[],0⟩),(4,⟨[.bool],[(15,(.bool (.v 0)))],[],[],0⟩)],
 ar []⟩
theorem KX:Has Tryz.prog 156 c_cl sC:=fp (R:=bc) (tr:=false) (E:=[]) (Φ:=ph []) (t:=t_cl) trivial Tryz.f156 h_cl (by kernel_rfl)
def c_ek:Con:=⟨[.own true [.val,.val,.val,(.arr 162 v3),.val] kH false,.ro true kJ],[⟨true,[.val,.val,.val,(.arr 162 v3),.val],kH,false⟩,⟨true,v4,kJ,false⟩,⟨false,[.val],[.bool],false⟩]⟩
theorem KY:Has Tryz.prog 116 c_ek vU:=fp (R:=bc) (tr:=false) (E:=[(60,0,Ge),(153,1,c_dw),(154,2,c_gu),(149,3,c_gy),(155,4,c_hg),(156,5,c_cl)]) (Φ:=Hj) (t:=t_ek) ⟨tu,KV,KW,D2,D8,KX,trivial⟩ Tryz.f116 hE (by kernel_rfl)
def c_em:Con:=⟨[.own true [.val,(.arr 162 v3),.val,(.arr 96 v4),(.arr 93 [.val,.val,.val,(.arr 162 v3),.val]),(.arr 96 v4)] kW false,.ro true kJ],[⟨true,[.val,(.arr 162 v3),.val,(.arr 96 v4),(.arr 93 [.val,.val,.val,(.arr 162 v3),.val]),(.arr 96 v4)],kW,false⟩,⟨true,v4,kJ,false⟩,⟨false,[.val],[.bool],false⟩]⟩
theorem Ec:Has Tryz.prog 64 c_em mf:=fp (R:=bc) (tr:=false) (E:=[(115,0,c_fn),(116,1,c_ek)]) (Φ:=Hk) (t:=t_em) ⟨KU,KY,trivial⟩ Tryz.f64 hE (by kernel_rfl)
def c_ga:Con:=⟨[.own true [.val,(.arr 162 v3),.val,(.arr 96 v4),(.arr 93 [.val,.val,.val,(.arr 162 v3),.val]),(.arr 96 v4)] kW false,.ro true [kI,kI,kI,.list]],[⟨true,[.val,(.arr 162 v3),.val,(.arr 96 v4),(.arr 93 [.val,.val,.val,(.arr 162 v3),.val]),(.arr 96 v4)],kW,false⟩]⟩
theorem KZ:Has Tryz.prog 96 c_ga pC:=fp (R:=bc) (tr:=false) (E:=[(32,0,oP),(139,1,c_ez),(138,2,c_fz),(64,3,c_em)]) (Φ:=Hl) (t:=t_ga) ⟨el,KQ,Eb,Ec,trivial⟩ Tryz.f96 hE (by kernel_rfl)
def c_du:Con:=⟨[.own true [.val,(.arr 162 v3),.val,(.arr 96 v4),(.arr 93 [.val,.val,.val,(.arr 162 v3),.val]),(.arr 96 v4)] kW false,.ro false [kI]],[⟨true,[.val,(.arr 162 v3),.val,(.arr 96 v4),(.arr 93 [.val,.val,.val,(.arr 162 v3),.val]),(.arr 96 v4)],kW,false⟩]⟩
def h_du:How:=⟨ar [],
 ar [(3,⟨[kI],[],[(4,.cells [(.bool (.v 1000)),(.sl 0),(sI 0),(.sl 1),(.sl 2),(.sl 3)])],[],0⟩)],
 ar []⟩
theorem Ed:Has Tryz.prog 65 c_du pD:=fp (R:=bc) (tr:=false) (E:=[(32,0,oP)]) (Φ:=Hm) (t:=t_du) ⟨el,trivial⟩ Tryz.f65 h_du (by kernel_rfl)
def c_fy:Con:=⟨[.own true [(.arr 162 v3),.val] [.list,kI] false,.ro false [kI]],[⟨true,[(.arr 162 v3),.val],[.list,kI],false⟩]⟩
theorem Ee:Has Tryz.prog 141 c_fy pE:=fp (R:=bc) (tr:=true) (E:=[]) (Φ:=ph []) (t:=t_fy) trivial Tryz.f141 hE (by kernel_rfl)
def c_fh:Con:=⟨[.own true [.val,(.arr 162 v3),.val,(.arr 96 v4)] kD false,.ro false [kI]],[⟨true,[.val,(.arr 162 v3),.val,(.arr 96 v4)],kD,false⟩]⟩
theorem K3:Has Tryz.prog 140 c_fh vV:=fp (R:=bc) (tr:=false) (E:=[(141,0,c_fy)]) (Φ:=Hn) (t:=t_fh) ⟨Ee,trivial⟩ Tryz.f140 hE (by kernel_rfl)
def c_fd:Con:=⟨[.own true [.val,(.arr 162 v3),.val,(.arr 96 v4),(.arr 93 [.val,.val,.val,(.arr 162 v3),.val]),(.arr 96 v4)] kW false,.ro true [kI,kI,kI,.list]],[⟨true,[.val,(.arr 162 v3),.val,(.arr 96 v4),(.arr 93 [.val,.val,.val,(.arr 162 v3),.val]),(.arr 96 v4)],kW,false⟩]⟩
theorem K4:Has Tryz.prog 97 c_fd pF:=fp (R:=bc) (tr:=false) (E:=[(32,0,oP),(65,1,c_du),(140,2,c_fh),(141,3,c_fy)]) (Φ:=Ho) (t:=t_fd) ⟨el,Ed,K3,Ee,trivial⟩ Tryz.f97 hE (by kernel_rfl)
def c_hc:Con:=⟨[.own true [.val,(.arr 162 v3),.val,(.arr 96 v4),(.arr 93 [.val,.val,.val,(.arr 162 v3),.val]),(.arr 96 v4)] kW false,.ro true [kI,kI,kI,.list]],[⟨true,[.val,(.arr 162 v3),.val,(.arr 96 v4),(.arr 93 [.val,.val,.val,(.arr 162 v3),.val]),(.arr 96 v4)],kW,false⟩]⟩
def h_hc:How:=⟨ar [],
 ar [(5,⟨[.bool],[(7,(.bool (.v 0)))],[],[],0⟩)],
 ar []⟩
theorem Ef:Has Tryz.prog 52 c_hc mg:=fp (R:=bc) (tr:=false) (E:=[(95,0,c_fk),(96,1,c_ga),(97,2,c_fd)]) (Φ:=Hp) (t:=t_hc) ⟨KP,KZ,K4,trivial⟩ Tryz.f52 h_hc (by kernel_rfl)
def c_fi:Con:=⟨[.ro true kW,.ro true [kI,kI,kI,.list]],[⟨true,[.val,.val,.val,.val,.val,.val],kW,false⟩]⟩
theorem K5:Has Tryz.prog 23 c_fi vW:=fp (R:=bc) (tr:=false) (E:=[(31,0,c_ef),(33,1,c_eg),(52,2,c_hc)]) (Φ:=Hq) (t:=t_fi) ⟨D4,D6,Ef,trivial⟩ Tryz.f23 hE (by kernel_rfl)
def kY:Con:=⟨[.ro false [kI],.ro false [kI],.ro false [kI]],[⟨false,[.val],[.bool],false⟩]⟩
theorem dm:Has Tryz.prog 39 kY bv:=fp (R:=al) (tr:=false) (E:=[]) (Φ:=ph []) (t:=t_ho) trivial Tryz.f39 hE (by kernel_rfl)
def c_bu:Con:=⟨[.ro false [kI]],[⟨false,[.val],[.bool],false⟩]⟩
theorem K6:Has Tryz.prog 185 c_bu vX:=fp (R:=al) (tr:=false) (E:=[(39,0,kY)]) (Φ:=Hr) (t:=t_bu) ⟨dm,trivial⟩ Tryz.f185 hE (by kernel_rfl)
def c_an:Con:=⟨[.ro false [.list],.fn 185 []],[⟨false,[.val],[kI],false⟩]⟩
def h_an:How:=⟨ar [(0,⟨[kI],[(4,(.int .i64 (.n 0))),(8,(sI 0))],[],[],0⟩)],
 ar [],
 ar []⟩
theorem K7:Has Tryz.prog 192 c_an vY:=fp (R:=al) (tr:=false) (E:=[(185,0,c_bu)]) (Φ:=Hs) (t:=t_an) ⟨K6,trivial⟩ Tryz.f192 h_an (by kernel_rfl)
def c_al:Con:=⟨[.ro false [.list],.fn 185 []],[⟨false,[.val],[.bool],false⟩]⟩
theorem K8:Has Tryz.prog 187 c_al vZ:=fp (R:=al) (tr:=false) (E:=[(192,0,c_an)]) (Φ:=Ht) (t:=t_al) ⟨K7,trivial⟩ Tryz.f187 hE (by kernel_rfl)
def c_bz:Con:=⟨[.ro false [kI]],[⟨false,[.val],[.bool],false⟩]⟩
theorem K9:Has Tryz.prog 186 c_bz v6:=fp (R:=al) (tr:=false) (E:=[]) (Φ:=ph []) (t:=t_bz) trivial Tryz.f186 hE (by kernel_rfl)
def c_ao:Con:=⟨[.ro false [.list],.fn 186 []],[⟨false,[.val],[kI],false⟩]⟩
def h_ao:How:=⟨ar [(0,⟨[kI],[(4,(.int .i64 (.n 0))),(8,(sI 0))],[],[],0⟩)],
 ar [],
 ar []⟩
theorem La:Has Tryz.prog 192 c_ao v7:=fp (R:=al) (tr:=false) (E:=[(186,0,c_bz)]) (Φ:=Hu) (t:=t_ao) ⟨K9,trivial⟩ Tryz.f192 h_ao (by kernel_rfl)
def c_ak:Con:=⟨[.ro false [.list],.fn 186 []],[⟨false,[.val],[.bool],false⟩]⟩
theorem Lb:Has Tryz.prog 187 c_ak v8:=fp (R:=al) (tr:=false) (E:=[(192,0,c_ao)]) (Φ:=Hv) (t:=t_ak) ⟨La,trivial⟩ Tryz.f187 hE (by kernel_rfl)
def c_ds:Con:=⟨[.ro false [.list]],[⟨false,[.val],[.bool],false⟩]⟩
theorem Eg:Has Tryz.prog 174 c_ds pG:=fp (R:=al) (tr:=false) (E:=[(187,0,c_al),(187,1,c_ak)]) (Φ:=Hw) (t:=t_ds) ⟨K8,Lb,trivial⟩ Tryz.f174 hE (by kernel_rfl)
def JI:Con:=⟨[.ro false [kI]],[⟨false,[.val],[.bool],false⟩]⟩
theorem zu:Has Tryz.prog 125 JI gx:=fp (R:=al) (tr:=false) (E:=[(39,0,kY)]) (Φ:=Hx) (t:=t_gd) ⟨dm,trivial⟩ Tryz.f125 hE (by kernel_rfl)
def Eh:Con:=⟨[.ro true [kI,kI,.list]],[⟨false,[.val],[.bool],false⟩]⟩
theorem oU:Has Tryz.prog 142 Eh gy:=fp (R:=al) (tr:=false) (E:=[(39,0,kY),(174,1,c_ds),(125,2,JI)]) (Φ:=Hy) (t:=t_he) ⟨dm,Eg,zu,trivial⟩ Tryz.f142 hE (by kernel_rfl)
def c_ei:Con:=⟨[.ro true [kI,kI,.list]],[⟨false,[.val],[.bool],false⟩]⟩
theorem Lc:Has Tryz.prog 158 c_ei v9:=fp (R:=al) (tr:=false) (E:=[(142,0,Eh)]) (Φ:=Hz) (t:=t_ei) ⟨oU,trivial⟩ Tryz.f158 hE (by kernel_rfl)
def c_am:Con:=⟨[.ro false [.list],.fn 158 []],[⟨false,[.val],[kI],false⟩]⟩
def h_am:How:=⟨ar [(0,⟨[kI],[(4,(.int .i64 (.n 0))),(8,(sI 0))],[],[],0⟩)],
 ar [],
 ar []⟩
theorem Ld:Has Tryz.prog 179 c_am wa:=fp (R:=al) (tr:=false) (E:=[(158,0,c_ei)]) (Φ:=HA) (t:=t_am) ⟨Lc,trivial⟩ Tryz.f179 h_am (by kernel_rfl)
def c_ah:Con:=⟨[.ro false [.list],.fn 158 []],[⟨false,[.val],[.bool],false⟩]⟩
theorem Le:Has Tryz.prog 159 c_ah wc:=fp (R:=al) (tr:=false) (E:=[(179,0,c_am)]) (Φ:=HB) (t:=t_ah) ⟨Ld,trivial⟩ Tryz.f159 hE (by kernel_rfl)
def Ei:Con:=⟨[.ro true [.list,kI]],[⟨false,[.val],[.bool],false⟩]⟩
theorem oV:Has Tryz.prog 118 Ei gz:=fp (R:=al) (tr:=false) (E:=[(39,0,kY),(159,1,c_ah)]) (Φ:=HC) (t:=t_hh) ⟨dm,Le,trivial⟩ Tryz.f118 hE (by kernel_rfl)
def c_cq:Con:=⟨[.ro true [.list,kI]],[⟨false,[.val],[.bool],false⟩]⟩
theorem Lf:Has Tryz.prog 193 c_cq wd:=fp (R:=al) (tr:=false) (E:=[(174,0,c_ds),(39,1,kY)]) (Φ:=HD) (t:=t_cq) ⟨Eg,dm,trivial⟩ Tryz.f193 hE (by kernel_rfl)
def c_ai:Con:=⟨[.ro false [.list],.fn 193 []],[⟨false,[.val],[kI],false⟩]⟩
def h_ai:How:=⟨ar [(0,⟨[kI],[(4,(.int .i64 (.n 0))),(8,(sI 0))],[],[],0⟩)],
 ar [],
 ar []⟩
theorem Lg:Has Tryz.prog 196 c_ai we:=fp (R:=al) (tr:=false) (E:=[(193,0,c_cq)]) (Φ:=HE) (t:=t_ai) ⟨Lf,trivial⟩ Tryz.f196 h_ai (by kernel_rfl)
def c_ad:Con:=⟨[.ro false [.list],.fn 193 []],[⟨false,[.val],[.bool],false⟩]⟩
theorem Lh:Has Tryz.prog 194 c_ad wg:=fp (R:=al) (tr:=false) (E:=[(196,0,c_ai)]) (Φ:=HF) (t:=t_ad) ⟨Lg,trivial⟩ Tryz.f194 hE (by kernel_rfl)
def c_en:Con:=⟨[.ro false [.list]],[⟨false,[.val],[.bool],false⟩]⟩
theorem Li:Has Tryz.prog 188 c_en wh:=fp (R:=al) (tr:=false) (E:=[(194,0,c_ad)]) (Φ:=HG) (t:=t_en) ⟨Lh,trivial⟩ Tryz.f188 hE (by kernel_rfl)
def c_es:Con:=⟨[.ro false [.list],.ro false [kI]],[⟨false,[.val],[kI],false⟩]⟩
theorem Ej:Has Tryz.prog 171 c_es pH:=fp (R:=al) (tr:=false) (E:=[(39,0,kY)]) (Φ:=HH) (t:=t_es) ⟨dm,trivial⟩ Tryz.f171 hE (by kernel_rfl)
def c_dr:Con:=⟨[.ro false [.list],.ro true [kI,kI,.list]],[⟨false,[.val],[.bool],false⟩]⟩
theorem Ek:Has Tryz.prog 175 c_dr pI:=fp (R:=al) (tr:=false) (E:=[(188,0,c_en),(142,1,Eh),(171,2,c_es)]) (Φ:=HI) (t:=t_dr) ⟨Li,oU,Ej,trivial⟩ Tryz.f175 hE (by kernel_rfl)
def c_bi:Con:=⟨[.ro false [.list]],[⟨false,[(.arr 3 [.val])],[.list],false⟩]⟩
theorem El:Has Tryz.prog 180 c_bi mh:=fp (R:=al) (tr:=false) (E:=[]) (Φ:=ph []) (t:=t_bi) trivial Tryz.f180 hE (by kernel_rfl)
def c_fc:Con:=⟨[.ro false [.list],.ro true [kI,kI,.list]],[⟨false,[.val],[.list],false⟩,⟨false,[.val],[.bool],false⟩]⟩
def h_fc:How:=⟨ar [(0,⟨[kI,.list],[(6,(.sl 1000)),(16,(sI 0))],[(1000,.arr 143 [.val,.val] (.v 1))],[],1⟩)],
 ar [],
 ar []⟩
theorem Lj:Has Tryz.prog 160 c_fc wi:=fp (R:=al) (tr:=false) (E:=[(175,0,c_dr),(180,1,c_bi)]) (Φ:=HJ) (t:=t_fc) ⟨Ek,El,trivial⟩ Tryz.f160 h_fc (by kernel_rfl)
def c_fo:Con:=⟨[.ro false [.list]],[⟨false,[.val],[.list],false⟩,⟨false,[.val],[.bool],false⟩]⟩
def h_fo:How:=⟨ar [(0,⟨[.list,.bool,kI],[(4,(.view true (.v 0))),(5,(.bool (.v 1))),(6,(sI 2))],[],[],0⟩)],
 ar [],
 ar []⟩
theorem Em:Has Tryz.prog 119 c_fo pJ:=fp (R:=al) (tr:=false) (E:=[(160,0,c_fc)]) (Φ:=HK) (t:=t_fo) ⟨Lj,trivial⟩ Tryz.f119 h_fo (by kernel_rfl)
def Ch:Con:=⟨[.ro false [kI]],[⟨false,[.val],[.bool],false⟩]⟩
theorem lQ:Has Tryz.prog 122 Ch eT:=fp (R:=al) (tr:=false) (E:=[(39,0,kY)]) (Φ:=HL) (t:=t_fb) ⟨dm,trivial⟩ Tryz.f122 hE (by kernel_rfl)
def Gf:Con:=⟨[.ro true kJ],[⟨false,[.val],[.bool],false⟩]⟩
theorem tv:Has Tryz.prog 73 Gf iL:=fp (R:=al) (tr:=false) (E:=[(39,0,kY),(122,1,Ch),(125,2,JI)]) (Φ:=HM) (t:=t_gh) ⟨dm,lQ,zu,trivial⟩ Tryz.f73 hE (by kernel_rfl)
def En:Con:=⟨[.ro true kJ],[⟨false,[.val],[.bool],false⟩]⟩
theorem oX:Has Tryz.prog 120 En gA:=fp (R:=al) (tr:=false) (E:=[]) (Φ:=ph []) (t:=t_bg) trivial Tryz.f120 hE (by kernel_rfl)
def c_at:Con:=⟨[.ro false [.list],.ro true kJ],[⟨false,[.val],[kI],false⟩]⟩
def h_at:How:=⟨ar [(0,⟨[kI],[(4,(.int .i64 (.n 0))),(8,(sI 0))],[],[],0⟩)],
 ar [],
 ar []⟩
theorem Lk:Has Tryz.prog 161 c_at wj:=fp (R:=al) (tr:=false) (E:=[]) (Φ:=ph []) (t:=t_at) trivial Tryz.f161 h_at (by kernel_rfl)
def JJ:Con:=⟨[.ro false [.list],.ro true kJ],[⟨false,[.val],[.bool],false⟩]⟩
theorem zv:Has Tryz.prog 121 JJ lw:=fp (R:=al) (tr:=false) (E:=[(161,0,c_at)]) (Φ:=HN) (t:=t_ap) ⟨Lk,trivial⟩ Tryz.f121 hE (by kernel_rfl)
def Ci:Con:=⟨[.ro true kD],[⟨false,[.val],[.bool],false⟩]⟩
def h_gs:How:=⟨ar [(0,⟨[kI],[(2,(.bool (.b false))),(32,(sI 0))],[],[],0⟩)],
 ar [(3,⟨[],[(2,(.bool (.b false)))],[],[],0⟩)],
 ar []⟩
theorem lR:Has Tryz.prog 69 Ci fB:=fp (R:=al) (tr:=false) (E:=[(118,0,Ei),(119,1,c_fo),(73,2,Gf),(120,3,En),(121,4,JJ)]) (Φ:=HO) (t:=t_gs) ⟨oV,Em,tv,oX,zv,trivial⟩ Tryz.f69 h_gs (by kernel_rfl)
def c_dc:Con:=⟨[.ro false [kI]],[⟨true,[.val,(.arr 181 [.val,.val])],[kI,.list],false⟩,⟨false,[.val],[.bool],false⟩]⟩
theorem Ll:Has Tryz.prog 162 c_dc wl:=fp (R:=al) (tr:=false) (E:=[(39,0,kY)]) (Φ:=HP) (t:=t_dc) ⟨dm,trivial⟩ Tryz.f162 hE (by kernel_rfl)
def c_fw:Con:=⟨[.ro true [kI,kI]],[⟨false,[.val],[.bool],false⟩]⟩
theorem Lm:Has Tryz.prog 190 c_fw wn:=fp (R:=al) (tr:=false) (E:=[(39,0,kY)]) (Φ:=HQ) (t:=t_fw) ⟨dm,trivial⟩ Tryz.f190 hE (by kernel_rfl)
def c_cw:Con:=⟨[.ro true [kI,kI]],[⟨false,[.val],[.bool],false⟩]⟩
theorem Ln:Has Tryz.prog 189 c_cw wo:=fp (R:=al) (tr:=false) (E:=[(190,0,c_fw)]) (Φ:=HR) (t:=t_cw) ⟨Lm,trivial⟩ Tryz.f189 hE (by kernel_rfl)
def c_ag:Con:=⟨[.ro false [.list],.fn 189 []],[⟨false,[.val],[kI],false⟩]⟩
def h_ag:How:=⟨ar [(0,⟨[kI],[(4,(.int .i64 (.n 0))),(8,(sI 0))],[],[],0⟩)],
 ar [],
 ar []⟩
theorem Lo:Has Tryz.prog 195 c_ag wq:=fp (R:=al) (tr:=false) (E:=[(189,0,c_cw)]) (Φ:=HS) (t:=t_ag) ⟨Ln,trivial⟩ Tryz.f195 h_ag (by kernel_rfl)
def c_ae:Con:=⟨[.ro false [.list],.fn 189 []],[⟨false,[.val],[.bool],false⟩]⟩
theorem Lp:Has Tryz.prog 191 c_ae wu:=fp (R:=al) (tr:=false) (E:=[(195,0,c_ag)]) (Φ:=HT) (t:=t_ae) ⟨Lo,trivial⟩ Tryz.f191 hE (by kernel_rfl)
def c_bs:Con:=⟨[.ro true [kI,.list]],[⟨false,[.val],[kI],false⟩]⟩
def h_bs:How:=⟨ar [(0,⟨[kI,kI],[(3,(sI 0)),(11,(sI 1))],[],[],0⟩)],
 ar [],
 ar []⟩
theorem Eo:Has Tryz.prog 184 c_bs pK:=fp (R:=al) (tr:=false) (E:=[]) (Φ:=ph []) (t:=t_bs) trivial Tryz.f184 h_bs (by kernel_rfl)
def c_fu:Con:=⟨[.ro true [kI,.list]],[⟨false,[.val],[.bool],false⟩]⟩
theorem Lq:Has Tryz.prog 183 c_fu wv:=fp (R:=al) (tr:=false) (E:=[(39,0,kY),(191,1,c_ae),(184,2,c_bs)]) (Φ:=HU) (t:=t_fu) ⟨dm,Lp,Eo,trivial⟩ Tryz.f183 hE (by kernel_rfl)
def c_dz:Con:=⟨[.ro true [kI,.list],.ro true [kI,kI,.list]],[⟨false,[.val],[.bool],false⟩]⟩
theorem Ep:Has Tryz.prog 166 c_dz pL:=fp (R:=al) (tr:=false) (E:=[(183,0,c_fu),(142,1,Eh),(184,2,c_bs)]) (Φ:=HV) (t:=t_dz) ⟨Lq,oU,Eo,trivial⟩ Tryz.f166 hE (by kernel_rfl)
def c_au:Con:=⟨[.ro false [.list]],[⟨false,[(.arr 181 [.val,.val])],[.list],false⟩]⟩
theorem Lr:Has Tryz.prog 181 c_au ww:=fp (R:=al) (tr:=false) (E:=[]) (Φ:=ph []) (t:=t_au) trivial Tryz.f181 hE (by kernel_rfl)
def c_fa:Con:=⟨[.ro true [kI,.list],.ro true [kI,kI,.list]],[⟨true,[.val,.val],[kI,.list],false⟩,⟨false,[.val],[.bool],false⟩]⟩
def h_fa:How:=⟨ar [],
 ar [(4,⟨[.list],[(6,(.ptr 1000 0))],[(1000,.cells [(sI 1000),(.sl 1001)]),(1001,.arr 181 [.val,.val] (.v 0))],[],2⟩)],
 ar []⟩
theorem Ls:Has Tryz.prog 163 c_fa wy:=fp (R:=al) (tr:=false) (E:=[(166,0,c_dz),(181,1,c_au)]) (Φ:=HW) (t:=t_fa) ⟨Ep,Lr,trivial⟩ Tryz.f163 h_fa (by kernel_rfl)
def c_el:Con:=⟨[.ro false [kI],.ro false [.list]],[⟨true,[.val,.val],[kI,.list],false⟩,⟨false,[.val],[.bool],false⟩]⟩
def h_el:How:=⟨ar [(0,⟨[.bool,kI,kI,.list],[(7,(.bool (.v 0))),(8,(sI 1))],[(2,.cells [(sI 2),(.view true (.v 3))])],[],0⟩)],
 ar [],
 ar []⟩
theorem Er:Has Tryz.prog 123 c_el pM:=fp (R:=al) (tr:=false) (E:=[(162,0,c_dc),(163,1,c_fa)]) (Φ:=HX) (t:=t_el) ⟨Ll,Ls,trivial⟩ Tryz.f123 h_el (by kernel_rfl)
def Es:Con:=⟨[.ro true kH],[⟨false,[.val],[.bool],false⟩]⟩
theorem oY:Has Tryz.prog 70 Es gB:=fp (R:=al) (tr:=false) (E:=[(122,0,Ch),(118,1,Ei),(123,2,c_el)]) (Φ:=HY) (t:=t_eh) ⟨lQ,oV,Er,trivial⟩ Tryz.f70 hE (by kernel_rfl)
def c_cs:Con:=⟨[.ro true kJ],[⟨false,[.val],[.bool],false⟩]⟩
theorem Lt:Has Tryz.prog 72 c_cs wz:=fp (R:=al) (tr:=false) (E:=[(73,0,Gf)]) (Φ:=HZ) (t:=t_cs) ⟨tv,trivial⟩ Tryz.f72 hE (by kernel_rfl)
def c_aj:Con:=⟨[.ro false [.list],.fn 72 []],[⟨false,[.val],[kI],false⟩]⟩
def h_aj:How:=⟨ar [(0,⟨[kI],[(4,(.int .i64 (.n 0))),(8,(sI 0))],[],[],0⟩)],
 ar [],
 ar []⟩
theorem Lu:Has Tryz.prog 124 c_aj wA:=fp (R:=al) (tr:=false) (E:=[(72,0,c_cs)]) (Φ:=H0) (t:=t_aj) ⟨Lt,trivial⟩ Tryz.f124 h_aj (by kernel_rfl)
def c_af:Con:=⟨[.ro false [.list],.fn 72 []],[⟨false,[.val],[.bool],false⟩]⟩
theorem Lv:Has Tryz.prog 71 c_af wB:=fp (R:=al) (tr:=false) (E:=[(124,0,c_aj)]) (Φ:=H1) (t:=t_af) ⟨Lu,trivial⟩ Tryz.f71 hE (by kernel_rfl)
def c_fs:Con:=⟨[.ro true kW],[⟨false,[.val],[.bool],false⟩]⟩
def h_fs:How:=⟨ar [(0,⟨[kI],[(2,(.bool (.b false))),(24,(sI 0))],[],[],0⟩)],
 ar [],
 ar []⟩
theorem Et:Has Tryz.prog 38 c_fs mi:=fp (R:=al) (tr:=false) (E:=[(69,0,Ci),(70,1,Es),(71,2,c_af)]) (Φ:=H2) (t:=t_fs) ⟨lR,oY,Lv,trivial⟩ Tryz.f38 h_fs (by kernel_rfl)
def c_bm:Con:=⟨[.ro true [kI,kI,.list]],[⟨true,[.val,.val,(.arr 3 [.val])],[kI,kI,.list],false⟩]⟩
theorem Eu:Has Tryz.prog 182 c_bm pN:=fp (R:=al) (tr:=false) (E:=[(180,0,c_bi)]) (Φ:=H3) (t:=t_bm) ⟨El,trivial⟩ Tryz.f182 hE (by kernel_rfl)
def JK:Con:=⟨[.ro true [.list,kI],.ro false [kI],.ro false [kI]],[⟨true,[(.arr 162 [.val,.val,(.arr 3 [.val])]),.val],[.list,kI],false⟩]⟩
def h_ch:How:=⟨ar [(0,⟨[kI,.list],[(17,(sI 0))],[(2,.cells [(.sl 1000),(sI 1003)]),(1000,.arr 162 [.val,.val,(.arr 3 [.val])] (.v 1))],[],1⟩)],
 ar [],
 ar []⟩
theorem zw:Has Tryz.prog 164 JK lx:=fp (R:=al) (tr:=false) (E:=[(182,0,c_bm)]) (Φ:=H4) (t:=t_ch) ⟨Eu,trivial⟩ Tryz.f164 h_ch (by kernel_rfl)
def JL:Con:=⟨[.ro true [.list,kI]],[⟨true,[(.arr 162 [.val,.val,(.arr 3 [.val])]),.val],[.list,kI],false⟩]⟩
theorem zx:Has Tryz.prog 126 JL ly:=fp (R:=al) (tr:=false) (E:=[(164,0,JK)]) (Φ:=H5) (t:=t_bv) ⟨zw,trivial⟩ Tryz.f126 hE (by kernel_rfl)
def c_as:Con:=⟨[.ro false [.list]],[⟨false,[(.arr 96 v4)],[.list],false⟩]⟩
theorem Ew:Has Tryz.prog 75 c_as pO:=fp (R:=al) (tr:=false) (E:=[]) (Φ:=ph []) (t:=t_as) trivial Tryz.f75 hE (by kernel_rfl)
def Ex:Con:=⟨[.ro true kD],[⟨true,[.val,(.arr 162 [.val,.val,(.arr 3 [.val])]),.val,(.arr 96 v4)],kD,false⟩]⟩
theorem oZ:Has Tryz.prog 74 Ex gC:=fp (R:=al) (tr:=false) (E:=[(126,0,JL),(75,1,c_as)]) (Φ:=H6) (t:=t_bf) ⟨zx,Ew,trivial⟩ Tryz.f74 hE (by kernel_rfl)
def Gg:Con:=⟨[.ro true kH],[⟨true,[.val,.val,.val,(.arr 162 [.val,.val,(.arr 3 [.val])]),.val],kH,false⟩]⟩
theorem tw:Has Tryz.prog 76 Gg iM:=fp (R:=al) (tr:=false) (E:=[(126,0,JL)]) (Φ:=H7) (t:=t_bc) ⟨zx,trivial⟩ Tryz.f76 hE (by kernel_rfl)
def c_bb:Con:=⟨[.ro true kW],[⟨true,[.val,(.arr 162 [.val,.val,(.arr 3 [.val])]),.val,(.arr 96 v4),(.arr 93 [.val,.val,.val,(.arr 162 [.val,.val,(.arr 3 [.val])]),.val]),(.arr 96 v4)],kW,false⟩]⟩
def h_bb:How:=⟨ar [(0,⟨[kI,.list],[(16,(sI 0))],[(2,.cells [(.bool (.v 1006)),(.sl 3),(sI 1007),(.sl 4),(.sl 1000),(.sl 5)]),(1000,.arr 93 [.val,.val,.val,(.arr 162 [.val,.val,(.arr 3 [.val])]),.val] (.v 1))],[],1⟩)],
 ar [(2,⟨[.bool,kI,.list,.list,.list],[(3,(.ptr 1000 0))],[(1000,.cells [(.bool (.v 0)),(.sl 1001),(sI 1),(.sl 1002),.nil,(.sl 1003)]),(1001,.arr 162 [.val,.val,(.arr 3 [.val])] (.v 2)),(1002,.arr 96 v4 (.v 3)),(1003,.arr 96 v4 (.v 4))],[],4⟩)],
 ar []⟩
theorem Ey:Has Tryz.prog 40 c_bb pP:=fp (R:=al) (tr:=false) (E:=[(74,0,Ex),(75,1,c_as),(76,2,Gg)]) (Φ:=H8) (t:=t_bb) ⟨oZ,Ew,tw,trivial⟩ Tryz.f40 h_bb (by kernel_rfl)
def c_cc:Con:=⟨[.own true [.val,.val] [.list,kI] false,.ro false [.bool]],[⟨false,[.val],[.list],false⟩]⟩
theorem Ez:Has Tryz.prog 165 c_cc pQ:=fp (R:=al) (tr:=false) (E:=[]) (Φ:=ph []) (t:=t_cc) trivial Tryz.f165 hE (by kernel_rfl)
def EA:Con:=⟨[.ro true kD,.ro false [.bool]],[⟨false,[.val],[.list],false⟩]⟩
theorem o5:Has Tryz.prog 128 EA eU:=fp (R:=al) (tr:=false) (E:=[(165,0,c_cc),(119,1,c_fo)]) (Φ:=H9) (t:=t_bp) ⟨Ez,Em,trivial⟩ Tryz.f128 hE (by kernel_rfl)
def c_gf:Con:=⟨[.ro true [.list,kI],.ro true [kI,kI,.list]],[⟨true,[(.arr 162 [.val,.val,(.arr 3 [.val])]),.val],[.list,kI],false⟩,⟨false,[.val],[.bool],false⟩]⟩
theorem EB:Has Tryz.prog 168 c_gf pR:=fp (R:=al) (tr:=false) (E:=[(118,0,Ei),(142,1,Eh),(126,2,JL),(182,3,c_bm)]) (Φ:=Ib) (t:=t_gf) ⟨oV,oU,zx,Eu,trivial⟩ Tryz.f168 hE (by kernel_rfl)
def JM:Con:=⟨[.ptr [.val,(.arr 162 [.val,.val,(.arr 3 [.val])]),.val,(.arr 96 v4)] kD,.ro true [kI,kI,.list]],[⟨false,[.val],[.bool],false⟩]⟩
theorem zy:Has Tryz.prog 143 JM gb:=fp (R:=al) (tr:=false) (E:=[(128,0,EA),(175,1,c_dr),(168,2,c_gf)]) (Φ:=Ic) (t:=t_bw) ⟨o5,Ek,EB,trivial⟩ Tryz.f143 hE (by kernel_rfl)
def c_cv:Con:=⟨[.ro true kD,.ro false [.list]],[⟨true,[.val,(.arr 162 [.val,.val,(.arr 3 [.val])]),.val,(.arr 96 v4)],kD,false⟩,⟨false,[.val],[.bool],false⟩]⟩
theorem Lw:Has Tryz.prog 100 c_cv wC:=fp (R:=al) (tr:=false) (E:=[(69,0,Ci),(74,1,Ex),(128,2,EA),(142,3,Eh),(143,4,JM)]) (Φ:=Ie) (t:=t_cv) ⟨lR,oZ,o5,oU,zy,trivial⟩ Tryz.f100 hE (by kernel_rfl)
def c_dp:Con:=⟨[.ro true kD,.ro false [kI]],[⟨true,[.val,(.arr 162 [.val,.val,(.arr 3 [.val])]),.val,(.arr 96 v4)],kD,false⟩,⟨false,[.val],[.bool],false⟩]⟩
theorem Lx:Has Tryz.prog 101 c_dp wD:=fp (R:=al) (tr:=false) (E:=[(69,0,Ci),(125,1,JI),(74,2,Ex),(143,3,JM)]) (Φ:=If) (t:=t_dp) ⟨lR,zu,oZ,zy,trivial⟩ Tryz.f101 hE (by kernel_rfl)
def c_cd:Con:=⟨[.ro true kD,.ro false [kI],.ro false [kI],.ro false [kI]],[⟨false,[.val],[.bool],false⟩]⟩
theorem EC:Has Tryz.prog 129 c_cd pS:=fp (R:=al) (tr:=false) (E:=[(121,0,JJ)]) (Φ:=Ig) (t:=t_cd) ⟨zv,trivial⟩ Tryz.f129 hE (by kernel_rfl)
def c_bl:Con:=⟨[.ro true kD],[⟨false,[.val],[.list],false⟩]⟩
def h_bl:How:=⟨ar [(0,⟨[kI,.list],[(4,(.sl 1000)),(23,(sI 0))],[(1000,.arr 96 v4 (.v 1))],[],1⟩),(2,⟨[kI,.list],[(4,(.sl 1000)),(38,(sI 0))],[(1000,.arr 96 v4 (.v 1))],[2],1⟩)],
 ar [],
 ar []⟩
theorem ED:Has Tryz.prog 81 c_bl pT:=fp (R:=al) (tr:=false) (E:=[(128,0,EA),(129,1,c_cd)]) (Φ:=Ih) (t:=t_bl) ⟨o5,EC,trivial⟩ Tryz.f81 h_bl (by kernel_rfl)
def c_bq:Con:=⟨[.ptr [.val,(.arr 162 [.val,.val,(.arr 3 [.val])]),.val,(.arr 96 v4),(.arr 93 [.val,.val,.val,(.arr 162 [.val,.val,(.arr 3 [.val])]),.val]),(.arr 96 v4)] kW,.ro true kJ],[]⟩
theorem EE:Has Tryz.prog 102 c_bq iN:=fp (R:=al) (tr:=false) (E:=[]) (Φ:=ph []) (t:=t_bq) trivial Tryz.f102 hE (by kernel_rfl)
theorem Ly:Has Tryz.prog 144 (lX 96) qi:=yC (ρ:=⟨fun _=>144,fun t=>match t with|22=>35|23=>96|3=>3|4=>4|_=>0,fun x=>x⟩) ⟨nT,⟨Tryz.f144.name,by kernel_rfl,by kernel_rfl⟩,by kernel_rfl,by kernel_rfl,by kernel_rfl,by kernel_rfl⟩ rfl
def c_aq:Con:=lX 96
def c_by:Con:=⟨[.ro true kD,.ro false [kI],.ro false [kI],.ro false [.list]],[⟨false,[.val],[.bool],false⟩,⟨false,[.val],[.bool],false⟩]⟩
def h_by:How:=⟨ar [(0,⟨[.bool,.bool,kI],[(8,(.bool (.v 0))),(9,(.bool (.v 1))),(15,(sI 2))],[],[],0⟩)],
 ar [],
 ar []⟩
theorem Lz:Has Tryz.prog 170 c_by mj:=fp (R:=al) (tr:=false) (E:=[(129,0,c_cd)]) (Φ:=Ii) (t:=t_by) ⟨EC,trivial⟩ Tryz.f170 h_by (by kernel_rfl)
def c_bh:Con:=⟨[.ptr [.val,(.arr 162 [.val,.val,(.arr 3 [.val])]),.val,(.arr 96 v4)] kD,.ro false [kI]],[]⟩
def h_bh:How:=⟨ar [],
 ar [(9,⟨[.bool],[(82,(.bool (.v 0)))],[],[],0⟩),(7,⟨[.bool],[(71,(.bool (.v 0)))],[],[],0⟩)],
 ar []⟩
theorem LA:Has Tryz.prog 131 c_bh sN:=fp (R:=al) (tr:=false) (E:=[(128,0,EA),(170,1,c_by),(171,2,c_es),(143,3,JM)]) (Φ:=Fa) (t:=t_bh) ⟨o5,Lz,Ej,zy,trivial⟩ Tryz.f131 h_bh (by kernel_rfl)
def JN:Con:=⟨[.ptr [.val,(.arr 162 [.val,.val,(.arr 3 [.val])]),.val,(.arr 96 v4)] kD,.ro true kJ],[]⟩
theorem zz:Has Tryz.prog 83 JN lz:=fp (R:=al) (tr:=false) (E:=[(73,0,Gf),(120,1,En),(128,2,EA),(121,3,JJ),(131,4,c_bh)]) (Φ:=Ij) (t:=t_cx) ⟨tv,oX,o5,zv,LA,trivial⟩ Tryz.f83 hE (by kernel_rfl)
def c_be:Con:=⟨[.ro true kH,.ro false [.bool]],[⟨true,[.val,.val],[kI,.list],false⟩]⟩
theorem EF:Has Tryz.prog 167 c_be ml:=fp (R:=al) (tr:=false) (E:=[(165,0,c_cc),(123,1,c_el)]) (Φ:=Ik) (t:=t_be) ⟨Ez,Er,trivial⟩ Tryz.f167 hE (by kernel_rfl)
def c_ay:Con:=⟨[.ro true kH,.ro true kJ],[⟨false,[.val],[kI],false⟩]⟩
def h_ay:How:=⟨ar [],
 ar [(5,⟨[.bool],[(33,(.bool (.v 0)))],[],[],0⟩),(3,⟨[.bool],[(25,(.bool (.v 0)))],[],[],0⟩)],
 ar []⟩
theorem LB:Has Tryz.prog 169 c_ay wE:=fp (R:=al) (tr:=false) (E:=[(167,0,c_be)]) (Φ:=Il) (t:=t_ay) ⟨EF,trivial⟩ Tryz.f169 h_ay (by kernel_rfl)
def c_ct:Con:=⟨[.ro true kH,.ro true kJ],[⟨true,[.val,.val,.val,(.arr 162 [.val,.val,(.arr 3 [.val])]),.val],kH,false⟩,⟨true,v4,kJ,false⟩,⟨false,[.val],[.bool],false⟩]⟩
def h_ct:How:=⟨ar [],
 ar [(9,⟨[.list],[],[(6,.cells [(sI 1005),(sI 1007),(.sl 1000)]),(1000,.arr 3 [.val] (.v 0))],[],1⟩)],
 ar []⟩
theorem EG:Has Tryz.prog 130 c_ct pU:=fp (R:=al) (tr:=false) (E:=[(70,0,Es),(76,1,Gg),(73,2,Gf),(120,3,En),(167,4,c_be),(166,5,c_dz),(168,6,c_gf),(169,7,c_ay)]) (Φ:=In) (t:=t_ct) ⟨oY,tw,tv,oX,EF,Ep,EB,LB,trivial⟩ Tryz.f130 h_ct (by kernel_rfl)
def c_bd:Con:=⟨[.ptr [.val,(.arr 162 [.val,.val,(.arr 3 [.val])]),.val,(.arr 96 v4),(.arr 93 [.val,.val,.val,(.arr 162 [.val,.val,(.arr 3 [.val])]),.val]),(.arr 96 v4)] kW,.ro true kJ],[⟨true,v4,kJ,false⟩,⟨false,[.val],[.bool],false⟩]⟩
theorem LC:Has Tryz.prog 82 c_bd sO:=fp (R:=al) (tr:=false) (E:=[(120,0,En),(83,1,JN),(130,2,c_ct)]) (Φ:=Io) (t:=t_bd) ⟨oX,zz,EG,trivial⟩ Tryz.f82 hE (by kernel_rfl)
def c_cy:Con:=⟨[.ptr [.val,(.arr 162 [.val,.val,(.arr 3 [.val])]),.val,(.arr 96 v4),(.arr 93 [.val,.val,.val,(.arr 162 [.val,.val,(.arr 3 [.val])]),.val]),(.arr 96 v4)] kW,.ro true [kI,kI,kI,.list]],[]⟩
def h_cy:How:=⟨ar [],
 ar [(3,⟨kJ,[(4,(.ptr 1000 0))],[(1000,.cells [(sI 0),(sI 1),(sI 2),(sI 3)])],[],1⟩)],
 ar []⟩
theorem LD:Has Tryz.prog 103 c_cy wF:=fp (R:=al) (tr:=false) (E:=[(39,0,kY),(102,1,c_bq),(144,2,c_aq),(82,3,c_bd)]) (Φ:=Ip) (t:=t_cy) ⟨dm,EE,Ly,LC,trivial⟩ Tryz.f103 h_cy (by kernel_rfl)
def c_dv:Con:=⟨[.ro true [.list,kI]],[⟨true,[(.arr 162 [.val,.val,(.arr 3 [.val])]),.val],[.list,kI],false⟩]⟩
theorem EH:Has Tryz.prog 132 c_dv pV:=fp (R:=al) (tr:=false) (E:=[(118,0,Ei),(164,1,JK)]) (Φ:=Iq) (t:=t_dv) ⟨oV,zw,trivial⟩ Tryz.f132 hE (by kernel_rfl)
def c_ck:Con:=⟨[.ro true kD],[⟨true,[.val,(.arr 162 [.val,.val,(.arr 3 [.val])]),.val,(.arr 96 v4)],kD,false⟩]⟩
theorem LF:Has Tryz.prog 84 c_ck wG:=fp (R:=al) (tr:=false) (E:=[(69,0,Ci),(74,1,Ex),(132,2,c_dv)]) (Φ:=Ir) (t:=t_ck) ⟨lR,oZ,EH,trivial⟩ Tryz.f84 hE (by kernel_rfl)
def c_br:Con:=⟨[.ro true kH],[⟨true,[.val,.val,.val,(.arr 162 [.val,.val,(.arr 3 [.val])]),.val],kH,false⟩]⟩
theorem LG:Has Tryz.prog 85 c_br wH:=fp (R:=al) (tr:=false) (E:=[(70,0,Es),(76,1,Gg),(132,2,c_dv)]) (Φ:=Is) (t:=t_br) ⟨oY,tw,EH,trivial⟩ Tryz.f85 hE (by kernel_rfl)
def c_ab:Con:=⟨[.ptr [.val,(.arr 162 [.val,.val,(.arr 3 [.val])]),.val,(.arr 96 v4),(.arr 93 [.val,.val,.val,(.arr 162 [.val,.val,(.arr 3 [.val])]),.val]),(.arr 96 v4)] kW,.ro false [kI],.fn 84 [],.fn 85 []],[]⟩
theorem EI:Has Tryz.prog 77 c_ab pW:=fp (R:=al) (tr:=false) (E:=[(122,0,Ch),(84,1,c_ck),(85,2,c_br)]) (Φ:=It) (t:=t_ab) ⟨lQ,LF,LG,trivial⟩ Tryz.f77 hE (by kernel_rfl)
def c_fv:Con:=⟨[.ro true [.list,kI],.ro false [kI]],[⟨true,[(.arr 162 [.val,.val,(.arr 3 [.val])]),.val],[.list,kI],false⟩]⟩
theorem EJ:Has Tryz.prog 145 c_fv pX:=fp (R:=al) (tr:=false) (E:=[(118,0,Ei),(164,1,JK)]) (Φ:=Iv) (t:=t_fv) ⟨oV,zw,trivial⟩ Tryz.f145 hE (by kernel_rfl)
def c_da:Con:=⟨[.ro true kD,.ro false [kI]],[⟨true,[.val,(.arr 162 [.val,.val,(.arr 3 [.val])]),.val,(.arr 96 v4)],kD,false⟩]⟩
theorem LH:Has Tryz.prog 105 c_da wI:=fp (R:=al) (tr:=false) (E:=[(69,0,Ci),(145,1,c_fv)]) (Φ:=Iw) (t:=t_da) ⟨lR,EJ,trivial⟩ Tryz.f105 hE (by kernel_rfl)
def c_bj:Con:=⟨[.ro true kD,.rptr [kI,kI,kI,.list]],[⟨true,[.val,(.arr 162 [.val,.val,(.arr 3 [.val])]),.val,(.arr 96 v4)],kD,false⟩]⟩
theorem LI:Has Tryz.prog 104 c_bj wJ:=fp (R:=al) (tr:=false) (E:=[(105,0,c_da)]) (Φ:=Ix) (t:=t_bj) ⟨LH,trivial⟩ Tryz.f104 hE (by kernel_rfl)
def c_cr:Con:=⟨[.ro true kH,.ro false [kI]],[⟨true,[.val,.val,.val,(.arr 162 [.val,.val,(.arr 3 [.val])]),.val],kH,false⟩]⟩
theorem LJ:Has Tryz.prog 107 c_cr wK:=fp (R:=al) (tr:=false) (E:=[(70,0,Es),(145,1,c_fv)]) (Φ:=Iy) (t:=t_cr) ⟨oY,EJ,trivial⟩ Tryz.f107 hE (by kernel_rfl)
def c_bo:Con:=⟨[.ro true kH,.rptr [kI,kI,kI,.list]],[⟨true,[.val,.val,.val,(.arr 162 [.val,.val,(.arr 3 [.val])]),.val],kH,false⟩]⟩
theorem LK:Has Tryz.prog 106 c_bo wL:=fp (R:=al) (tr:=false) (E:=[(107,0,c_cr)]) (Φ:=Iz) (t:=t_bo) ⟨LJ,trivial⟩ Tryz.f106 hE (by kernel_rfl)
def c_aa:Con:=⟨[.ptr [.val,(.arr 162 [.val,.val,(.arr 3 [.val])]),.val,(.arr 96 v4),(.arr 93 [.val,.val,.val,(.arr 162 [.val,.val,(.arr 3 [.val])]),.val]),(.arr 96 v4)] kW,.ro false [kI],.fn 104 [[kI,kI,kI,.list]],.fn 106 [[kI,kI,kI,.list]]],[]⟩
theorem LM:Has Tryz.prog 77 c_aa wM:=fp (R:=al) (tr:=false) (E:=[(122,0,Ch),(104,1,c_bj),(106,2,c_bo)]) (Φ:=IA) (t:=t_aa) ⟨lQ,LI,LK,trivial⟩ Tryz.f77 hE (by kernel_rfl)
def c_dm:Con:=⟨[.ro true kD],[⟨true,[.val,(.arr 162 [.val,.val,(.arr 3 [.val])]),.val,(.arr 96 v4)],kD,false⟩]⟩
theorem LN:Has Tryz.prog 78 c_dm wN:=fp (R:=al) (tr:=false) (E:=[(69,0,Ci),(74,1,Ex)]) (Φ:=IC) (t:=t_dm) ⟨lR,oZ,trivial⟩ Tryz.f78 hE (by kernel_rfl)
def c_cm:Con:=⟨[.ro true kH],[⟨true,[.val,.val,.val,(.arr 162 [.val,.val,(.arr 3 [.val])]),.val],kH,false⟩]⟩
theorem LO:Has Tryz.prog 79 c_cm wO:=fp (R:=al) (tr:=false) (E:=[(70,0,Es),(76,1,Gg)]) (Φ:=ID) (t:=t_cm) ⟨oY,tw,trivial⟩ Tryz.f79 hE (by kernel_rfl)
def c_ac:Con:=⟨[.ptr [.val,(.arr 162 [.val,.val,(.arr 3 [.val])]),.val,(.arr 96 v4),(.arr 93 [.val,.val,.val,(.arr 162 [.val,.val,(.arr 3 [.val])]),.val]),(.arr 96 v4)] kW,.ro false [kI],.fn 78 [],.fn 79 []],[]⟩
theorem EK:Has Tryz.prog 77 c_ac pY:=fp (R:=al) (tr:=false) (E:=[(122,0,Ch),(78,1,c_dm),(79,2,c_cm)]) (Φ:=IE) (t:=t_ac) ⟨lQ,LN,LO,trivial⟩ Tryz.f77 hE (by kernel_rfl)
def c_eb:Con:=⟨[.ptr [.val,(.arr 162 [.val,.val,(.arr 3 [.val])]),.val,(.arr 96 v4),(.arr 93 [.val,.val,.val,(.arr 162 [.val,.val,(.arr 3 [.val])]),.val]),(.arr 96 v4)] kW,.ro true [kI,kI,kI,.list]],[]⟩
def h_eb:How:=⟨ar [],
 ar [(17,⟨[.bool],[(65,(.bool (.v 0)))],[],[],0⟩)],
 ar []⟩
theorem EL:Has Tryz.prog 54 c_eb mm:=fp (R:=al) (tr:=false) (E:=[(100,0,c_cv),(101,1,c_dp),(81,2,c_bl),(39,3,kY),(102,4,c_bq),(103,5,c_cy),(77,6,c_ab),(77,7,c_aa),(77,8,c_ac)]) (Φ:=IG) (t:=t_eb) ⟨Lw,Lx,ED,dm,EE,LD,EI,LM,EK,trivial⟩ Tryz.f54 h_eb (by kernel_rfl)
def c_ex:Con:=⟨[.ro true kW,.ro true [kI,kI,kI,.list]],[⟨true,[.val,(.arr 162 [.val,.val,(.arr 3 [.val])]),.val,(.arr 96 v4),(.arr 93 [.val,.val,.val,(.arr 162 [.val,.val,(.arr 3 [.val])]),.val]),(.arr 96 v4)],kW,false⟩]⟩
theorem LP:Has Tryz.prog 25 c_ex sQ:=fp (R:=al) (tr:=false) (E:=[(38,0,c_fs),(40,1,c_bb),(54,2,c_eb)]) (Φ:=IH) (t:=t_ex) ⟨Et,Ey,EL,trivial⟩ Tryz.f25 hE (by kernel_rfl)
def JO:Con:=⟨[.ro false [.list],.ro false [.list]],[⟨false,[.val],[.bool],false⟩]⟩
def h_gj:How:=⟨ar [(0,⟨[kI],[(4,(.bool (.b false))),(5,(sI 0))],[],[],0⟩)],
 ar [],
 ar []⟩
theorem zA:Has Tryz.prog 18 JO lB:=fp (R:=al) (tr:=false) (E:=[]) (Φ:=ph []) (t:=t_gj) trivial Tryz.f18 h_gj (by kernel_rfl)
def c_gz:Con:=⟨[.ro true [kI,kI,.list],.ro true [kI,kI,.list]],[⟨false,[.val],[.bool],false⟩]⟩
theorem LQ:Has Tryz.prog 172 c_gz wP:=fp (R:=al) (tr:=false) (E:=[(18,0,JO)]) (Φ:=II) (t:=t_gz) ⟨zA,trivial⟩ Tryz.f172 hE (by kernel_rfl)
def c_gc:Con:=⟨[.ro false [.list],.ro false [.list]],[⟨false,[.val],[.bool],false⟩]⟩
def h_gc:How:=⟨ar [(0,⟨[kI],[(4,(.bool (.b false))),(5,(sI 0))],[],[],0⟩)],
 ar [],
 ar []⟩
theorem LR:Has Tryz.prog 133 c_gc wQ:=fp (R:=al) (tr:=false) (E:=[(172,0,c_gz)]) (Φ:=IJ) (t:=t_gc) ⟨LQ,trivial⟩ Tryz.f133 h_gc (by kernel_rfl)
def c_hd:Con:=⟨[.ro true [.list,kI],.ro true [.list,kI]],[⟨false,[.val],[.bool],false⟩]⟩
theorem EM:Has Tryz.prog 86 c_hd pZ:=fp (R:=al) (tr:=false) (E:=[(133,0,c_gc)]) (Φ:=IK) (t:=t_hd) ⟨LR,trivial⟩ Tryz.f86 hE (by kernel_rfl)
def c_gx:Con:=⟨[.ro true kJ,.ro true kJ],[⟨false,[.val],[.bool],false⟩]⟩
theorem LS:Has Tryz.prog 88 c_gx wR:=fp (R:=al) (tr:=false) (E:=[]) (Φ:=ph []) (t:=t_gx) trivial Tryz.f88 hE (by kernel_rfl)
def c_fr:Con:=⟨[.ro false [.list],.ro false [.list]],[⟨false,[.val],[.bool],false⟩]⟩
def h_fr:How:=⟨ar [(0,⟨[kI],[(4,(.bool (.b false))),(5,(sI 0))],[],[],0⟩)],
 ar [],
 ar []⟩
theorem EN:Has Tryz.prog 44 c_fr p8:=fp (R:=al) (tr:=false) (E:=[(88,0,c_gx)]) (Φ:=IL) (t:=t_fr) ⟨LS,trivial⟩ Tryz.f44 h_fr (by kernel_rfl)
def c_gl:Con:=⟨[.ro true kD,.ro true kD],[⟨false,[.val],[.bool],false⟩]⟩
theorem LU:Has Tryz.prog 42 c_gl wS:=fp (R:=al) (tr:=false) (E:=[(86,0,c_hd),(44,1,c_fr)]) (Φ:=IM) (t:=t_gl) ⟨EM,EN,trivial⟩ Tryz.f42 hE (by kernel_rfl)
def c_fj:Con:=⟨[.ro true kH,.ro true kH],[⟨false,[.val],[.bool],false⟩]⟩
theorem LV:Has Tryz.prog 87 c_fj wT:=fp (R:=al) (tr:=false) (E:=[(86,0,c_hd)]) (Φ:=IN) (t:=t_fj) ⟨EM,trivial⟩ Tryz.f87 hE (by kernel_rfl)
def c_dq:Con:=⟨[.ro false [.list],.ro false [.list]],[⟨false,[.val],[.bool],false⟩]⟩
def h_dq:How:=⟨ar [(0,⟨[kI],[(4,(.bool (.b false))),(5,(sI 0))],[],[],0⟩)],
 ar [],
 ar []⟩
theorem LW:Has Tryz.prog 43 c_dq wU:=fp (R:=al) (tr:=false) (E:=[(87,0,c_fj)]) (Φ:=IP) (t:=t_dq) ⟨LV,trivial⟩ Tryz.f43 h_dq (by kernel_rfl)
def JP:Con:=⟨[.ro true kW,.ro true kW],[⟨false,[.val],[.bool],false⟩]⟩
theorem zB:Has Tryz.prog 10 JP lC:=fp (R:=al) (tr:=false) (E:=[(42,0,c_gl),(43,1,c_dq),(44,2,c_fr)]) (Φ:=IQ) (t:=t_fg) ⟨LU,LW,EN,trivial⟩ Tryz.f10 hE (by kernel_rfl)
def c_eo:Con:=⟨[.ro true [kI,kI,kI,.list],.ro true [kI,kI,kI,.list]],[⟨false,[.val],[.bool],false⟩]⟩
theorem EO:Has Tryz.prog 26 c_eo p9:=fp (R:=al) (tr:=false) (E:=[(18,0,JO)]) (Φ:=IR) (t:=t_eo) ⟨zA,trivial⟩ Tryz.f26 hE (by kernel_rfl)
def Gh:Con:=⟨[.own false [(.arr 3 [.val])] [.list] true,.ro false [kI]],[⟨false,[.val],[kI],false⟩]⟩
def h_di:How:=⟨ar [(0,⟨[kI,kI,.list],[(1,(sI 0)),(5,(sI 1))],[(0,.arr 3 [.val] (.v 2))],[],0⟩)],
 ar [],
 ar []⟩
theorem tx:Has Tryz.prog 20 Gh iO:=fp (R:=al) (tr:=false) (E:=[]) (Φ:=ph []) (t:=t_di) trivial Tryz.f20 h_di (by kernel_rfl)
def c_dd:Con:=⟨[.own false [(.arr 162 [.val,.val,(.arr 3 [.val])])] [.list] true,.ro false [kI]],[⟨false,[.val],[kI],false⟩]⟩
def h_dd:How:=⟨ar [(0,⟨[kI,kI,.list],[(1,(sI 0)),(5,(sI 1))],[(0,.arr 162 [.val,.val,(.arr 3 [.val])] (.v 2))],[],0⟩)],
 ar [],
 ar []⟩
theorem EP:Has Tryz.prog 90 c_dd qa:=fp (R:=al) (tr:=false) (E:=[(20,0,Gh)]) (Φ:=IS) (t:=t_dd) ⟨tx,trivial⟩ Tryz.f90 h_dd (by kernel_rfl)
def c_fl:Con:=⟨[.own true [(.arr 162 [.val,.val,(.arr 3 [.val])]),.val] [.list,kI] true,.ro false [kI]],[⟨false,[.val],[kI],false⟩]⟩
theorem LX:Has Tryz.prog 89 c_fl wV:=fp (R:=al) (tr:=false) (E:=[(90,0,c_dd)]) (Φ:=IT) (t:=t_fl) ⟨EP,trivial⟩ Tryz.f89 hE (by kernel_rfl)
def c_ce:Con:=⟨[.own false [(.arr 96 v4)] [.list] true,.ro false [kI]],[⟨false,[.val],[kI],false⟩]⟩
def h_ce:How:=⟨ar [(0,⟨[kI,kI,.list],[(1,(sI 0)),(5,(sI 1))],[(0,.arr 96 v4 (.v 2))],[],0⟩)],
 ar [],
 ar []⟩
theorem EQ:Has Tryz.prog 47 c_ce qb:=fp (R:=al) (tr:=false) (E:=[]) (Φ:=ph []) (t:=t_ce) trivial Tryz.f47 h_ce (by kernel_rfl)
def c_dy:Con:=⟨[.own true [.val,(.arr 162 [.val,.val,(.arr 3 [.val])]),.val,(.arr 96 v4)] kD true,.ro false [kI]],[⟨false,[.val],[kI],false⟩]⟩
theorem LY:Has Tryz.prog 45 c_dy wW:=fp (R:=al) (tr:=false) (E:=[(89,0,c_fl),(47,1,c_ce)]) (Φ:=IU) (t:=t_dy) ⟨LX,EQ,trivial⟩ Tryz.f45 hE (by kernel_rfl)
def c_bt:Con:=⟨[.own false [(.arr 93 [.val,.val,.val,(.arr 162 [.val,.val,(.arr 3 [.val])]),.val])] [.list] true,.ro false [kI]],[⟨false,[.val],[kI],false⟩]⟩
def h_bt:How:=⟨ar [(0,⟨[kI,kI,.list],[(1,(sI 0)),(5,(sI 1))],[(0,.arr 93 [.val,.val,.val,(.arr 162 [.val,.val,(.arr 3 [.val])]),.val] (.v 2))],[],0⟩)],
 ar [],
 ar []⟩
theorem LZ:Has Tryz.prog 46 c_bt wX:=fp (R:=al) (tr:=false) (E:=[(90,0,c_dd)]) (Φ:=IV) (t:=t_bt) ⟨EP,trivial⟩ Tryz.f46 h_bt (by kernel_rfl)
def JQ:Con:=⟨[.own true [.val,(.arr 162 [.val,.val,(.arr 3 [.val])]),.val,(.arr 96 v4),(.arr 93 [.val,.val,.val,(.arr 162 [.val,.val,(.arr 3 [.val])]),.val]),(.arr 96 v4)] kW true,.ro false [kI]],[⟨false,[.val],[kI],false⟩]⟩
theorem zC:Has Tryz.prog 11 JQ lD:=fp (R:=al) (tr:=false) (E:=[(45,0,c_dy),(46,1,c_bt),(47,2,c_ce)]) (Φ:=IW) (t:=t_cn) ⟨LY,LZ,EQ,trivial⟩ Tryz.f11 hE (by kernel_rfl)
def c_cg:Con:=⟨[.own true [.val,.val,.val,(.arr 3 [.val])] [kI,kI,kI,.list] true,.ro false [kI]],[⟨false,[.val],[kI],false⟩]⟩
theorem Ma:Has Tryz.prog 27 c_cg wY:=fp (R:=al) (tr:=false) (E:=[(20,0,Gh)]) (Φ:=IX) (t:=t_cg) ⟨tx,trivial⟩ Tryz.f27 hE (by kernel_rfl)
def c_dx:Con:=⟨[.ro false [.list],.ro false [kI]],[⟨false,[.val],[kI],false⟩]⟩
def h_dx:How:=⟨ar [(0,⟨[kI,kI],[(4,(.int .i64 (.n 0))),(1,(sI 0)),(5,(sI 1))],[],[],0⟩)],
 ar [],
 ar []⟩
theorem Mb:Has Tryz.prog 134 c_dx wZ:=fp (R:=al) (tr:=false) (E:=[]) (Φ:=ph []) (t:=t_dx) trivial Tryz.f134 h_dx (by kernel_rfl)
def c_df:Con:=⟨[.ro false [.list],.ro false [kI]],[⟨false,[.val],[kI],false⟩]⟩
def h_df:How:=⟨ar [(0,⟨[kI,kI],[(4,(.int .i64 (.n 0))),(1,(sI 0)),(5,(sI 1))],[],[],0⟩)],
 ar [],
 ar []⟩
theorem ER:Has Tryz.prog 92 c_df qc:=fp (R:=al) (tr:=false) (E:=[(134,0,c_dx)]) (Φ:=IY) (t:=t_df) ⟨Mb,trivial⟩ Tryz.f92 h_df (by kernel_rfl)
def c_ev:Con:=⟨[.ro true [.list,kI],.ro false [kI]],[⟨false,[.val],[kI],false⟩]⟩
theorem Mc:Has Tryz.prog 91 c_ev w8:=fp (R:=al) (tr:=false) (E:=[(92,0,c_df)]) (Φ:=IZ) (t:=t_ev) ⟨ER,trivial⟩ Tryz.f91 hE (by kernel_rfl)
def c_ci:Con:=⟨[.ro false [.list],.ro false [kI]],[⟨false,[.val],[kI],false⟩]⟩
def h_ci:How:=⟨ar [(0,⟨[kI,kI],[(4,(.int .i64 (.n 0))),(1,(sI 0)),(5,(sI 1))],[],[],0⟩)],
 ar [],
 ar []⟩
theorem ES:Has Tryz.prog 50 c_ci qd:=fp (R:=al) (tr:=false) (E:=[]) (Φ:=ph []) (t:=t_ci) trivial Tryz.f50 h_ci (by kernel_rfl)
def c_de:Con:=⟨[.ro true kD,.ro false [kI]],[⟨false,[.val],[kI],false⟩]⟩
theorem Md:Has Tryz.prog 48 c_de w9:=fp (R:=al) (tr:=false) (E:=[(91,0,c_ev),(50,1,c_ci)]) (Φ:=Ja) (t:=t_de) ⟨Mc,ES,trivial⟩ Tryz.f48 hE (by kernel_rfl)
def c_bx:Con:=⟨[.ro false [.list],.ro false [kI]],[⟨false,[.val],[kI],false⟩]⟩
def h_bx:How:=⟨ar [(0,⟨[kI,kI],[(4,(.int .i64 (.n 0))),(1,(sI 0)),(5,(sI 1))],[],[],0⟩)],
 ar [],
 ar []⟩
theorem Me:Has Tryz.prog 49 c_bx xa:=fp (R:=al) (tr:=false) (E:=[(92,0,c_df)]) (Φ:=Jb) (t:=t_bx) ⟨ER,trivial⟩ Tryz.f49 h_bx (by kernel_rfl)
def JR:Con:=⟨[.ro true kW,.ro false [kI]],[⟨false,[.val],[kI],false⟩]⟩
theorem zD:Has Tryz.prog 12 JR jC:=fp (R:=al) (tr:=false) (E:=[(48,0,c_de),(49,1,c_bx),(50,2,c_ci)]) (Φ:=Jc) (t:=t_ca) ⟨Md,Me,ES,trivial⟩ Tryz.f12 hE (by kernel_rfl)
def c_ej:Con:=⟨[.own true [.val,(.arr 162 v3),.val,(.arr 96 v4),(.arr 93 [.val,.val,.val,(.arr 162 v3),.val]),(.arr 96 v4)] kW false],[⟨true,[.val,(.arr 162 v3),.val,(.arr 96 v4),(.arr 93 [.val,.val,.val,(.arr 162 v3),.val]),(.arr 96 v4)],kW,false⟩]⟩
def h_ej:How:=⟨ar [(4,⟨[kI,.bool,kI,.list,.list,.list,.list],[(12,(sI 0))],[(4,.cells [(.bool (.v 1)),(.sl 1000),(sI 2),(.sl 1001),(.sl 1002),(.sl 1003)]),(1000,.arr 162 v3 (.v 3)),(1001,.arr 96 v4 (.v 4)),(1002,.arr 93 [.val,.val,.val,(.arr 162 v3),.val] (.v 5)),(1003,.arr 96 v4 (.v 6))],[10,11,12,13],4⟩),(2,⟨[kI,.bool,kI,.list,.list,.list,.list],[(5,(sI 0))],[(4,.cells [(.bool (.v 1)),(.sl 1000),(sI 2),(.sl 1001),(.sl 1002),(.sl 1003)]),(1000,.arr 162 v3 (.v 3)),(1001,.arr 96 v4 (.v 4)),(1002,.arr 93 [.val,.val,.val,(.arr 162 v3),.val] (.v 5)),(1003,.arr 96 v4 (.v 6))],[9,2,0,1],4⟩),(0,⟨[kI,.list],[(3,(sI 0))],[(2,.arr 93 [.val,.val,.val,(.arr 162 v3),.val] (.v 1))],[],0⟩)],
 ar [],
 ar []⟩
theorem Mf:Has Tryz.prog 34 c_ej xb:=fp (R:=bc) (tr:=false) (E:=[(63,0,c_dh),(64,1,c_em),(65,2,c_du)]) (Φ:=Jd) (t:=t_ej) ⟨Ea,Ec,Ed,trivial⟩ Tryz.f34 h_ej (by kernel_rfl)
def c_co:Con:=⟨[.ro true kW,.ro false [kI]],[⟨true,[.val,(.arr 162 v3),.val,(.arr 96 v4),(.arr 93 [.val,.val,.val,(.arr 162 v3),.val]),(.arr 96 v4)],kW,false⟩]⟩
def h_co:How:=⟨ar [(0,⟨[kI,.bool,kI,.list,.list,.list,.list],[(6,(sI 0))],[(6,.cells [(.bool (.v 1)),(.sl 1000),(sI 2),(.sl 1001),(.sl 1002),(.sl 1003)]),(1000,.arr 162 v3 (.v 3)),(1001,.arr 96 v4 (.v 4)),(1002,.arr 93 [.val,.val,.val,(.arr 162 v3),.val] (.v 5)),(1003,.arr 96 v4 (.v 6))],[2,3,4,5],4⟩)],
 ar [],
 ar []⟩
theorem Mg:Has Tryz.prog 7 c_co xc:=fp (R:=bc) (tr:=false) (E:=[(31,0,c_ef),(32,1,oP),(33,2,c_eg),(34,3,c_ej)]) (Φ:=Je) (t:=t_co) ⟨D4,el,D6,Mf,trivial⟩ Tryz.f7 h_co (by kernel_rfl)
theorem Mh:Has Tryz.prog 127 (fA 96) nJ:=Dp (ρ:=⟨fun _=>127,fun t=>match t with|22=>35|25=>96|3=>3|4=>4|9=>9|20=>20|_=>0,fun x=>x⟩) ⟨nT,⟨Tryz.f127.name,by kernel_rfl,by kernel_rfl⟩,by kernel_rfl,by kernel_rfl,by kernel_rfl,by kernel_rfl⟩ rfl
def c_aw:Con:=fA 96
def c_ar:Con:=⟨[.ro false [.list]],[⟨false,[(.arr 96 v4)],[.list],false⟩]⟩
def h_ar:How:=⟨ar [(2,⟨[kI,.list],[(6,(.sl 1000)),(27,(sI 0))],[(1000,.arr 96 v4 (.v 1))],[0],1⟩),(0,⟨[kI,kI],[(3,(sI 0)),(11,(sI 1))],[],[],0⟩)],
 ar [],
 ar []⟩
theorem Mi:Has Tryz.prog 80 c_ar xd:=fp (R:=al) (tr:=false) (E:=[(127,0,c_aw)]) (Φ:=Jf) (t:=t_ar) ⟨Mh,trivial⟩ Tryz.f80 h_ar (by kernel_rfl)
def c_ba:Con:=⟨[.ptr [.val,(.arr 162 [.val,.val,(.arr 3 [.val])]),.val,(.arr 96 v4),(.arr 93 [.val,.val,.val,(.arr 162 [.val,.val,(.arr 3 [.val])]),.val]),.val] kW,.ro true kJ],[⟨true,v4,kJ,false⟩,⟨false,[.val],[.bool],false⟩]⟩
theorem Mj:Has Tryz.prog 82 c_ba xe:=fp (R:=al) (tr:=false) (E:=[(120,0,En),(83,1,JN),(130,2,c_ct)]) (Φ:=Jg) (t:=t_ba) ⟨oX,zz,EG,trivial⟩ Tryz.f82 hE (by kernel_rfl)
def c_bk:Con:=⟨[.ptr [.val,(.arr 162 [.val,.val,(.arr 3 [.val])]),.val,(.arr 96 v4),(.arr 93 [.val,.val,.val,(.arr 162 [.val,.val,(.arr 3 [.val])]),.val]),(.arr 96 v4)] kW],[]⟩
def h_bk:How:=⟨ar [(4,⟨[kI,.bool,kI,.list,.list,.list,.list],[(49,(sI 0))],[(0,.cells [(.bool (.v 1)),(.sl 1000),(sI 2),(.sl 1001),(.sl 1002),(.sl 1003)]),(1000,.arr 162 [.val,.val,(.arr 3 [.val])] (.v 3)),(1001,.arr 96 v4 (.v 4)),(1002,.arr 93 [.val,.val,.val,(.arr 162 [.val,.val,(.arr 3 [.val])]),.val] (.v 5)),(1003,.arr 96 v4 (.v 6))],[11,12,13],4⟩),(2,⟨[kI,.bool,kI,.list,.list,.list,.list],[(29,(sI 0))],[(0,.cells [(.bool (.v 1)),(.sl 1000),(sI 2),(.sl 1001),(.sl 1002),(.view true (.v 3))]),(1000,.arr 162 [.val,.val,(.arr 3 [.val])] (.v 4)),(1001,.arr 96 v4 (.v 5)),(1002,.arr 93 [.val,.val,.val,(.arr 162 [.val,.val,(.arr 3 [.val])]),.val] (.v 6))],[5,6,7],3⟩),(0,⟨[kI,.bool,kI,.list,.list,.list,.list],[(9,(sI 0))],[(0,.cells [(.bool (.v 1)),(.sl 1000),(sI 2),(.sl 1001),(.sl 1002),(.sl 1003)]),(1000,.arr 162 [.val,.val,(.arr 3 [.val])] (.v 3)),(1001,.arr 96 v4 (.v 4)),(1002,.arr 93 [.val,.val,.val,(.arr 162 [.val,.val,(.arr 3 [.val])]),.val] (.v 5)),(1003,.arr 96 v4 (.v 6))],[1,2,3,4],4⟩)],
 ar [],
 ar []⟩
theorem Mk:Has Tryz.prog 41 c_bk xf:=fp (R:=al) (tr:=false) (E:=[(77,0,c_ab),(77,1,c_ac),(81,2,c_bl),(80,3,c_ar),(82,4,c_ba),(83,5,JN)]) (Φ:=Jh) (t:=t_bk) ⟨EI,EK,ED,Mi,Mj,zz,trivial⟩ Tryz.f41 h_bk (by kernel_rfl)
def c_cf:Con:=⟨[.ro true kW,.ro false [kI]],[⟨true,[.val,(.arr 162 [.val,.val,(.arr 3 [.val])]),.val,(.arr 96 v4),(.arr 93 [.val,.val,.val,(.arr 162 [.val,.val,(.arr 3 [.val])]),.val]),(.arr 96 v4)],kW,false⟩]⟩
def h_cf:How:=⟨ar [(0,⟨[kI,.bool,kI,.list,.list,.list,.list],[(18,(sI 0))],[(6,.cells [(.bool (.v 1)),(.sl 1000),(sI 2),(.sl 1001),(.sl 1002),(.sl 1003)]),(1000,.arr 162 [.val,.val,(.arr 3 [.val])] (.v 3)),(1001,.arr 96 v4 (.v 4)),(1002,.arr 93 [.val,.val,.val,(.arr 162 [.val,.val,(.arr 3 [.val])]),.val] (.v 5)),(1003,.arr 96 v4 (.v 6))],[2,3,4,5],4⟩)],
 ar [],
 ar []⟩
theorem Ml:Has Tryz.prog 9 c_cf s5:=fp (R:=al) (tr:=false) (E:=[(38,0,c_fs),(39,1,kY),(40,2,c_bb),(41,3,c_bk)]) (Φ:=Ji) (t:=t_cf) ⟨Et,dm,Ey,Mk,trivial⟩ Tryz.f9 h_cf (by kernel_rfl)
def c_dn:Con:=⟨[.ro false [.list],.ro false [kI]],[⟨false,[.val],[kI],false⟩]⟩
def h_dn:How:=⟨ar [(0,⟨[kI,kI],[(1,(sI 0)),(4,(.int .i64 (.n 0))),(5,(sI 1))],[],[],0⟩)],
 ar [],
 ar []⟩
theorem Mm:Has Tryz.prog 13 c_dn xg:=fp (R:=al) (tr:=false) (E:=[(22,0,c_ft)]) (Φ:=Jk) (t:=t_dn) ⟨DS,trivial⟩ Tryz.f13 h_dn (by kernel_rfl)
def c_do:Con:=⟨[.ro false [.list]],[⟨false,[(.arr 63 [.val,.val,.val,(.arr 3 [.val])])],[.list],false⟩]⟩
def h_do:How:=⟨ar [(0,⟨[kI,.list],[(4,(sI 0))],[(0,.arr 63 [.val,.val,.val,(.arr 3 [.val])] (.v 1))],[],0⟩)],
 ar [],
 ar []⟩
theorem Mn:Has Tryz.prog 16 c_do xh:=fp (R:=al) (tr:=false) (E:=[(24,0,c_eu)]) (Φ:=Jl) (t:=t_do) ⟨DW,trivial⟩ Tryz.f16 h_do (by kernel_rfl)
def c_fq:Con:=⟨[],[⟨true,[.val,(.arr 162 v3),.val,(.arr 96 v4)],kD,false⟩]⟩
theorem Mo:Has Tryz.prog 93 c_fq xi:=fp (R:=bc) (tr:=false) (E:=[]) (Φ:=ph []) (t:=t_fq) trivial Tryz.f93 hE (by kernel_rfl)
def c_db:Con:=⟨[.ro false [kI],.ro false [kI]],[⟨true,[.val,.val,.val,(.arr 162 v3),.val],kH,false⟩,⟨false,[.val],[.bool],false⟩]⟩
theorem Mp:Has Tryz.prog 94 c_db xj:=fp (R:=bc) (tr:=false) (E:=[(135,0,c_dg),(32,1,oP)]) (Φ:=Jm) (t:=t_db) ⟨D1,el,trivial⟩ Tryz.f94 hE (by kernel_rfl)
def c_ec:Con:=⟨[.ro false [.list]],[⟨true,[.val,(.arr 162 v3),.val,(.arr 96 v4),(.arr 93 [.val,.val,.val,(.arr 162 v3),.val]),(.arr 96 v4)],kW,false⟩,⟨false,[.val],[.bool],false⟩]⟩
def h_ec:How:=⟨ar [(0,⟨[kI,.list],[(3,(.bool (.b false))),(5,(sI 0))],[(4,.cells [(.bool (.v 1001)),(.sl 1),(sI 1003),(.sl 2),(.sl 1000),(.sl 3)]),(1000,.arr 93 [.val,.val,.val,(.arr 162 v3),.val] (.v 1))],[],1⟩)],
 ar [],
 ar []⟩
theorem Mq:Has Tryz.prog 51 c_ec xk:=fp (R:=bc) (tr:=false) (E:=[(93,0,c_fq),(94,1,c_db)]) (Φ:=Jn) (t:=t_ec) ⟨Mo,Mp,trivial⟩ Tryz.f51 h_ec (by kernel_rfl)
def c_cp:Con:=⟨[.ro false [.list],.ro false [.list]],[⟨true,[.val,.val,.val,.val,.val,.val],kW,false⟩,⟨false,[.val],[.bool],false⟩]⟩
def h_cp:How:=⟨ar [(0,⟨[kI,.bool,kI,.list,.list,.list,.list],[(8,(sI 0))],[(5,.cells [(.bool (.v 1)),(.sl 1000),(sI 2),(.sl 1001),(.sl 1002),(.sl 1003)]),(1000,.arr 162 v3 (.v 3)),(1001,.arr 96 v4 (.v 4)),(1002,.arr 93 [.val,.val,.val,(.arr 162 v3),.val] (.v 5)),(1003,.arr 96 v4 (.v 6))],[1,2,3,4],4⟩)],
 ar [],
 ar []⟩
theorem Mr:Has Tryz.prog 14 c_cp xl:=fp (R:=bc) (tr:=false) (E:=[(51,0,c_ec),(52,1,c_hc)]) (Φ:=Jo) (t:=t_cp) ⟨Mq,Ef,trivial⟩ Tryz.f14 h_cp (by kernel_rfl)
def c_ey:Con:=⟨[],[⟨true,[.val,(.arr 162 [.val,.val,(.arr 3 [.val])]),.val,(.arr 96 v4)],kD,false⟩]⟩
theorem Ms:Has Tryz.prog 98 c_ey xm:=fp (R:=al) (tr:=false) (E:=[]) (Φ:=ph []) (t:=t_ey) trivial Tryz.f98 hE (by kernel_rfl)
def c_ed:Con:=⟨[.ro false [kI],.ro false [kI]],[⟨true,[.val,.val,.val,(.arr 162 [.val,.val,(.arr 3 [.val])]),.val],kH,false⟩,⟨false,[.val],[.bool],false⟩]⟩
theorem Mt:Has Tryz.prog 99 c_ed xn:=fp (R:=al) (tr:=false) (E:=[(122,0,Ch),(39,1,kY)]) (Φ:=Jp) (t:=t_ed) ⟨lQ,dm,trivial⟩ Tryz.f99 hE (by kernel_rfl)
def c_cz:Con:=⟨[.ro false [.list]],[⟨true,[.val,(.arr 162 [.val,.val,(.arr 3 [.val])]),.val,(.arr 96 v4),(.arr 93 [.val,.val,.val,(.arr 162 [.val,.val,(.arr 3 [.val])]),.val]),(.arr 96 v4)],kW,false⟩,⟨false,[.val],[.bool],false⟩]⟩
def h_cz:How:=⟨ar [(0,⟨[kI,.list],[(3,(.bool (.b false))),(17,(sI 0))],[(3,.cells [(.bool (.v 1003)),(.sl 1),(sI 1005),(.sl 2),(.sl 1000),.nil]),(1000,.arr 93 [.val,.val,.val,(.arr 162 [.val,.val,(.arr 3 [.val])]),.val] (.v 1))],[],1⟩)],
 ar [],
 ar []⟩
theorem Mu:Has Tryz.prog 53 c_cz xo:=fp (R:=al) (tr:=false) (E:=[(98,0,c_ey),(99,1,c_ed)]) (Φ:=Jq) (t:=t_cz) ⟨Ms,Mt,trivial⟩ Tryz.f53 h_cz (by kernel_rfl)
def c_cb:Con:=⟨[.ro false [.list],.ro false [.list]],[⟨true,[.val,(.arr 162 [.val,.val,(.arr 3 [.val])]),.val,(.arr 96 v4),(.arr 93 [.val,.val,.val,(.arr 162 [.val,.val,(.arr 3 [.val])]),.val]),(.arr 96 v4)],kW,false⟩,⟨false,[.val],[.bool],false⟩]⟩
def h_cb:How:=⟨ar [(0,⟨[kI,.bool,kI,.list,.list,.list,.list],[(25,(sI 0))],[(5,.cells [(.bool (.v 1)),(.sl 1000),(sI 2),(.sl 1001),(.sl 1002),(.sl 1003)]),(1000,.arr 162 [.val,.val,(.arr 3 [.val])] (.v 3)),(1001,.arr 96 v4 (.v 4)),(1002,.arr 93 [.val,.val,.val,(.arr 162 [.val,.val,(.arr 3 [.val])]),.val] (.v 5)),(1003,.arr 96 v4 (.v 6))],[1,2,3,4],4⟩)],
 ar [],
 ar []⟩
theorem Mv:Has Tryz.prog 17 c_cb xp:=fp (R:=al) (tr:=false) (E:=[(53,0,c_cz),(54,1,c_eb)]) (Φ:=Jr) (t:=t_cb) ⟨Mu,EL,trivial⟩ Tryz.f17 h_cb (by kernel_rfl)
def c_ea:Con:=⟨[.ro false [.list],.ro false [.list]],[⟨false,[.val],[.bool],false⟩]⟩
def h_ea:How:=⟨ar [(0,⟨[kI],[(4,(.bool (.b false))),(5,(sI 0))],[],[],0⟩)],
 ar [],
 ar []⟩
theorem Mw:Has Tryz.prog 19 c_ea xq:=fp (R:=al) (tr:=false) (E:=[(26,0,c_eo)]) (Φ:=Js) (t:=t_ea) ⟨EO,trivial⟩ Tryz.f19 h_ea (by kernel_rfl)
def c_bn:Con:=⟨[.own false [(.arr 63 [.val,.val,.val,(.arr 3 [.val])])] [.list] true,.ro false [kI]],[⟨false,[.val],[kI],false⟩]⟩
def h_bn:How:=⟨ar [(0,⟨[kI,kI,.list],[(1,(sI 0)),(5,(sI 1))],[(0,.arr 63 [.val,.val,.val,(.arr 3 [.val])] (.v 2))],[],0⟩)],
 ar [],
 ar []⟩
theorem Mx:Has Tryz.prog 21 c_bn xr:=fp (R:=al) (tr:=false) (E:=[(20,0,Gh)]) (Φ:=Jt) (t:=t_bn) ⟨tx,trivial⟩ Tryz.f21 h_bn (by kernel_rfl)
end Dx
