import Derived.Test.YtkpnlbinfagpcaaGreatProg
import Derived.Test.YtkpnlbinfagpcaaGreatXe
import Derived.Test.YtkpnlbinfagpcaaGreatYb
set_option linter.all false
namespace Dx
open Go
def tab:List (Nat×TI) :=
 [(3,⟨.int .i64,1,false,[.int .i64 (.n 0)],8⟩),
   (4,⟨.bool,1,false,[.bool (.b false)],1⟩),
   (5,⟨.int .u8,1,false,[.int .u8 (.n 0)],1⟩),
   (9,⟨.str,1,false,[.str (.s ⟨#[]⟩)],16⟩),
   (22,⟨.slice 170,1,false,[.nil],24⟩),
   (24,⟨.struct [(0,1,false),(1,1,false)],2,true,[.nil,.int .i64 (.n 0)],32⟩),
   (25,⟨.slice 105,1,false,[.nil],24⟩),
   (27,⟨.struct [(0,1,false),(1,2,true),(3,1,false)],4,true,[.bool (.b false),.nil,.int .i64 (.n 0),.nil],64⟩),
   (28,⟨.slice 89,1,false,[.nil],24⟩),
   (30,⟨.struct [(0,4,true),(4,1,false),(5,1,false)],6,true,[.bool (.b false),.nil,.int .i64 (.n 0),.nil,.nil,.nil],112⟩),
   (32,⟨.slice 162,1,false,[.nil],24⟩),
   (34,⟨.struct [(0,1,false),(1,1,false)],2,true,[.nil,.int .i64 (.n 0)],32⟩),
   (35,⟨.slice 96,1,false,[.nil],24⟩),
   (37,⟨.struct [(0,1,false),(1,2,true),(3,1,false)],4,true,[.bool (.b false),.nil,.int .i64 (.n 0),.nil],64⟩),
   (38,⟨.slice 93,1,false,[.nil],24⟩),
   (40,⟨.struct [(0,4,true),(4,1,false),(5,1,false)],6,true,[.bool (.b false),.nil,.int .i64 (.n 0),.nil,.nil,.nil],112⟩),
   (46,⟨.slice 3,1,false,[.nil],24⟩),
   (47,⟨.slice 60,1,false,[.nil],24⟩),
   (52,⟨.slice 63,1,false,[.nil],24⟩),
   (60,⟨.struct [(0,1,false),(1,1,false),(2,1,false),(3,1,false)],4,true,[.int .i64 (.n 0),.int .i64 (.n 0),.int .i64 (.n 0),.nil],48⟩),
   (63,⟨.struct [(0,1,false),(1,1,false),(2,1,false),(3,1,false)],4,true,[.int .i64 (.n 0),.int .i64 (.n 0),.int .i64 (.n 0),.nil],48⟩),
   (89,⟨.struct [(0,1,false),(1,1,false),(2,1,false),(3,2,true)],5,true,[.int .i64 (.n 0),.bool (.b false),.int .i64 (.n 0),.nil,.int .i64 (.n 0)],56⟩),
   (93,⟨.struct [(0,1,false),(1,1,false),(2,1,false),(3,2,true)],5,true,[.int .i64 (.n 0),.bool (.b false),.int .i64 (.n 0),.nil,.int .i64 (.n 0)],56⟩),
   (96,⟨.struct [(0,1,false),(1,1,false),(2,1,false),(3,1,false)],4,true,[.int .i64 (.n 0),.int .i64 (.n 0),.int .i64 (.n 0),.int .i64 (.n 0)],32⟩),
   (105,⟨.struct [(0,1,false),(1,1,false),(2,1,false),(3,1,false)],4,true,[.int .i64 (.n 0),.int .i64 (.n 0),.int .i64 (.n 0),.int .i64 (.n 0)],32⟩),
   (130,⟨.slice 143,1,false,[.nil],24⟩),
   (135,⟨.slice 181,1,false,[.nil],24⟩),
   (137,⟨.struct [(0,1,false),(1,1,false)],2,true,[.int .i64 (.n 0),.nil],32⟩),
   (143,⟨.struct [(0,1,false),(1,1,false)],2,true,[.nil,.int .i64 (.n 0)],32⟩),
   (152,⟨.slice 35,1,false,[.nil],24⟩),
   (154,⟨.arr 2 3,2,true,[.int .i64 (.n 0),.int .i64 (.n 0)],16⟩),
   (155,⟨.map 3 154,1,false,[.any],8⟩),
   (162,⟨.struct [(0,1,false),(1,1,false),(2,1,false)],3,true,[.int .i64 (.n 0),.int .i64 (.n 0),.nil],40⟩),
   (170,⟨.struct [(0,1,false),(1,1,false),(2,1,false)],3,true,[.int .i64 (.n 0),.int .i64 (.n 0),.nil],40⟩),
   (181,⟨.struct [(0,1,false),(1,1,false)],2,true,[.int .i64 (.n 0),.int .i64 (.n 0)],16⟩)]
def tab':Tab:=yy tab
theorem Kn:bM Proofs.Tryz.prog (yy tab):=Gw (by kernel_rfl)
end Dx
namespace Dx
open Go Go.Proofs
def eqs:List (Nat×Nat):=[(96,4),(181,2)]
theorem Ko:Cg Tryz.prog (AO eqs):=MI (by kernel_rfl)
theorem nQ:Tryz.prog.follows .mixedOrders=true:=by kernel_rfl
def bc:List (Nat×List Sh):=[(93,[.val,.val,.val,(.arr 162 [.val,.val,.val]),.val])]
def al:List (Nat×List Sh):=[(162,[.val,.val,(.arr 3 [.val])]),(93,[.val,.val,.val,(.arr 162 [.val,.val,(.arr 3 [.val])]),.val]),(63,[.val,.val,.val,(.arr 3 [.val])])]
def tn(fn:Func):Code:=match fn.body with
 | some b=>b
 | none=>.skip
def bs:List (Nat×Bool×Nat×Nat):=[]
set_option maxRecDepth 100000 in
theorem bs_ok:∀ p∈bs,ym Tryz.prog p.1 p.2:=by
 intro p hp
 simp only[bs,List.mem_cons,List.not_mem_nil,or_false]at hp
def gE(R:List (Nat×List Sh))(tr:Bool)(E:List (Nat×Nat×Con)):Env:=⟨yy tab,AO eqs,getR R,E4 E,tr,Gx bs⟩
abbrev hE:How:=⟨ar [],ar [],ar []⟩
abbrev sI(n:Nat):SV:=.int .i64 (.v n)
theorem fo{G:Env}{Φ:Phi}(hG:EnvOk Tryz.prog G Φ){f:FuncId}(fn:Func){c:Con}(H:How){t:Tree}(h:(Tryz.prog.funcs[f]?,fn.body,fn.name== "runtime.NumGoroutine",fnT G H c fn (tn fn))=(some fn,some (tn fn),false,t)):Has Tryz.prog f c (fun cs=>ah (den Φ t cs)):=by
 simp only[Prod.mk.injEq]at h
 exact fn_ok hG h.1 h.2.1 h.2.2.1 h.2.2.2
theorem eo{E:Nat->List (Nat×Con)}{R:Rows}{tr:Bool}{Φ:Phi}(h:∀ f c,c∈E f->Has Tryz.prog f c.2 (Φ c.1)):EnvOk Tryz.prog ⟨yy tab,AO eqs,R,E,tr,Gx bs⟩ Φ:=⟨Kn,Ko,h,nQ,AP bs_ok⟩
theorem fp{E:List (Nat×Nat×Con)}{R:List (Nat×List Sh)}{tr:Bool}{Φ:Phi}(m:zK Tryz.prog Φ E){f:FuncId}(fn:Func){c:Con}(H:How){t:Tree}(h:(Tryz.prog.funcs[f]?,fn.body,fn.name== "runtime.NumGoroutine",fnT (gE R tr E) H c fn (tn fn))=(some fn,some (tn fn),false,t)):Has Tryz.prog f c (fun cs=>ah (den Φ t cs)):=fo (eo (rY (nF m))) fn H h
abbrev v5:List Sh:=[.val,.val,.val,.val,.val]
abbrev v4:List Sh:=[.val,.val,.val,.val]
abbrev v3:List Sh:=[.val,.val,.val]
abbrev kW:List CK:=[.bool,.list,kI,.list,.list,.list]
abbrev kD:List CK:=[.bool,.list,kI,.list]
abbrev kH:List CK:=[kI,.bool,kI,.list,kI]
abbrev kJ:List CK:=[kI,kI,kI,kI]
def c_gn:Con:=⟨[.ro false [.list],.ro false [kI]],[⟨false,[.val],[kI],false⟩]⟩
theorem DK:Has Tryz.prog 55 c_gn pe:=fp (R:=al) (tr:=false) (E:=[]) (Φ:=ph []) (t:=t_gn) trivial Tryz.f55 hE (by kernel_rfl)
def c_hk:Con:=⟨[.ro true [kI,kI,.list],.ro false [kI]],[⟨false,[.val],[kI],false⟩]⟩
theorem Kp:Has Tryz.prog 146 c_hk vq:=fp (R:=al) (tr:=false) (E:=[(55,0,c_gn)]) (Φ:=Gy) (t:=t_hk) ⟨DK,trivial⟩ Tryz.f146 hE (by kernel_rfl)
def c_fx:Con:=⟨[.ro false [.list],.ro false [kI]],[⟨false,[.val],[kI],false⟩]⟩
def h_fx:How:=⟨ar [(0,⟨[kI,kI],[(1,(sI 0)),(4,(.int .i64 (.n 0))),(5,(sI 1))],[],[],0⟩)],
 ar [],
 ar []⟩
theorem Kq:Has Tryz.prog 108 c_fx vr:=fp (R:=al) (tr:=false) (E:=[(146,0,c_hk)]) (Φ:=Gz) (t:=t_fx) ⟨Kp,trivial⟩ Tryz.f108 h_fx (by kernel_rfl)
def c_hh:Con:=⟨[.ro true [.list,kI],.ro false [kI]],[⟨false,[.val],[kI],false⟩]⟩
theorem DL:Has Tryz.prog 56 c_hh pf:=fp (R:=al) (tr:=false) (E:=[(108,0,c_fx)]) (Φ:=GA) (t:=t_hh) ⟨Kq,trivial⟩ Tryz.f56 hE (by kernel_rfl)
def c_fn:Con:=⟨[.ro false [.list],.ro false [kI]],[⟨false,[.val],[kI],false⟩]⟩
theorem DM:Has Tryz.prog 30 c_fn pg:=fp (R:=al) (tr:=false) (E:=[]) (Φ:=ph []) (t:=t_fn) trivial Tryz.f30 hE (by kernel_rfl)
def c_gm:Con:=⟨[.ro true kD,.ro false [kI]],[⟨false,[.val],[kI],false⟩]⟩
theorem Kr:Has Tryz.prog 28 c_gm vu:=fp (R:=al) (tr:=false) (E:=[(56,0,c_hh),(30,1,c_fn)]) (Φ:=GB) (t:=t_gm) ⟨DL,DM,trivial⟩ Tryz.f28 hE (by kernel_rfl)
def c_er:Con:=⟨[.ro true kH,.ro false [kI]],[⟨false,[.val],[kI],false⟩]⟩
theorem Ks:Has Tryz.prog 57 c_er vv:=fp (R:=al) (tr:=false) (E:=[(56,0,c_hh)]) (Φ:=GD) (t:=t_er) ⟨DL,trivial⟩ Tryz.f57 hE (by kernel_rfl)
def c_eb:Con:=⟨[.ro false [.list],.ro false [kI]],[⟨false,[.val],[kI],false⟩]⟩
def h_eb:How:=⟨ar [(0,⟨[kI,kI],[(1,(sI 0)),(4,(.int .i64 (.n 0))),(5,(sI 1))],[],[],0⟩)],
 ar [],
 ar []⟩
theorem Kt:Has Tryz.prog 29 c_eb vx:=fp (R:=al) (tr:=false) (E:=[(57,0,c_er)]) (Φ:=GE) (t:=t_eb) ⟨Ks,trivial⟩ Tryz.f29 h_eb (by kernel_rfl)
def c_ez:Con:=⟨[.ro true kW,.ro false [kI]],[⟨false,[.val],[kI],false⟩]⟩
theorem DN:Has Tryz.prog 6 c_ez pi:=fp (R:=al) (tr:=false) (E:=[(28,0,c_gm),(29,1,c_eb),(30,2,c_fn)]) (Φ:=GF) (t:=t_ez) ⟨Kr,Kt,DM,trivial⟩ Tryz.f6 hE (by kernel_rfl)
def c_fi:Con:=⟨[.ro true [kI,kI,kI,.list],.ro false [kI]],[⟨false,[.val],[kI],false⟩]⟩
theorem DO:Has Tryz.prog 22 c_fi pj:=fp (R:=al) (tr:=false) (E:=[(55,0,c_gn)]) (Φ:=GG) (t:=t_fi) ⟨DK,trivial⟩ Tryz.f22 hE (by kernel_rfl)
def JA:Con:=⟨[.ro false [.list]],[⟨false,[(.arr 3 [.val])],[.list],false⟩]⟩
def h_gs:How:=⟨ar [(0,⟨[kI,.list],[(4,(sI 0))],[(0,.arr 3 [.val] (.v 1))],[],0⟩)],
 ar [],
 ar []⟩
theorem zq:Has Tryz.prog 15 JA ln:=fp (R:=al) (tr:=false) (E:=[]) (Φ:=ph []) (t:=t_gs) trivial Tryz.f15 h_gs (by kernel_rfl)
def c_hd:Con:=⟨[.ro true [kI,kI,.list]],[⟨true,[.val,.val,(.arr 3 [.val])],[kI,kI,.list],false⟩]⟩
theorem Ku:Has Tryz.prog 157 c_hd vy:=fp (R:=al) (tr:=false) (E:=[(15,0,JA)]) (Φ:=GH) (t:=t_hd) ⟨zq,trivial⟩ Tryz.f157 hE (by kernel_rfl)
def c_fz:Con:=⟨[.ro false [.list]],[⟨false,[(.arr 162 [.val,.val,(.arr 3 [.val])])],[.list],false⟩]⟩
def h_fz:How:=⟨ar [(0,⟨[kI,.list],[(4,(sI 0))],[(0,.arr 162 [.val,.val,(.arr 3 [.val])] (.v 1))],[],0⟩)],
 ar [],
 ar []⟩
theorem Kv:Has Tryz.prog 117 c_fz vz:=fp (R:=al) (tr:=false) (E:=[(157,0,c_hd)]) (Φ:=GI) (t:=t_fz) ⟨Ku,trivial⟩ Tryz.f117 h_fz (by kernel_rfl)
def c_ha:Con:=⟨[.ro true [.list,kI]],[⟨true,[(.arr 162 [.val,.val,(.arr 3 [.val])]),.val],[.list,kI],false⟩]⟩
theorem DP:Has Tryz.prog 66 c_ha pl:=fp (R:=al) (tr:=false) (E:=[(117,0,c_fz)]) (Φ:=GJ) (t:=t_ha) ⟨Kv,trivial⟩ Tryz.f66 hE (by kernel_rfl)
def c_gf:Con:=⟨[.ro true kJ],[⟨true,v4,kJ,false⟩]⟩
theorem Kw:Has Tryz.prog 68 c_gf vA:=fp (R:=al) (tr:=false) (E:=[]) (Φ:=ph []) (t:=t_gf) trivial Tryz.f68 hE (by kernel_rfl)
def c_eh:Con:=⟨[.ro false [.list]],[⟨false,[(.arr 96 v4)],[.list],false⟩]⟩
def h_eh:How:=⟨ar [(0,⟨[kI,.list],[(4,(sI 0))],[(0,.arr 96 v4 (.v 1))],[],0⟩)],
 ar [],
 ar []⟩
theorem DQ:Has Tryz.prog 37 c_eh pm:=fp (R:=al) (tr:=false) (E:=[(68,0,c_gf)]) (Φ:=GK) (t:=t_eh) ⟨Kw,trivial⟩ Tryz.f37 h_eh (by kernel_rfl)
def c_ga:Con:=⟨[.ro true kD],[⟨true,[.val,(.arr 162 [.val,.val,(.arr 3 [.val])]),.val,(.arr 96 v4)],kD,false⟩]⟩
theorem Kx:Has Tryz.prog 35 c_ga vC:=fp (R:=al) (tr:=false) (E:=[(66,0,c_ha),(37,1,c_eh)]) (Φ:=GL) (t:=t_ga) ⟨DP,DQ,trivial⟩ Tryz.f35 hE (by kernel_rfl)
def c_ee:Con:=⟨[.ro true kH],[⟨true,[.val,.val,.val,(.arr 162 [.val,.val,(.arr 3 [.val])]),.val],kH,false⟩]⟩
theorem Ky:Has Tryz.prog 67 c_ee vD:=fp (R:=al) (tr:=false) (E:=[(66,0,c_ha)]) (Φ:=GM) (t:=t_ee) ⟨DP,trivial⟩ Tryz.f67 hE (by kernel_rfl)
def c_db:Con:=⟨[.ro false [.list]],[⟨false,[(.arr 93 [.val,.val,.val,(.arr 162 [.val,.val,(.arr 3 [.val])]),.val])],[.list],false⟩]⟩
def h_db:How:=⟨ar [(0,⟨[kI,.list],[(4,(sI 0))],[(0,.arr 93 [.val,.val,.val,(.arr 162 [.val,.val,(.arr 3 [.val])]),.val] (.v 1))],[],0⟩)],
 ar [],
 ar []⟩
theorem Kz:Has Tryz.prog 36 c_db vE:=fp (R:=al) (tr:=false) (E:=[(67,0,c_ee)]) (Φ:=GN) (t:=t_db) ⟨Ky,trivial⟩ Tryz.f36 h_db (by kernel_rfl)
def c_ef:Con:=⟨[.ro true kW],[⟨true,[.val,(.arr 162 [.val,.val,(.arr 3 [.val])]),.val,(.arr 96 v4),(.arr 93 [.val,.val,.val,(.arr 162 [.val,.val,(.arr 3 [.val])]),.val]),(.arr 96 v4)],kW,false⟩]⟩
theorem DR:Has Tryz.prog 8 c_ef pn:=fp (R:=al) (tr:=false) (E:=[(35,0,c_ga),(36,1,c_db),(37,2,c_eh)]) (Φ:=GO) (t:=t_ef) ⟨Kx,Kz,DQ,trivial⟩ Tryz.f8 hE (by kernel_rfl)
def c_fb:Con:=⟨[.ro true [kI,kI,kI,.list]],[⟨true,[.val,.val,.val,(.arr 3 [.val])],[kI,kI,kI,.list],false⟩]⟩
theorem DS:Has Tryz.prog 24 c_fb po:=fp (R:=al) (tr:=false) (E:=[(15,0,JA)]) (Φ:=GP) (t:=t_fb) ⟨zq,trivial⟩ Tryz.f24 hE (by kernel_rfl)
def oN:Con:=⟨[.ro false [kI],.ro false [kI],.ro false [kI]],[⟨false,[.val],[.bool],false⟩]⟩
theorem ej:Has Tryz.prog 32 oN bY:=fp (R:=bc) (tr:=false) (E:=[]) (Φ:=ph []) (t:=t_hn) trivial Tryz.f32 hE (by kernel_rfl)
def c_gk:Con:=⟨[.ro false [.list]],[⟨false,[.val],[.bool],false⟩]⟩
def h_gk:How:=⟨ar [(0,⟨[kI,kI],[(2,(.bool (.b false))),(3,(sI 0)),(4,(sI 1))],[],[],0⟩)],
 ar [],
 ar []⟩
theorem KA:Has Tryz.prog 173 c_gk vF:=fp (R:=bc) (tr:=false) (E:=[(32,0,oN)]) (Φ:=GQ) (t:=t_gk) ⟨ej,trivial⟩ Tryz.f173 h_gk (by kernel_rfl)
def F7:Con:=⟨[.ro true [kI,kI,.list]],[⟨false,[.val],[.bool],false⟩]⟩
theorem tp:Has Tryz.prog 136 F7 iI:=fp (R:=bc) (tr:=false) (E:=[(32,0,oN),(173,1,c_gk)]) (Φ:=GR) (t:=t_hl) ⟨ej,KA,trivial⟩ Tryz.f136 hE (by kernel_rfl)
def c_gg:Con:=⟨[.ro false [.list],.ro true [kI,kI,.list]],[⟨false,[.val],[.bool],false⟩]⟩
theorem DT:Has Tryz.prog 147 c_gg pp:=fp (R:=bc) (tr:=false) (E:=[]) (Φ:=ph []) (t:=t_gg) trivial Tryz.f147 hE (by kernel_rfl)
def jq:Con:=⟨[.own false [(.arr 143 [.val,.val])] [.list] false,.ro true [kI,kI,.list]],[⟨false,[(.arr 143 [.val,.val])],[.list],false⟩]⟩
theorem l6:Has Tryz.prog 148 jq cT:=fp (R:=bc) (tr:=false) (E:=[]) (Φ:=ph []) (t:=jk) trivial Tryz.f148 hE (by kernel_rfl)
def c_hf:Con:=⟨[.ro false [.list]],[⟨false,[.val],[.list],false⟩,⟨false,[.val],[.bool],false⟩]⟩
def h_hf:How:=⟨ar [(0,⟨[kI,.list],[(2,.nil),(3,(.bool (.b false))),(4,(.sl 1000)),(5,(sI 0))],[(1000,.arr 143 [.val,.val] (.v 1))],[0],1⟩)],
 ar [],
 ar []⟩
theorem DU:Has Tryz.prog 109 c_hf lp:=fp (R:=bc) (tr:=false) (E:=[(136,0,F7),(147,1,c_gg),(148,2,jq)]) (Φ:=GS) (t:=t_hf) ⟨tp,DT,l6,trivial⟩ Tryz.f109 h_hf (by kernel_rfl)
def c_gy:Con:=⟨[.ro true [.list,kI]],[⟨false,[.val],[.bool],false⟩]⟩
def h_gy:How:=⟨ar [(0,⟨[kI],[(2,(.bool (.b false))),(3,(sI 0))],[],[],0⟩)],
 ar [],
 ar []⟩
theorem DV:Has Tryz.prog 110 c_gy pq:=fp (R:=bc) (tr:=false) (E:=[(136,0,F7),(32,1,oN)]) (Φ:=GT) (t:=t_gy) ⟨tp,ej,trivial⟩ Tryz.f110 h_gy (by kernel_rfl)
def F8:Con:=⟨[.ro true kJ],[⟨false,[.val],[.bool],false⟩]⟩
theorem tq:Has Tryz.prog 60 F8 iJ:=fp (R:=bc) (tr:=false) (E:=[(32,0,oN)]) (Φ:=GU) (t:=t_fy) ⟨ej,trivial⟩ Tryz.f60 hE (by kernel_rfl)
def DW:Con:=⟨[.ro false [.list],.ro true kJ],[⟨false,[.val],[.bool],false⟩]⟩
def h_fd:How:=⟨ar [(0,⟨[kI],[(4,(.bool (.b false))),(5,(sI 0))],[],[],0⟩)],
 ar [],
 ar []⟩
theorem oO:Has Tryz.prog 111 DW gv:=fp (R:=bc) (tr:=false) (E:=[]) (Φ:=ph []) (t:=t_fd) trivial Tryz.f111 h_fd (by kernel_rfl)
def c_gi:Con:=⟨[.ro true kD],[⟨false,[.val],[.bool],false⟩]⟩
def h_gi:How:=⟨ar [(0,⟨[kI],[(2,(.bool (.b false))),(5,(sI 0))],[],[],0⟩)],
 ar [],
 ar []⟩
theorem KB:Has Tryz.prog 58 c_gi vG:=fp (R:=bc) (tr:=false) (E:=[(109,0,c_hf),(110,1,c_gy),(60,2,F8),(111,3,DW)]) (Φ:=GV) (t:=t_gi) ⟨DU,DV,tq,oO,trivial⟩ Tryz.f58 h_gi (by kernel_rfl)
def c_dq:Con:=⟨[.ro false [kI]],[⟨true,[.val,(.arr 181 [.val,.val])],[kI,.list],false⟩,⟨false,[.val],[.bool],false⟩]⟩
theorem DX:Has Tryz.prog 135 c_dq pr:=fp (R:=bc) (tr:=false) (E:=[(32,0,oN)]) (Φ:=GW) (t:=t_dq) ⟨ej,trivial⟩ Tryz.f135 hE (by kernel_rfl)
def c_gt:Con:=⟨[.ro true [kI,.list]],[⟨false,[.val],[kI],false⟩]⟩
def h_gt:How:=⟨ar [(0,⟨[kI,kI],[(3,(sI 0)),(4,(sI 1))],[],[],0⟩)],
 ar [],
 ar []⟩
theorem KC:Has Tryz.prog 176 c_gt vH:=fp (R:=bc) (tr:=false) (E:=[]) (Φ:=ph []) (t:=t_gt) trivial Tryz.f176 h_gt (by kernel_rfl)
def c_hj:Con:=⟨[.ro true [kI,.list],.ro true [kI,kI,.list]],[⟨false,[.val],[.bool],false⟩]⟩
theorem DY:Has Tryz.prog 149 c_hj pu:=fp (R:=bc) (tr:=false) (E:=[(176,0,c_gt)]) (Φ:=GX) (t:=t_hj) ⟨KC,trivial⟩ Tryz.f149 hE (by kernel_rfl)
def kU:Con:=⟨[.own true [.val,(.arr 181 [.val,.val])] [kI,.list] false,.ro true [kI,kI,.list]],[⟨true,[.val,(.arr 181 [.val,.val])],[kI,.list],false⟩]⟩
theorem oP:Has Tryz.prog 150 kU db:=fp (R:=bc) (tr:=false) (E:=[]) (Φ:=ph []) (t:=kM) trivial Tryz.f150 hE (by kernel_rfl)
def c_hm:Con:=⟨[.ro false [kI],.ro false [.list]],[⟨true,[.val,.val],[kI,.list],false⟩,⟨false,[.val],[.bool],false⟩]⟩
def h_hm:How:=⟨ar [(0,⟨[kI,kI,.list],[(5,(.bool (.b false))),(8,(sI 0))],[(2,.cells [(sI 1),(.sl 1000)]),(1000,.arr 181 [.val,.val] (.v 2))],[1],1⟩)],
 ar [],
 ar []⟩
theorem DZ:Has Tryz.prog 112 c_hm lq:=fp (R:=bc) (tr:=false) (E:=[(135,0,c_dq),(136,1,F7),(149,2,c_hj),(150,3,kU)]) (Φ:=GY) (t:=t_hm) ⟨DX,tp,DY,oP,trivial⟩ Tryz.f112 h_hm (by kernel_rfl)
def c_et:Con:=⟨[.ro true kH],[⟨false,[.val],[.bool],false⟩]⟩
theorem KD:Has Tryz.prog 59 c_et vJ:=fp (R:=bc) (tr:=false) (E:=[(112,0,c_hm),(32,1,oN),(110,2,c_gy)]) (Φ:=GZ) (t:=t_et) ⟨DZ,ej,DV,trivial⟩ Tryz.f59 hE (by kernel_rfl)
def c_ex:Con:=⟨[.ro true kW],[⟨false,[.val],[.bool],false⟩]⟩
def h_ex:How:=⟨ar [(2,⟨[kI],[(2,(.bool (.b false))),(4,(sI 0))],[],[],0⟩),(0,⟨[kI],[(2,(.bool (.b false))),(3,(sI 0))],[],[],0⟩)],
 ar [],
 ar []⟩
theorem D0:Has Tryz.prog 31 c_ex pv:=fp (R:=bc) (tr:=false) (E:=[(58,0,c_gi),(59,1,c_et),(60,2,F8)]) (Φ:=G0) (t:=t_ex) ⟨KB,KD,tq,trivial⟩ Tryz.f31 h_ex (by kernel_rfl)
def c_cu:Con:=⟨[.ro true [kI,kI,.list]],[⟨true,v3,[kI,kI,.list],false⟩]⟩
theorem KE:Has Tryz.prog 151 c_cu vK:=fp (R:=bc) (tr:=false) (E:=[]) (Φ:=ph []) (t:=t_cu) trivial Tryz.f151 hE (by kernel_rfl)
def c_gu:Con:=⟨[.ro true [.list,kI]],[⟨true,[(.arr 162 v3),.val],[.list,kI],false⟩]⟩
def h_gu:How:=⟨ar [(0,⟨[kI,.list],[(4,(sI 0))],[(3,.cells [(.sl 1000),(sI 1001)]),(1000,.arr 162 v3 (.v 1))],[2],1⟩)],
 ar [],
 ar []⟩
theorem D1:Has Tryz.prog 113 c_gu pw:=fp (R:=bc) (tr:=false) (E:=[(151,0,c_cu)]) (Φ:=G1) (t:=t_gu) ⟨KE,trivial⟩ Tryz.f113 h_gu (by kernel_rfl)
def c_ft:Con:=⟨[.ro true kD],[⟨true,[.val,(.arr 162 v3),.val,(.arr 96 v4)],kD,false⟩]⟩
theorem KF:Has Tryz.prog 61 c_ft vM:=fp (R:=bc) (tr:=false) (E:=[(113,0,c_gu)]) (Φ:=G2) (t:=t_ft) ⟨D1,trivial⟩ Tryz.f61 hE (by kernel_rfl)
def c_fm:Con:=⟨[.ro true kH],[⟨true,[.val,.val,.val,(.arr 162 v3),.val],kH,false⟩]⟩
theorem KG:Has Tryz.prog 62 c_fm vN:=fp (R:=bc) (tr:=false) (E:=[(113,0,c_gu)]) (Φ:=G3) (t:=t_fm) ⟨D1,trivial⟩ Tryz.f62 hE (by kernel_rfl)
def c_fv:Con:=⟨[.ro true kW],[⟨true,[.val,(.arr 162 v3),.val,(.arr 96 v4),(.arr 93 [.val,.val,.val,(.arr 162 v3),.val]),(.arr 96 v4)],kW,false⟩]⟩
def h_fv:How:=⟨ar [(0,⟨[kI,.list],[(4,(sI 0))],[(2,.cells [(.bool (.v 1006)),(.sl 3),(sI 1007),(.sl 4),(.sl 1000),(.sl 5)]),(1000,.arr 93 [.val,.val,.val,(.arr 162 v3),.val] (.v 1))],[],1⟩)],
 ar [(2,⟨[.bool,kI,.list,.list,.list],[(3,(.ptr 1000 0))],[(1000,.cells [(.bool (.v 0)),(.sl 1001),(sI 1),(.sl 1002),.nil,(.sl 1003)]),(1001,.arr 162 v3 (.v 2)),(1002,.arr 96 v4 (.v 3)),(1003,.arr 96 v4 (.v 4))],[],4⟩)],
 ar []⟩
theorem D2:Has Tryz.prog 33 c_fv px:=fp (R:=bc) (tr:=false) (E:=[(61,0,c_ft),(62,1,c_fm)]) (Φ:=G4) (t:=t_fv) ⟨KF,KG,trivial⟩ Tryz.f33 h_fv (by kernel_rfl)
def D3:Con:=⟨[.ro true kD,.ro false [.bool]],[⟨false,[.val],[.list],false⟩]⟩
theorem oQ:Has Tryz.prog 114 D3 eQ:=fp (R:=bc) (tr:=false) (E:=[(109,0,c_hf)]) (Φ:=G5) (t:=t_do) ⟨DU,trivial⟩ Tryz.f114 hE (by kernel_rfl)
def c_gz:Con:=⟨[.own true [(.arr 162 v3),.val] [.list,kI] false,.own true v3 [kI,kI,.list] false],[⟨true,[(.arr 162 v3),.val],[.list,kI],false⟩,⟨false,[.val],[.bool],false⟩]⟩
theorem D4:Has Tryz.prog 155 c_gz py:=fp (R:=bc) (tr:=false) (E:=[]) (Φ:=ph []) (t:=t_gz) trivial Tryz.f155 hE (by kernel_rfl)
def c_du:Con:=⟨[.own true [.val,(.arr 162 v3),.val,(.arr 96 v4)] kD false,.own true v3 [kI,kI,.list] false],[⟨true,[.val,(.arr 162 v3),.val,(.arr 96 v4)],kD,false⟩,⟨false,[.val],[.bool],false⟩]⟩
theorem D5:Has Tryz.prog 137 c_du dn:=fp (R:=bc) (tr:=false) (E:=[(114,0,D3),(147,1,c_gg),(155,2,c_gz)]) (Φ:=G6) (t:=t_du) ⟨oQ,DT,D4,trivial⟩ Tryz.f137 hE (by kernel_rfl)
def c_dk:Con:=⟨[.ro true kD],[⟨false,[.val],[.list],false⟩]⟩
def h_dk:How:=⟨ar [(0,⟨[kI,.list],[(3,(.sl 1000)),(5,(sI 0))],[(1000,.arr 96 v4 (.v 1))],[1],1⟩),(2,⟨[kI,.list],[(3,(.sl 1000)),(6,(sI 0))],[(1000,.arr 96 v4 (.v 1))],[2],1⟩)],
 ar [],
 ar []⟩
theorem D6:Has Tryz.prog 63 c_dk l9:=fp (R:=bc) (tr:=false) (E:=[(114,0,D3),(111,1,DW)]) (Φ:=G7) (t:=t_dk) ⟨oQ,oO,trivial⟩ Tryz.f63 h_dk (by kernel_rfl)
def c_gr:Con:=⟨[.own true [.val,(.arr 162 v3),.val,(.arr 96 v4),(.arr 93 [.val,.val,.val,(.arr 162 v3),.val]),(.arr 96 v4)] kW false,.ro true kJ],[⟨true,[.val,(.arr 162 v3),.val,(.arr 96 v4),(.arr 93 [.val,.val,.val,(.arr 162 v3),.val]),(.arr 96 v4)],kW,false⟩]⟩
theorem D7:Has Tryz.prog 138 c_gr ma:=fp (R:=bc) (tr:=false) (E:=[]) (Φ:=ph []) (t:=t_gr) trivial Tryz.f138 hE (by kernel_rfl)
def c_ff:Con:=⟨[.own true [.val,(.arr 162 v3),.val,(.arr 96 v4),(.arr 93 [.val,.val,.val,(.arr 162 v3),.val]),(.arr 96 v4)] kW false,.ro true [kI,kI,kI,.list]],[⟨true,[.val,(.arr 162 v3),.val,(.arr 96 v4),(.arr 93 [.val,.val,.val,(.arr 162 v3),.val]),(.arr 96 v4)],kW,false⟩]⟩
theorem KH:Has Tryz.prog 95 c_ff vO:=fp (R:=bc) (tr:=false) (E:=[(114,0,D3),(136,1,F7),(137,2,c_du),(32,3,oN),(63,4,c_dk),(138,5,c_gr)]) (Φ:=G8) (t:=t_ff) ⟨oQ,tp,D5,ej,D6,D7,trivial⟩ Tryz.f95 hE (by kernel_rfl)
def c_em:Con:=⟨[.own true [.val,(.arr 162 v3),.val,(.arr 96 v4),(.arr 93 [.val,.val,.val,(.arr 162 v3),.val]),(.arr 96 v4)] kW false,.ro false [kI]],[⟨true,[.val,(.arr 162 v3),.val,(.arr 96 v4),(.arr 93 [.val,.val,.val,(.arr 162 v3),.val]),(.arr 96 v4)],kW,false⟩]⟩
theorem KJ:Has Tryz.prog 139 c_em ss:=fp (R:=bc) (tr:=false) (E:=[]) (Φ:=ph []) (t:=t_em) trivial Tryz.f139 hE (by kernel_rfl)
def c_ge:Con:=⟨[.ro true kD,.ro false [kI],.ro false [.list],.ro false [kI]],[⟨false,[.val],[.bool],false⟩]⟩
def h_ge:How:=⟨ar [(0,⟨[kI],[(8,(.bool (.b false))),(9,(sI 0))],[],[],0⟩)],
 ar [],
 ar []⟩
theorem KK:Has Tryz.prog 177 c_ge vP:=fp (R:=bc) (tr:=false) (E:=[(111,0,DW)]) (Φ:=G9) (t:=t_ge) ⟨oO,trivial⟩ Tryz.f177 h_ge (by kernel_rfl)
def c_gh:Con:=⟨[.ro true kD,.ro false [kI],.ro false [.list],.ro false [kI]],[⟨false,[.val],[.bool],false⟩]⟩
def h_gh:How:=⟨ar [(0,⟨[kI],[(8,(.bool (.b false))),(9,(sI 0))],[],[],0⟩)],
 ar [],
 ar []⟩
theorem KL:Has Tryz.prog 178 c_gh lr:=fp (R:=bc) (tr:=false) (E:=[(111,0,DW)]) (Φ:=Ha) (t:=t_gh) ⟨oO,trivial⟩ Tryz.f178 h_gh (by kernel_rfl)
def c_ca:Con:=⟨[.own true [.val,(.arr 162 v3),.val,(.arr 96 v4)] kD false,.ro false [kI]],[⟨true,[.val,(.arr 162 v3),.val,(.arr 96 v4)],kD,false⟩]⟩
def h_ca:How:=⟨ar [],
 ar [(9,⟨[.bool],[(47,(.bool (.v 0)))],[],[],0⟩),(7,⟨[.bool],[(36,(.bool (.v 0)))],[],[],0⟩),(5,⟨[.bool],[(8,(.bool (.v 0)))],[],[],0⟩)],
 ar []⟩
theorem KM:Has Tryz.prog 152 c_ca sx:=fp (R:=bc) (tr:=false) (E:=[(114,0,D3),(177,1,c_ge),(178,2,c_gh),(137,3,c_du)]) (Φ:=Hb) (t:=t_ca) ⟨oQ,KK,KL,D5,trivial⟩ Tryz.f152 h_ca (by kernel_rfl)
def c_fw:Con:=⟨[.own true [.val,(.arr 162 v3),.val,(.arr 96 v4)] kD false,.ro true kJ],[⟨true,[.val,(.arr 162 v3),.val,(.arr 96 v4)],kD,false⟩]⟩
theorem KN:Has Tryz.prog 115 c_fw vQ:=fp (R:=bc) (tr:=false) (E:=[(60,0,F8),(114,1,D3),(111,2,DW),(152,3,c_ca)]) (Φ:=Hc) (t:=t_fw) ⟨tq,oQ,oO,KM,trivial⟩ Tryz.f115 hE (by kernel_rfl)
def c_dj:Con:=⟨[.ro true kH,.ro false [.bool]],[⟨true,[.val,.val],[kI,.list],false⟩]⟩
theorem KO:Has Tryz.prog 153 c_dj pz:=fp (R:=bc) (tr:=false) (E:=[(112,0,c_hm)]) (Φ:=Hd) (t:=t_dj) ⟨DZ,trivial⟩ Tryz.f153 hE (by kernel_rfl)
def c_gl:Con:=⟨[.ro true kJ],[⟨true,v3,[kI,kI,.list],false⟩]⟩
theorem KP:Has Tryz.prog 154 c_gl vR:=fp (R:=bc) (tr:=false) (E:=[]) (Φ:=ph []) (t:=t_gl) trivial Tryz.f154 hE (by kernel_rfl)
def c_co:Con:=⟨[.ro true kH,.ro true kJ,.ro false [kI]],[⟨true,v4,kJ,false⟩,⟨false,[.val],[.bool],false⟩]⟩
def h_co:How:=⟨ar [],
 ar [(6,⟨[.bool],[(28,(.bool (.v 0)))],[],[],0⟩),(4,⟨[.bool],[(15,(.bool (.v 0)))],[],[],0⟩)],
 ar []⟩
theorem KQ:Has Tryz.prog 156 c_co sy:=fp (R:=bc) (tr:=false) (E:=[]) (Φ:=ph []) (t:=t_co) trivial Tryz.f156 h_co (by kernel_rfl)
def c_fp:Con:=⟨[.own true [.val,.val,.val,(.arr 162 v3),.val] kH false,.ro true kJ],[⟨true,[.val,.val,.val,(.arr 162 v3),.val],kH,false⟩,⟨true,v4,kJ,false⟩,⟨false,[.val],[.bool],false⟩]⟩
theorem KR:Has Tryz.prog 116 c_fp vS:=fp (R:=bc) (tr:=false) (E:=[(60,0,F8),(153,1,c_dj),(154,2,c_gl),(149,3,c_hj),(155,4,c_gz),(156,5,c_co)]) (Φ:=He) (t:=t_fp) ⟨tq,KO,KP,DY,D4,KQ,trivial⟩ Tryz.f116 hE (by kernel_rfl)
def c_ek:Con:=⟨[.own true [.val,(.arr 162 v3),.val,(.arr 96 v4),(.arr 93 [.val,.val,.val,(.arr 162 v3),.val]),(.arr 96 v4)] kW false,.ro true kJ],[⟨true,[.val,(.arr 162 v3),.val,(.arr 96 v4),(.arr 93 [.val,.val,.val,(.arr 162 v3),.val]),(.arr 96 v4)],kW,false⟩,⟨true,v4,kJ,false⟩,⟨false,[.val],[.bool],false⟩]⟩
theorem D8:Has Tryz.prog 64 c_ek mb:=fp (R:=bc) (tr:=false) (E:=[(115,0,c_fw),(116,1,c_fp)]) (Φ:=Hf) (t:=t_ek) ⟨KN,KR,trivial⟩ Tryz.f64 hE (by kernel_rfl)
def c_gd:Con:=⟨[.own true [.val,(.arr 162 v3),.val,(.arr 96 v4),(.arr 93 [.val,.val,.val,(.arr 162 v3),.val]),(.arr 96 v4)] kW false,.ro true [kI,kI,kI,.list]],[⟨true,[.val,(.arr 162 v3),.val,(.arr 96 v4),(.arr 93 [.val,.val,.val,(.arr 162 v3),.val]),(.arr 96 v4)],kW,false⟩]⟩
theorem KS:Has Tryz.prog 96 c_gd pA:=fp (R:=bc) (tr:=false) (E:=[(32,0,oN),(139,1,c_em),(138,2,c_gr),(64,3,c_ek)]) (Φ:=Hg) (t:=t_gd) ⟨ej,KJ,D7,D8,trivial⟩ Tryz.f96 hE (by kernel_rfl)
def c_dr:Con:=⟨[.own true [.val,(.arr 162 v3),.val,(.arr 96 v4),(.arr 93 [.val,.val,.val,(.arr 162 v3),.val]),(.arr 96 v4)] kW false,.ro false [kI]],[⟨true,[.val,(.arr 162 v3),.val,(.arr 96 v4),(.arr 93 [.val,.val,.val,(.arr 162 v3),.val]),(.arr 96 v4)],kW,false⟩]⟩
def h_dr:How:=⟨ar [],
 ar [(3,⟨[kI],[],[(4,.cells [(.bool (.v 1000)),(.sl 0),(sI 0),(.sl 1),(.sl 2),(.sl 3)])],[],0⟩)],
 ar []⟩
theorem D9:Has Tryz.prog 65 c_dr pB:=fp (R:=bc) (tr:=false) (E:=[(32,0,oN)]) (Φ:=Hh) (t:=t_dr) ⟨ej,trivial⟩ Tryz.f65 h_dr (by kernel_rfl)
def c_gx:Con:=⟨[.own true [(.arr 162 v3),.val] [.list,kI] false,.ro false [kI]],[⟨true,[(.arr 162 v3),.val],[.list,kI],false⟩]⟩
theorem Ea:Has Tryz.prog 141 c_gx pC:=fp (R:=bc) (tr:=true) (E:=[]) (Φ:=ph []) (t:=t_gx) trivial Tryz.f141 hE (by kernel_rfl)
def c_ey:Con:=⟨[.own true [.val,(.arr 162 v3),.val,(.arr 96 v4)] kD false,.ro false [kI]],[⟨true,[.val,(.arr 162 v3),.val,(.arr 96 v4)],kD,false⟩]⟩
theorem KT:Has Tryz.prog 140 c_ey vT:=fp (R:=bc) (tr:=false) (E:=[(141,0,c_gx)]) (Φ:=Hi) (t:=t_ey) ⟨Ea,trivial⟩ Tryz.f140 hE (by kernel_rfl)
def c_ew:Con:=⟨[.own true [.val,(.arr 162 v3),.val,(.arr 96 v4),(.arr 93 [.val,.val,.val,(.arr 162 v3),.val]),(.arr 96 v4)] kW false,.ro true [kI,kI,kI,.list]],[⟨true,[.val,(.arr 162 v3),.val,(.arr 96 v4),(.arr 93 [.val,.val,.val,(.arr 162 v3),.val]),(.arr 96 v4)],kW,false⟩]⟩
theorem KU:Has Tryz.prog 97 c_ew pD:=fp (R:=bc) (tr:=false) (E:=[(32,0,oN),(65,1,c_dr),(140,2,c_ey),(141,3,c_gx)]) (Φ:=Hj) (t:=t_ew) ⟨ej,D9,KT,Ea,trivial⟩ Tryz.f97 hE (by kernel_rfl)
def c_hg:Con:=⟨[.own true [.val,(.arr 162 v3),.val,(.arr 96 v4),(.arr 93 [.val,.val,.val,(.arr 162 v3),.val]),(.arr 96 v4)] kW false,.ro true [kI,kI,kI,.list]],[⟨true,[.val,(.arr 162 v3),.val,(.arr 96 v4),(.arr 93 [.val,.val,.val,(.arr 162 v3),.val]),(.arr 96 v4)],kW,false⟩]⟩
def h_hg:How:=⟨ar [],
 ar [(5,⟨[.bool],[(7,(.bool (.v 0)))],[],[],0⟩)],
 ar []⟩
theorem Eb:Has Tryz.prog 52 c_hg me:=fp (R:=bc) (tr:=false) (E:=[(95,0,c_ff),(96,1,c_gd),(97,2,c_ew)]) (Φ:=Hk) (t:=t_hg) ⟨KH,KS,KU,trivial⟩ Tryz.f52 h_hg (by kernel_rfl)
def c_fc:Con:=⟨[.ro true kW,.ro true [kI,kI,kI,.list]],[⟨true,[.val,.val,.val,.val,.val,.val],kW,false⟩]⟩
theorem KV:Has Tryz.prog 23 c_fc vU:=fp (R:=bc) (tr:=false) (E:=[(31,0,c_ex),(33,1,c_fv),(52,2,c_hg)]) (Φ:=Hl) (t:=t_fc) ⟨D0,D2,Eb,trivial⟩ Tryz.f23 hE (by kernel_rfl)
def kV:Con:=⟨[.ro false [kI],.ro false [kI],.ro false [kI]],[⟨false,[.val],[.bool],false⟩]⟩
theorem dl:Has Tryz.prog 39 kV bv:=fp (R:=al) (tr:=false) (E:=[]) (Φ:=ph []) (t:=t_ho) trivial Tryz.f39 hE (by kernel_rfl)
def c_bu:Con:=⟨[.ro false [kI]],[⟨false,[.val],[.bool],false⟩]⟩
theorem KW:Has Tryz.prog 185 c_bu vV:=fp (R:=al) (tr:=false) (E:=[(39,0,kV)]) (Φ:=Hm) (t:=t_bu) ⟨dl,trivial⟩ Tryz.f185 hE (by kernel_rfl)
def c_ao:Con:=⟨[.ro false [.list],.fn 185 []],[⟨false,[.val],[kI],false⟩]⟩
def h_ao:How:=⟨ar [(0,⟨[kI],[(4,(.int .i64 (.n 0))),(8,(sI 0))],[],[],0⟩)],
 ar [],
 ar []⟩
theorem KX:Has Tryz.prog 192 c_ao vW:=fp (R:=al) (tr:=false) (E:=[(185,0,c_bu)]) (Φ:=Hn) (t:=t_ao) ⟨KW,trivial⟩ Tryz.f192 h_ao (by kernel_rfl)
def c_al:Con:=⟨[.ro false [.list],.fn 185 []],[⟨false,[.val],[.bool],false⟩]⟩
theorem KY:Has Tryz.prog 187 c_al vX:=fp (R:=al) (tr:=false) (E:=[(192,0,c_ao)]) (Φ:=Ho) (t:=t_al) ⟨KX,trivial⟩ Tryz.f187 hE (by kernel_rfl)
def c_by:Con:=⟨[.ro false [kI]],[⟨false,[.val],[.bool],false⟩]⟩
theorem KZ:Has Tryz.prog 186 c_by vY:=fp (R:=al) (tr:=false) (E:=[]) (Φ:=ph []) (t:=t_by) trivial Tryz.f186 hE (by kernel_rfl)
def c_an:Con:=⟨[.ro false [.list],.fn 186 []],[⟨false,[.val],[kI],false⟩]⟩
def h_an:How:=⟨ar [(0,⟨[kI],[(4,(.int .i64 (.n 0))),(8,(sI 0))],[],[],0⟩)],
 ar [],
 ar []⟩
theorem K3:Has Tryz.prog 192 c_an vZ:=fp (R:=al) (tr:=false) (E:=[(186,0,c_by)]) (Φ:=Hp) (t:=t_an) ⟨KZ,trivial⟩ Tryz.f192 h_an (by kernel_rfl)
def c_ak:Con:=⟨[.ro false [.list],.fn 186 []],[⟨false,[.val],[.bool],false⟩]⟩
theorem K4:Has Tryz.prog 187 c_ak v6:=fp (R:=al) (tr:=false) (E:=[(192,0,c_an)]) (Φ:=Hq) (t:=t_ak) ⟨K3,trivial⟩ Tryz.f187 hE (by kernel_rfl)
def c_de:Con:=⟨[.ro false [.list]],[⟨false,[.val],[.bool],false⟩]⟩
theorem Ec:Has Tryz.prog 174 c_de pE:=fp (R:=al) (tr:=false) (E:=[(187,0,c_al),(187,1,c_ak)]) (Φ:=Hr) (t:=t_de) ⟨KY,K4,trivial⟩ Tryz.f174 hE (by kernel_rfl)
def JB:Con:=⟨[.ro false [kI]],[⟨false,[.val],[.bool],false⟩]⟩
theorem zr:Has Tryz.prog 125 JB gw:=fp (R:=al) (tr:=false) (E:=[(39,0,kV)]) (Φ:=Hs) (t:=t_gv) ⟨dl,trivial⟩ Tryz.f125 hE (by kernel_rfl)
def Ed:Con:=⟨[.ro true [kI,kI,.list]],[⟨false,[.val],[.bool],false⟩]⟩
theorem oS:Has Tryz.prog 142 Ed gx:=fp (R:=al) (tr:=false) (E:=[(39,0,kV),(174,1,c_de),(125,2,JB)]) (Φ:=Ht) (t:=t_he) ⟨dl,Ec,zr,trivial⟩ Tryz.f142 hE (by kernel_rfl)
def c_fl:Con:=⟨[.ro true [kI,kI,.list]],[⟨false,[.val],[.bool],false⟩]⟩
theorem K5:Has Tryz.prog 158 c_fl v7:=fp (R:=al) (tr:=false) (E:=[(142,0,Ed)]) (Φ:=Hu) (t:=t_fl) ⟨oS,trivial⟩ Tryz.f158 hE (by kernel_rfl)
def c_am:Con:=⟨[.ro false [.list],.fn 158 []],[⟨false,[.val],[kI],false⟩]⟩
def h_am:How:=⟨ar [(0,⟨[kI],[(4,(.int .i64 (.n 0))),(8,(sI 0))],[],[],0⟩)],
 ar [],
 ar []⟩
theorem K6:Has Tryz.prog 179 c_am v8:=fp (R:=al) (tr:=false) (E:=[(158,0,c_fl)]) (Φ:=Hv) (t:=t_am) ⟨K5,trivial⟩ Tryz.f179 h_am (by kernel_rfl)
def c_ag:Con:=⟨[.ro false [.list],.fn 158 []],[⟨false,[.val],[.bool],false⟩]⟩
theorem K7:Has Tryz.prog 159 c_ag v9:=fp (R:=al) (tr:=false) (E:=[(179,0,c_am)]) (Φ:=Hw) (t:=t_ag) ⟨K6,trivial⟩ Tryz.f159 hE (by kernel_rfl)
def Ee:Con:=⟨[.ro true [.list,kI]],[⟨false,[.val],[.bool],false⟩]⟩
theorem oT:Has Tryz.prog 118 Ee gy:=fp (R:=al) (tr:=false) (E:=[(39,0,kV),(159,1,c_ag)]) (Φ:=Hx) (t:=t_hi) ⟨dl,K7,trivial⟩ Tryz.f118 hE (by kernel_rfl)
def c_cp:Con:=⟨[.ro true [.list,kI]],[⟨false,[.val],[.bool],false⟩]⟩
theorem K8:Has Tryz.prog 193 c_cp wa:=fp (R:=al) (tr:=false) (E:=[(174,0,c_de),(39,1,kV)]) (Φ:=Hy) (t:=t_cp) ⟨Ec,dl,trivial⟩ Tryz.f193 hE (by kernel_rfl)
def c_ah:Con:=⟨[.ro false [.list],.fn 193 []],[⟨false,[.val],[kI],false⟩]⟩
def h_ah:How:=⟨ar [(0,⟨[kI],[(4,(.int .i64 (.n 0))),(8,(sI 0))],[],[],0⟩)],
 ar [],
 ar []⟩
theorem K9:Has Tryz.prog 196 c_ah wc:=fp (R:=al) (tr:=false) (E:=[(193,0,c_cp)]) (Φ:=Hz) (t:=t_ah) ⟨K8,trivial⟩ Tryz.f196 h_ah (by kernel_rfl)
def c_ad:Con:=⟨[.ro false [.list],.fn 193 []],[⟨false,[.val],[.bool],false⟩]⟩
theorem La:Has Tryz.prog 194 c_ad wd:=fp (R:=al) (tr:=false) (E:=[(196,0,c_ah)]) (Φ:=HA) (t:=t_ad) ⟨K9,trivial⟩ Tryz.f194 hE (by kernel_rfl)
def c_fg:Con:=⟨[.ro false [.list]],[⟨false,[.val],[.bool],false⟩]⟩
theorem Lb:Has Tryz.prog 188 c_fg we:=fp (R:=al) (tr:=false) (E:=[(194,0,c_ad)]) (Φ:=HB) (t:=t_fg) ⟨La,trivial⟩ Tryz.f188 hE (by kernel_rfl)
def c_eu:Con:=⟨[.ro false [.list],.ro false [kI]],[⟨false,[.val],[kI],false⟩]⟩
theorem Ef:Has Tryz.prog 171 c_eu pF:=fp (R:=al) (tr:=false) (E:=[(39,0,kV)]) (Φ:=HC) (t:=t_eu) ⟨dl,trivial⟩ Tryz.f171 hE (by kernel_rfl)
def c_dg:Con:=⟨[.ro false [.list],.ro true [kI,kI,.list]],[⟨false,[.val],[.bool],false⟩]⟩
theorem Eg:Has Tryz.prog 175 c_dg pG:=fp (R:=al) (tr:=false) (E:=[(188,0,c_fg),(142,1,Ed),(171,2,c_eu)]) (Φ:=HD) (t:=t_dg) ⟨Lb,oS,Ef,trivial⟩ Tryz.f175 hE (by kernel_rfl)
def c_bf:Con:=⟨[.ro false [.list]],[⟨false,[(.arr 3 [.val])],[.list],false⟩]⟩
theorem Eh:Has Tryz.prog 180 c_bf mf:=fp (R:=al) (tr:=false) (E:=[]) (Φ:=ph []) (t:=t_bf) trivial Tryz.f180 hE (by kernel_rfl)
def c_eg:Con:=⟨[.ro false [.list],.ro true [kI,kI,.list]],[⟨false,[.val],[.list],false⟩,⟨false,[.val],[.bool],false⟩]⟩
def h_eg:How:=⟨ar [(0,⟨[kI,.list],[(6,(.sl 1000)),(16,(sI 0))],[(1000,.arr 143 [.val,.val] (.v 1))],[],1⟩)],
 ar [],
 ar []⟩
theorem Lc:Has Tryz.prog 160 c_eg wg:=fp (R:=al) (tr:=false) (E:=[(175,0,c_dg),(180,1,c_bf)]) (Φ:=HE) (t:=t_eg) ⟨Eg,Eh,trivial⟩ Tryz.f160 h_eg (by kernel_rfl)
def c_eo:Con:=⟨[.ro false [.list]],[⟨false,[.val],[.list],false⟩,⟨false,[.val],[.bool],false⟩]⟩
def h_eo:How:=⟨ar [(0,⟨[.list,.bool,kI],[(4,(.view true (.v 0))),(5,(.bool (.v 1))),(6,(sI 2))],[],[],0⟩)],
 ar [],
 ar []⟩
theorem Ei:Has Tryz.prog 119 c_eo pH:=fp (R:=al) (tr:=false) (E:=[(160,0,c_eg)]) (Φ:=HF) (t:=t_eo) ⟨Lc,trivial⟩ Tryz.f119 h_eo (by kernel_rfl)
def Cd:Con:=⟨[.ro false [kI]],[⟨false,[.val],[.bool],false⟩]⟩
theorem lO:Has Tryz.prog 122 Cd eS:=fp (R:=al) (tr:=false) (E:=[(39,0,kV)]) (Φ:=HG) (t:=t_fe) ⟨dl,trivial⟩ Tryz.f122 hE (by kernel_rfl)
def F9:Con:=⟨[.ro true kJ],[⟨false,[.val],[.bool],false⟩]⟩
theorem ts:Has Tryz.prog 73 F9 iK:=fp (R:=al) (tr:=false) (E:=[(39,0,kV),(122,1,Cd),(125,2,JB)]) (Φ:=HH) (t:=t_go) ⟨dl,lO,zr,trivial⟩ Tryz.f73 hE (by kernel_rfl)
def Ej:Con:=⟨[.ro true kJ],[⟨false,[.val],[.bool],false⟩]⟩
theorem oU:Has Tryz.prog 120 Ej gz:=fp (R:=al) (tr:=false) (E:=[]) (Φ:=ph []) (t:=t_bh) trivial Tryz.f120 hE (by kernel_rfl)
def c_au:Con:=⟨[.ro false [.list],.ro true kJ],[⟨false,[.val],[kI],false⟩]⟩
def h_au:How:=⟨ar [(0,⟨[kI],[(4,(.int .i64 (.n 0))),(8,(sI 0))],[],[],0⟩)],
 ar [],
 ar []⟩
theorem Ld:Has Tryz.prog 161 c_au wh:=fp (R:=al) (tr:=false) (E:=[]) (Φ:=ph []) (t:=t_au) trivial Tryz.f161 h_au (by kernel_rfl)
def JC:Con:=⟨[.ro false [.list],.ro true kJ],[⟨false,[.val],[.bool],false⟩]⟩
theorem zt:Has Tryz.prog 121 JC lu:=fp (R:=al) (tr:=false) (E:=[(161,0,c_au)]) (Φ:=HI) (t:=t_ap) ⟨Ld,trivial⟩ Tryz.f121 hE (by kernel_rfl)
def Ce:Con:=⟨[.ro true kD],[⟨false,[.val],[.bool],false⟩]⟩
def h_gc:How:=⟨ar [(0,⟨[kI],[(2,(.bool (.b false))),(32,(sI 0))],[],[],0⟩)],
 ar [(3,⟨[],[(2,(.bool (.b false)))],[],[],0⟩)],
 ar []⟩
theorem lP:Has Tryz.prog 69 Ce fA:=fp (R:=al) (tr:=false) (E:=[(118,0,Ee),(119,1,c_eo),(73,2,F9),(120,3,Ej),(121,4,JC)]) (Φ:=HJ) (t:=t_gc) ⟨oT,Ei,ts,oU,zt,trivial⟩ Tryz.f69 h_gc (by kernel_rfl)
def c_dt:Con:=⟨[.ro false [kI]],[⟨true,[.val,(.arr 181 [.val,.val])],[kI,.list],false⟩,⟨false,[.val],[.bool],false⟩]⟩
theorem Le:Has Tryz.prog 162 c_dt wi:=fp (R:=al) (tr:=false) (E:=[(39,0,kV)]) (Φ:=HK) (t:=t_dt) ⟨dl,trivial⟩ Tryz.f162 hE (by kernel_rfl)
def c_fs:Con:=⟨[.ro true [kI,kI]],[⟨false,[.val],[.bool],false⟩]⟩
theorem Lf:Has Tryz.prog 190 c_fs wj:=fp (R:=al) (tr:=false) (E:=[(39,0,kV)]) (Φ:=HL) (t:=t_fs) ⟨dl,trivial⟩ Tryz.f190 hE (by kernel_rfl)
def c_cg:Con:=⟨[.ro true [kI,kI]],[⟨false,[.val],[.bool],false⟩]⟩
theorem Lg:Has Tryz.prog 189 c_cg wl:=fp (R:=al) (tr:=false) (E:=[(190,0,c_fs)]) (Φ:=HM) (t:=t_cg) ⟨Lf,trivial⟩ Tryz.f189 hE (by kernel_rfl)
def c_ai:Con:=⟨[.ro false [.list],.fn 189 []],[⟨false,[.val],[kI],false⟩]⟩
def h_ai:How:=⟨ar [(0,⟨[kI],[(4,(.int .i64 (.n 0))),(8,(sI 0))],[],[],0⟩)],
 ar [],
 ar []⟩
theorem Lh:Has Tryz.prog 195 c_ai wn:=fp (R:=al) (tr:=false) (E:=[(189,0,c_cg)]) (Φ:=HN) (t:=t_ai) ⟨Lg,trivial⟩ Tryz.f195 h_ai (by kernel_rfl)
def c_ae:Con:=⟨[.ro false [.list],.fn 189 []],[⟨false,[.val],[.bool],false⟩]⟩
theorem Li:Has Tryz.prog 191 c_ae wo:=fp (R:=al) (tr:=false) (E:=[(195,0,c_ai)]) (Φ:=HO) (t:=t_ae) ⟨Lh,trivial⟩ Tryz.f191 hE (by kernel_rfl)
def c_bo:Con:=⟨[.ro true [kI,.list]],[⟨false,[.val],[kI],false⟩]⟩
def h_bo:How:=⟨ar [(0,⟨[kI,kI],[(3,(sI 0)),(11,(sI 1))],[],[],0⟩)],
 ar [],
 ar []⟩
theorem Ek:Has Tryz.prog 184 c_bo pI:=fp (R:=al) (tr:=false) (E:=[]) (Φ:=ph []) (t:=t_bo) trivial Tryz.f184 h_bo (by kernel_rfl)
def c_eq:Con:=⟨[.ro true [kI,.list]],[⟨false,[.val],[.bool],false⟩]⟩
theorem Lj:Has Tryz.prog 183 c_eq wq:=fp (R:=al) (tr:=false) (E:=[(39,0,kV),(191,1,c_ae),(184,2,c_bo)]) (Φ:=HP) (t:=t_eq) ⟨dl,Li,Ek,trivial⟩ Tryz.f183 hE (by kernel_rfl)
def c_df:Con:=⟨[.ro true [kI,.list],.ro true [kI,kI,.list]],[⟨false,[.val],[.bool],false⟩]⟩
theorem El:Has Tryz.prog 166 c_df pJ:=fp (R:=al) (tr:=false) (E:=[(183,0,c_eq),(142,1,Ed),(184,2,c_bo)]) (Φ:=HQ) (t:=t_df) ⟨Lj,oS,Ek,trivial⟩ Tryz.f166 hE (by kernel_rfl)
def c_as:Con:=⟨[.ro false [.list]],[⟨false,[(.arr 181 [.val,.val])],[.list],false⟩]⟩
theorem Lk:Has Tryz.prog 181 c_as wu:=fp (R:=al) (tr:=false) (E:=[]) (Φ:=ph []) (t:=t_as) trivial Tryz.f181 hE (by kernel_rfl)
def c_fa:Con:=⟨[.ro true [kI,.list],.ro true [kI,kI,.list]],[⟨true,[.val,.val],[kI,.list],false⟩,⟨false,[.val],[.bool],false⟩]⟩
def h_fa:How:=⟨ar [],
 ar [(4,⟨[.list],[(6,(.ptr 1000 0))],[(1000,.cells [(sI 1000),(.sl 1001)]),(1001,.arr 181 [.val,.val] (.v 0))],[],2⟩)],
 ar []⟩
theorem Ll:Has Tryz.prog 163 c_fa wv:=fp (R:=al) (tr:=false) (E:=[(166,0,c_df),(181,1,c_as)]) (Φ:=HR) (t:=t_fa) ⟨El,Lk,trivial⟩ Tryz.f163 h_fa (by kernel_rfl)
def c_fu:Con:=⟨[.ro false [kI],.ro false [.list]],[⟨true,[.val,.val],[kI,.list],false⟩,⟨false,[.val],[.bool],false⟩]⟩
def h_fu:How:=⟨ar [(0,⟨[.bool,kI,kI,.list],[(7,(.bool (.v 0))),(8,(sI 1))],[(2,.cells [(sI 2),(.view true (.v 3))])],[],0⟩)],
 ar [],
 ar []⟩
theorem Em:Has Tryz.prog 123 c_fu pK:=fp (R:=al) (tr:=false) (E:=[(162,0,c_dt),(163,1,c_fa)]) (Φ:=HS) (t:=t_fu) ⟨Le,Ll,trivial⟩ Tryz.f123 h_fu (by kernel_rfl)
def En:Con:=⟨[.ro true kH],[⟨false,[.val],[.bool],false⟩]⟩
theorem oV:Has Tryz.prog 70 En gA:=fp (R:=al) (tr:=false) (E:=[(122,0,Cd),(118,1,Ee),(123,2,c_fu)]) (Φ:=HT) (t:=t_fr) ⟨lO,oT,Em,trivial⟩ Tryz.f70 hE (by kernel_rfl)
def c_cs:Con:=⟨[.ro true kJ],[⟨false,[.val],[.bool],false⟩]⟩
theorem Lm:Has Tryz.prog 72 c_cs ww:=fp (R:=al) (tr:=false) (E:=[(73,0,F9)]) (Φ:=HU) (t:=t_cs) ⟨ts,trivial⟩ Tryz.f72 hE (by kernel_rfl)
def c_aj:Con:=⟨[.ro false [.list],.fn 72 []],[⟨false,[.val],[kI],false⟩]⟩
def h_aj:How:=⟨ar [(0,⟨[kI],[(4,(.int .i64 (.n 0))),(8,(sI 0))],[],[],0⟩)],
 ar [],
 ar []⟩
theorem Ln:Has Tryz.prog 124 c_aj wy:=fp (R:=al) (tr:=false) (E:=[(72,0,c_cs)]) (Φ:=HV) (t:=t_aj) ⟨Lm,trivial⟩ Tryz.f124 h_aj (by kernel_rfl)
def c_ac:Con:=⟨[.ro false [.list],.fn 72 []],[⟨false,[.val],[.bool],false⟩]⟩
theorem Lo:Has Tryz.prog 71 c_ac wz:=fp (R:=al) (tr:=false) (E:=[(124,0,c_aj)]) (Φ:=HW) (t:=t_ac) ⟨Ln,trivial⟩ Tryz.f71 hE (by kernel_rfl)
def c_ei:Con:=⟨[.ro true kW],[⟨false,[.val],[.bool],false⟩]⟩
def h_ei:How:=⟨ar [(0,⟨[kI],[(2,(.bool (.b false))),(24,(sI 0))],[],[],0⟩)],
 ar [],
 ar []⟩
theorem Eo:Has Tryz.prog 38 c_ei mg:=fp (R:=al) (tr:=false) (E:=[(69,0,Ce),(70,1,En),(71,2,c_ac)]) (Φ:=HX) (t:=t_ei) ⟨lP,oV,Lo,trivial⟩ Tryz.f38 h_ei (by kernel_rfl)
def c_bt:Con:=⟨[.ro true [kI,kI,.list]],[⟨true,[.val,.val,(.arr 3 [.val])],[kI,kI,.list],false⟩]⟩
theorem Ep:Has Tryz.prog 182 c_bt pL:=fp (R:=al) (tr:=false) (E:=[(180,0,c_bf)]) (Φ:=HY) (t:=t_bt) ⟨Eh,trivial⟩ Tryz.f182 hE (by kernel_rfl)
def JD:Con:=⟨[.ro true [.list,kI],.ro false [kI],.ro false [kI]],[⟨true,[(.arr 162 [.val,.val,(.arr 3 [.val])]),.val],[.list,kI],false⟩]⟩
def h_ch:How:=⟨ar [(0,⟨[kI,.list],[(17,(sI 0))],[(2,.cells [(.sl 1000),(sI 1003)]),(1000,.arr 162 [.val,.val,(.arr 3 [.val])] (.v 1))],[],1⟩)],
 ar [],
 ar []⟩
theorem zu:Has Tryz.prog 164 JD lv:=fp (R:=al) (tr:=false) (E:=[(182,0,c_bt)]) (Φ:=HZ) (t:=t_ch) ⟨Ep,trivial⟩ Tryz.f164 h_ch (by kernel_rfl)
def JE:Con:=⟨[.ro true [.list,kI]],[⟨true,[(.arr 162 [.val,.val,(.arr 3 [.val])]),.val],[.list,kI],false⟩]⟩
theorem zv:Has Tryz.prog 126 JE lw:=fp (R:=al) (tr:=false) (E:=[(164,0,JD)]) (Φ:=H0) (t:=t_bs) ⟨zu,trivial⟩ Tryz.f126 hE (by kernel_rfl)
def c_at:Con:=⟨[.ro false [.list]],[⟨false,[(.arr 96 v4)],[.list],false⟩]⟩
theorem Er:Has Tryz.prog 75 c_at pM:=fp (R:=al) (tr:=false) (E:=[]) (Φ:=ph []) (t:=t_at) trivial Tryz.f75 hE (by kernel_rfl)
def Es:Con:=⟨[.ro true kD],[⟨true,[.val,(.arr 162 [.val,.val,(.arr 3 [.val])]),.val,(.arr 96 v4)],kD,false⟩]⟩
theorem oX:Has Tryz.prog 74 Es gB:=fp (R:=al) (tr:=false) (E:=[(126,0,JE),(75,1,c_at)]) (Φ:=H1) (t:=t_bg) ⟨zv,Er,trivial⟩ Tryz.f74 hE (by kernel_rfl)
def Ga:Con:=⟨[.ro true kH],[⟨true,[.val,.val,.val,(.arr 162 [.val,.val,(.arr 3 [.val])]),.val],kH,false⟩]⟩
theorem tu:Has Tryz.prog 76 Ga iL:=fp (R:=al) (tr:=false) (E:=[(126,0,JE)]) (Φ:=H2) (t:=t_bb) ⟨zv,trivial⟩ Tryz.f76 hE (by kernel_rfl)
def c_bc:Con:=⟨[.ro true kW],[⟨true,[.val,(.arr 162 [.val,.val,(.arr 3 [.val])]),.val,(.arr 96 v4),(.arr 93 [.val,.val,.val,(.arr 162 [.val,.val,(.arr 3 [.val])]),.val]),(.arr 96 v4)],kW,false⟩]⟩
def h_bc:How:=⟨ar [(0,⟨[kI,.list],[(16,(sI 0))],[(2,.cells [(.bool (.v 1006)),(.sl 3),(sI 1007),(.sl 4),(.sl 1000),(.sl 5)]),(1000,.arr 93 [.val,.val,.val,(.arr 162 [.val,.val,(.arr 3 [.val])]),.val] (.v 1))],[],1⟩)],
 ar [(2,⟨[.bool,kI,.list,.list,.list],[(3,(.ptr 1000 0))],[(1000,.cells [(.bool (.v 0)),(.sl 1001),(sI 1),(.sl 1002),.nil,(.sl 1003)]),(1001,.arr 162 [.val,.val,(.arr 3 [.val])] (.v 2)),(1002,.arr 96 v4 (.v 3)),(1003,.arr 96 v4 (.v 4))],[],4⟩)],
 ar []⟩
theorem Et:Has Tryz.prog 40 c_bc pN:=fp (R:=al) (tr:=false) (E:=[(74,0,Es),(75,1,c_at),(76,2,Ga)]) (Φ:=H3) (t:=t_bc) ⟨oX,Er,tu,trivial⟩ Tryz.f40 h_bc (by kernel_rfl)
def c_cx:Con:=⟨[.own true [.val,.val] [.list,kI] false,.ro false [.bool]],[⟨false,[.val],[.list],false⟩]⟩
theorem Eu:Has Tryz.prog 165 c_cx pO:=fp (R:=al) (tr:=false) (E:=[]) (Φ:=ph []) (t:=t_cx) trivial Tryz.f165 hE (by kernel_rfl)
def Ew:Con:=⟨[.ro true kD,.ro false [.bool]],[⟨false,[.val],[.list],false⟩]⟩
theorem oY:Has Tryz.prog 128 Ew eT:=fp (R:=al) (tr:=false) (E:=[(165,0,c_cx),(119,1,c_eo)]) (Φ:=H4) (t:=t_bp) ⟨Eu,Ei,trivial⟩ Tryz.f128 hE (by kernel_rfl)
def c_gw:Con:=⟨[.ro true [.list,kI],.ro true [kI,kI,.list]],[⟨true,[(.arr 162 [.val,.val,(.arr 3 [.val])]),.val],[.list,kI],false⟩,⟨false,[.val],[.bool],false⟩]⟩
theorem Ex:Has Tryz.prog 168 c_gw pP:=fp (R:=al) (tr:=false) (E:=[(118,0,Ee),(142,1,Ed),(126,2,JE),(182,3,c_bt)]) (Φ:=H5) (t:=t_gw) ⟨oT,oS,zv,Ep,trivial⟩ Tryz.f168 hE (by kernel_rfl)
def JF:Con:=⟨[.ptr [.val,(.arr 162 [.val,.val,(.arr 3 [.val])]),.val,(.arr 96 v4)] kD,.ro true [kI,kI,.list]],[⟨false,[.val],[.bool],false⟩]⟩
theorem zw:Has Tryz.prog 143 JF ga:=fp (R:=al) (tr:=false) (E:=[(128,0,Ew),(175,1,c_dg),(168,2,c_gw)]) (Φ:=H6) (t:=t_bm) ⟨oY,Eg,Ex,trivial⟩ Tryz.f143 hE (by kernel_rfl)
def c_cy:Con:=⟨[.ro true kD,.ro false [.list]],[⟨true,[.val,(.arr 162 [.val,.val,(.arr 3 [.val])]),.val,(.arr 96 v4)],kD,false⟩,⟨false,[.val],[.bool],false⟩]⟩
theorem Lp:Has Tryz.prog 100 c_cy wA:=fp (R:=al) (tr:=false) (E:=[(69,0,Ce),(74,1,Es),(128,2,Ew),(142,3,Ed),(143,4,JF)]) (Φ:=H7) (t:=t_cy) ⟨lP,oX,oY,oS,zw,trivial⟩ Tryz.f100 hE (by kernel_rfl)
def c_ed:Con:=⟨[.ro true kD,.ro false [kI]],[⟨true,[.val,(.arr 162 [.val,.val,(.arr 3 [.val])]),.val,(.arr 96 v4)],kD,false⟩,⟨false,[.val],[.bool],false⟩]⟩
theorem Lq:Has Tryz.prog 101 c_ed wB:=fp (R:=al) (tr:=false) (E:=[(69,0,Ce),(125,1,JB),(74,2,Es),(143,3,JF)]) (Φ:=H8) (t:=t_ed) ⟨lP,zr,oX,zw,trivial⟩ Tryz.f101 hE (by kernel_rfl)
def c_cd:Con:=⟨[.ro true kD,.ro false [kI],.ro false [kI],.ro false [kI]],[⟨false,[.val],[.bool],false⟩]⟩
theorem Ey:Has Tryz.prog 129 c_cd pQ:=fp (R:=al) (tr:=false) (E:=[(121,0,JC)]) (Φ:=H9) (t:=t_cd) ⟨zt,trivial⟩ Tryz.f129 hE (by kernel_rfl)
def c_bk:Con:=⟨[.ro true kD],[⟨false,[.val],[.list],false⟩]⟩
def h_bk:How:=⟨ar [(0,⟨[kI,.list],[(4,(.sl 1000)),(23,(sI 0))],[(1000,.arr 96 v4 (.v 1))],[],1⟩),(2,⟨[kI,.list],[(4,(.sl 1000)),(38,(sI 0))],[(1000,.arr 96 v4 (.v 1))],[2],1⟩)],
 ar [],
 ar []⟩
theorem Ez:Has Tryz.prog 81 c_bk pR:=fp (R:=al) (tr:=false) (E:=[(128,0,Ew),(129,1,c_cd)]) (Φ:=Ib) (t:=t_bk) ⟨oY,Ey,trivial⟩ Tryz.f81 h_bk (by kernel_rfl)
def c_br:Con:=⟨[.ptr [.val,(.arr 162 [.val,.val,(.arr 3 [.val])]),.val,(.arr 96 v4),(.arr 93 [.val,.val,.val,(.arr 162 [.val,.val,(.arr 3 [.val])]),.val]),(.arr 96 v4)] kW,.ro true kJ],[]⟩
theorem EA:Has Tryz.prog 102 c_br iM:=fp (R:=al) (tr:=false) (E:=[]) (Φ:=ph []) (t:=t_br) trivial Tryz.f102 hE (by kernel_rfl)
theorem Lr:Has Tryz.prog 144 (lV 96) qg:=yA (ρ:=⟨fun _=>144,fun t=>match t with|22=>35|23=>96|3=>3|4=>4|_=>0,fun x=>x⟩) ⟨nQ,⟨Tryz.f144.name,by kernel_rfl,by kernel_rfl⟩,by kernel_rfl,by kernel_rfl,by kernel_rfl,by kernel_rfl⟩ rfl
def c_ar:Con:=lV 96
def c_bj:Con:=⟨[.ro true kD,.ro false [kI],.ro false [kI],.ro false [.list]],[⟨false,[.val],[.bool],false⟩,⟨false,[.val],[.bool],false⟩]⟩
def h_bj:How:=⟨ar [(0,⟨[.bool,.bool,kI],[(8,(.bool (.v 0))),(9,(.bool (.v 1))),(15,(sI 2))],[],[],0⟩)],
 ar [],
 ar []⟩
theorem Ls:Has Tryz.prog 170 c_bj mh:=fp (R:=al) (tr:=false) (E:=[(129,0,c_cd)]) (Φ:=Ic) (t:=t_bj) ⟨Ey,trivial⟩ Tryz.f170 h_bj (by kernel_rfl)
def c_bd:Con:=⟨[.ptr [.val,(.arr 162 [.val,.val,(.arr 3 [.val])]),.val,(.arr 96 v4)] kD,.ro false [kI]],[]⟩
def h_bd:How:=⟨ar [],
 ar [(9,⟨[.bool],[(82,(.bool (.v 0)))],[],[],0⟩),(7,⟨[.bool],[(71,(.bool (.v 0)))],[],[],0⟩)],
 ar []⟩
theorem Lt:Has Tryz.prog 131 c_bd sL:=fp (R:=al) (tr:=false) (E:=[(128,0,Ew),(170,1,c_bj),(171,2,c_eu),(143,3,JF)]) (Φ:=E5) (t:=t_bd) ⟨oY,Ls,Ef,zw,trivial⟩ Tryz.f131 h_bd (by kernel_rfl)
def JG:Con:=⟨[.ptr [.val,(.arr 162 [.val,.val,(.arr 3 [.val])]),.val,(.arr 96 v4)] kD,.ro true kJ],[]⟩
theorem zx:Has Tryz.prog 83 JG lx:=fp (R:=al) (tr:=false) (E:=[(73,0,F9),(120,1,Ej),(128,2,Ew),(121,3,JC),(131,4,c_bd)]) (Φ:=Ie) (t:=t_cv) ⟨ts,oU,oY,zt,Lt,trivial⟩ Tryz.f83 hE (by kernel_rfl)
def c_be:Con:=⟨[.ro true kH,.ro false [.bool]],[⟨true,[.val,.val],[kI,.list],false⟩]⟩
theorem EB:Has Tryz.prog 167 c_be mi:=fp (R:=al) (tr:=false) (E:=[(165,0,c_cx),(123,1,c_fu)]) (Φ:=If) (t:=t_be) ⟨Eu,Em,trivial⟩ Tryz.f167 hE (by kernel_rfl)
def c_ay:Con:=⟨[.ro true kH,.ro true kJ],[⟨false,[.val],[kI],false⟩]⟩
def h_ay:How:=⟨ar [],
 ar [(5,⟨[.bool],[(33,(.bool (.v 0)))],[],[],0⟩),(3,⟨[.bool],[(25,(.bool (.v 0)))],[],[],0⟩)],
 ar []⟩
theorem Lu:Has Tryz.prog 169 c_ay wC:=fp (R:=al) (tr:=false) (E:=[(167,0,c_be)]) (Φ:=Ig) (t:=t_ay) ⟨EB,trivial⟩ Tryz.f169 h_ay (by kernel_rfl)
def c_cb:Con:=⟨[.ro true kH,.ro true kJ],[⟨true,[.val,.val,.val,(.arr 162 [.val,.val,(.arr 3 [.val])]),.val],kH,false⟩,⟨true,v4,kJ,false⟩,⟨false,[.val],[.bool],false⟩]⟩
def h_cb:How:=⟨ar [],
 ar [(9,⟨[.list],[],[(6,.cells [(sI 1005),(sI 1007),(.sl 1000)]),(1000,.arr 3 [.val] (.v 0))],[],1⟩)],
 ar []⟩
theorem EC:Has Tryz.prog 130 c_cb pS:=fp (R:=al) (tr:=false) (E:=[(70,0,En),(76,1,Ga),(73,2,F9),(120,3,Ej),(167,4,c_be),(166,5,c_df),(168,6,c_gw),(169,7,c_ay)]) (Φ:=Ih) (t:=t_cb) ⟨oV,tu,ts,oU,EB,El,Ex,Lu,trivial⟩ Tryz.f130 h_cb (by kernel_rfl)
def c_bi:Con:=⟨[.ptr [.val,(.arr 162 [.val,.val,(.arr 3 [.val])]),.val,(.arr 96 v4),(.arr 93 [.val,.val,.val,(.arr 162 [.val,.val,(.arr 3 [.val])]),.val]),(.arr 96 v4)] kW,.ro true kJ],[⟨true,v4,kJ,false⟩,⟨false,[.val],[.bool],false⟩]⟩
theorem Lv:Has Tryz.prog 82 c_bi sM:=fp (R:=al) (tr:=false) (E:=[(120,0,Ej),(83,1,JG),(130,2,c_cb)]) (Φ:=Ii) (t:=t_bi) ⟨oU,zx,EC,trivial⟩ Tryz.f82 hE (by kernel_rfl)
def c_ct:Con:=⟨[.ptr [.val,(.arr 162 [.val,.val,(.arr 3 [.val])]),.val,(.arr 96 v4),(.arr 93 [.val,.val,.val,(.arr 162 [.val,.val,(.arr 3 [.val])]),.val]),(.arr 96 v4)] kW,.ro true [kI,kI,kI,.list]],[]⟩
def h_ct:How:=⟨ar [],
 ar [(3,⟨kJ,[(4,(.ptr 1000 0))],[(1000,.cells [(sI 0),(sI 1),(sI 2),(sI 3)])],[],1⟩)],
 ar []⟩
theorem Lw:Has Tryz.prog 103 c_ct wD:=fp (R:=al) (tr:=false) (E:=[(39,0,kV),(102,1,c_br),(144,2,c_ar),(82,3,c_bi)]) (Φ:=Ij) (t:=t_ct) ⟨dl,EA,Lr,Lv,trivial⟩ Tryz.f103 h_ct (by kernel_rfl)
def c_dw:Con:=⟨[.ro true [.list,kI]],[⟨true,[(.arr 162 [.val,.val,(.arr 3 [.val])]),.val],[.list,kI],false⟩]⟩
theorem ED:Has Tryz.prog 132 c_dw pT:=fp (R:=al) (tr:=false) (E:=[(118,0,Ee),(164,1,JD)]) (Φ:=Ik) (t:=t_dw) ⟨oT,zu,trivial⟩ Tryz.f132 hE (by kernel_rfl)
def c_cq:Con:=⟨[.ro true kD],[⟨true,[.val,(.arr 162 [.val,.val,(.arr 3 [.val])]),.val,(.arr 96 v4)],kD,false⟩]⟩
theorem Lx:Has Tryz.prog 84 c_cq wE:=fp (R:=al) (tr:=false) (E:=[(69,0,Ce),(74,1,Es),(132,2,c_dw)]) (Φ:=Il) (t:=t_cq) ⟨lP,oX,ED,trivial⟩ Tryz.f84 hE (by kernel_rfl)
def c_bz:Con:=⟨[.ro true kH],[⟨true,[.val,.val,.val,(.arr 162 [.val,.val,(.arr 3 [.val])]),.val],kH,false⟩]⟩
theorem Ly:Has Tryz.prog 85 c_bz wF:=fp (R:=al) (tr:=false) (E:=[(70,0,En),(76,1,Ga),(132,2,c_dw)]) (Φ:=In) (t:=t_bz) ⟨oV,tu,ED,trivial⟩ Tryz.f85 hE (by kernel_rfl)
def c_ab:Con:=⟨[.ptr [.val,(.arr 162 [.val,.val,(.arr 3 [.val])]),.val,(.arr 96 v4),(.arr 93 [.val,.val,.val,(.arr 162 [.val,.val,(.arr 3 [.val])]),.val]),(.arr 96 v4)] kW,.ro false [kI],.fn 84 [],.fn 85 []],[]⟩
theorem EE:Has Tryz.prog 77 c_ab pU:=fp (R:=al) (tr:=false) (E:=[(122,0,Cd),(84,1,c_cq),(85,2,c_bz)]) (Φ:=Io) (t:=t_ab) ⟨lO,Lx,Ly,trivial⟩ Tryz.f77 hE (by kernel_rfl)
def c_fk:Con:=⟨[.ro true [.list,kI],.ro false [kI]],[⟨true,[(.arr 162 [.val,.val,(.arr 3 [.val])]),.val],[.list,kI],false⟩]⟩
theorem EF:Has Tryz.prog 145 c_fk pV:=fp (R:=al) (tr:=false) (E:=[(118,0,Ee),(164,1,JD)]) (Φ:=Iq) (t:=t_fk) ⟨oT,zu,trivial⟩ Tryz.f145 hE (by kernel_rfl)
def c_dm:Con:=⟨[.ro true kD,.ro false [kI]],[⟨true,[.val,(.arr 162 [.val,.val,(.arr 3 [.val])]),.val,(.arr 96 v4)],kD,false⟩]⟩
theorem Lz:Has Tryz.prog 105 c_dm wG:=fp (R:=al) (tr:=false) (E:=[(69,0,Ce),(145,1,c_fk)]) (Φ:=Ir) (t:=t_dm) ⟨lP,EF,trivial⟩ Tryz.f105 hE (by kernel_rfl)
def c_bw:Con:=⟨[.ro true kD,.rptr [kI,kI,kI,.list]],[⟨true,[.val,(.arr 162 [.val,.val,(.arr 3 [.val])]),.val,(.arr 96 v4)],kD,false⟩]⟩
theorem LA:Has Tryz.prog 104 c_bw wH:=fp (R:=al) (tr:=false) (E:=[(105,0,c_dm)]) (Φ:=Is) (t:=t_bw) ⟨Lz,trivial⟩ Tryz.f104 hE (by kernel_rfl)
def c_cc:Con:=⟨[.ro true kH,.ro false [kI]],[⟨true,[.val,.val,.val,(.arr 162 [.val,.val,(.arr 3 [.val])]),.val],kH,false⟩]⟩
theorem LB:Has Tryz.prog 107 c_cc wI:=fp (R:=al) (tr:=false) (E:=[(70,0,En),(145,1,c_fk)]) (Φ:=It) (t:=t_cc) ⟨oV,EF,trivial⟩ Tryz.f107 hE (by kernel_rfl)
def c_bl:Con:=⟨[.ro true kH,.rptr [kI,kI,kI,.list]],[⟨true,[.val,.val,.val,(.arr 162 [.val,.val,(.arr 3 [.val])]),.val],kH,false⟩]⟩
theorem LC:Has Tryz.prog 106 c_bl wJ:=fp (R:=al) (tr:=false) (E:=[(107,0,c_cc)]) (Φ:=Iu) (t:=t_bl) ⟨LB,trivial⟩ Tryz.f106 hE (by kernel_rfl)
def c_aa:Con:=⟨[.ptr [.val,(.arr 162 [.val,.val,(.arr 3 [.val])]),.val,(.arr 96 v4),(.arr 93 [.val,.val,.val,(.arr 162 [.val,.val,(.arr 3 [.val])]),.val]),(.arr 96 v4)] kW,.ro false [kI],.fn 104 [[kI,kI,kI,.list]],.fn 106 [[kI,kI,kI,.list]]],[]⟩
theorem LD:Has Tryz.prog 77 c_aa wK:=fp (R:=al) (tr:=false) (E:=[(122,0,Cd),(104,1,c_bw),(106,2,c_bl)]) (Φ:=Iv) (t:=t_aa) ⟨lO,LA,LC,trivial⟩ Tryz.f77 hE (by kernel_rfl)
def c_ec:Con:=⟨[.ro true kD],[⟨true,[.val,(.arr 162 [.val,.val,(.arr 3 [.val])]),.val,(.arr 96 v4)],kD,false⟩]⟩
theorem LF:Has Tryz.prog 78 c_ec wL:=fp (R:=al) (tr:=false) (E:=[(69,0,Ce),(74,1,Es)]) (Φ:=Ix) (t:=t_ec) ⟨lP,oX,trivial⟩ Tryz.f78 hE (by kernel_rfl)
def c_cl:Con:=⟨[.ro true kH],[⟨true,[.val,.val,.val,(.arr 162 [.val,.val,(.arr 3 [.val])]),.val],kH,false⟩]⟩
theorem LG:Has Tryz.prog 79 c_cl wM:=fp (R:=al) (tr:=false) (E:=[(70,0,En),(76,1,Ga)]) (Φ:=Iy) (t:=t_cl) ⟨oV,tu,trivial⟩ Tryz.f79 hE (by kernel_rfl)
def c_af:Con:=⟨[.ptr [.val,(.arr 162 [.val,.val,(.arr 3 [.val])]),.val,(.arr 96 v4),(.arr 93 [.val,.val,.val,(.arr 162 [.val,.val,(.arr 3 [.val])]),.val]),(.arr 96 v4)] kW,.ro false [kI],.fn 78 [],.fn 79 []],[]⟩
theorem EG:Has Tryz.prog 77 c_af pW:=fp (R:=al) (tr:=false) (E:=[(122,0,Cd),(78,1,c_ec),(79,2,c_cl)]) (Φ:=Iz) (t:=t_af) ⟨lO,LF,LG,trivial⟩ Tryz.f77 hE (by kernel_rfl)
def c_da:Con:=⟨[.ptr [.val,(.arr 162 [.val,.val,(.arr 3 [.val])]),.val,(.arr 96 v4),(.arr 93 [.val,.val,.val,(.arr 162 [.val,.val,(.arr 3 [.val])]),.val]),(.arr 96 v4)] kW,.ro true [kI,kI,kI,.list]],[]⟩
def h_da:How:=⟨ar [],
 ar [(17,⟨[.bool],[(65,(.bool (.v 0)))],[],[],0⟩)],
 ar []⟩
theorem EH:Has Tryz.prog 54 c_da mj:=fp (R:=al) (tr:=false) (E:=[(100,0,c_cy),(101,1,c_ed),(81,2,c_bk),(39,3,kV),(102,4,c_br),(103,5,c_ct),(77,6,c_ab),(77,7,c_aa),(77,8,c_af)]) (Φ:=IB) (t:=t_da) ⟨Lp,Lq,Ez,dl,EA,Lw,EE,LD,EG,trivial⟩ Tryz.f54 h_da (by kernel_rfl)
def c_ep:Con:=⟨[.ro true kW,.ro true [kI,kI,kI,.list]],[⟨true,[.val,(.arr 162 [.val,.val,(.arr 3 [.val])]),.val,(.arr 96 v4),(.arr 93 [.val,.val,.val,(.arr 162 [.val,.val,(.arr 3 [.val])]),.val]),(.arr 96 v4)],kW,false⟩]⟩
theorem LH:Has Tryz.prog 25 c_ep sO:=fp (R:=al) (tr:=false) (E:=[(38,0,c_ei),(40,1,c_bc),(54,2,c_da)]) (Φ:=IC) (t:=t_ep) ⟨Eo,Et,EH,trivial⟩ Tryz.f25 hE (by kernel_rfl)
def JH:Con:=⟨[.ro false [.list],.ro false [.list]],[⟨false,[.val],[.bool],false⟩]⟩
def h_gj:How:=⟨ar [(0,⟨[kI],[(4,(.bool (.b false))),(5,(sI 0))],[],[],0⟩)],
 ar [],
 ar []⟩
theorem zy:Has Tryz.prog 18 JH ly:=fp (R:=al) (tr:=false) (E:=[]) (Φ:=ph []) (t:=t_gj) trivial Tryz.f18 h_gj (by kernel_rfl)
def c_hc:Con:=⟨[.ro true [kI,kI,.list],.ro true [kI,kI,.list]],[⟨false,[.val],[.bool],false⟩]⟩
theorem LI:Has Tryz.prog 172 c_hc wN:=fp (R:=al) (tr:=false) (E:=[(18,0,JH)]) (Φ:=ID) (t:=t_hc) ⟨zy,trivial⟩ Tryz.f172 hE (by kernel_rfl)
def c_gb:Con:=⟨[.ro false [.list],.ro false [.list]],[⟨false,[.val],[.bool],false⟩]⟩
def h_gb:How:=⟨ar [(0,⟨[kI],[(4,(.bool (.b false))),(5,(sI 0))],[],[],0⟩)],
 ar [],
 ar []⟩
theorem LJ:Has Tryz.prog 133 c_gb wO:=fp (R:=al) (tr:=false) (E:=[(172,0,c_hc)]) (Φ:=IE) (t:=t_gb) ⟨LI,trivial⟩ Tryz.f133 h_gb (by kernel_rfl)
def c_hb:Con:=⟨[.ro true [.list,kI],.ro true [.list,kI]],[⟨false,[.val],[.bool],false⟩]⟩
theorem EI:Has Tryz.prog 86 c_hb pX:=fp (R:=al) (tr:=false) (E:=[(133,0,c_gb)]) (Φ:=IF) (t:=t_hb) ⟨LJ,trivial⟩ Tryz.f86 hE (by kernel_rfl)
def c_gp:Con:=⟨[.ro true kJ,.ro true kJ],[⟨false,[.val],[.bool],false⟩]⟩
theorem LK:Has Tryz.prog 88 c_gp wP:=fp (R:=al) (tr:=false) (E:=[]) (Φ:=ph []) (t:=t_gp) trivial Tryz.f88 hE (by kernel_rfl)
def c_fo:Con:=⟨[.ro false [.list],.ro false [.list]],[⟨false,[.val],[.bool],false⟩]⟩
def h_fo:How:=⟨ar [(0,⟨[kI],[(4,(.bool (.b false))),(5,(sI 0))],[],[],0⟩)],
 ar [],
 ar []⟩
theorem EJ:Has Tryz.prog 44 c_fo pY:=fp (R:=al) (tr:=false) (E:=[(88,0,c_gp)]) (Φ:=IG) (t:=t_fo) ⟨LK,trivial⟩ Tryz.f44 h_fo (by kernel_rfl)
def c_gq:Con:=⟨[.ro true kD,.ro true kD],[⟨false,[.val],[.bool],false⟩]⟩
theorem LM:Has Tryz.prog 42 c_gq wQ:=fp (R:=al) (tr:=false) (E:=[(86,0,c_hb),(44,1,c_fo)]) (Φ:=IH) (t:=t_gq) ⟨EI,EJ,trivial⟩ Tryz.f42 hE (by kernel_rfl)
def c_en:Con:=⟨[.ro true kH,.ro true kH],[⟨false,[.val],[.bool],false⟩]⟩
theorem LN:Has Tryz.prog 87 c_en wR:=fp (R:=al) (tr:=false) (E:=[(86,0,c_hb)]) (Φ:=II) (t:=t_en) ⟨EI,trivial⟩ Tryz.f87 hE (by kernel_rfl)
def c_dd:Con:=⟨[.ro false [.list],.ro false [.list]],[⟨false,[.val],[.bool],false⟩]⟩
def h_dd:How:=⟨ar [(0,⟨[kI],[(4,(.bool (.b false))),(5,(sI 0))],[],[],0⟩)],
 ar [],
 ar []⟩
theorem LO:Has Tryz.prog 43 c_dd wS:=fp (R:=al) (tr:=false) (E:=[(87,0,c_en)]) (Φ:=IJ) (t:=t_dd) ⟨LN,trivial⟩ Tryz.f43 h_dd (by kernel_rfl)
def JI:Con:=⟨[.ro true kW,.ro true kW],[⟨false,[.val],[.bool],false⟩]⟩
theorem zz:Has Tryz.prog 10 JI lz:=fp (R:=al) (tr:=false) (E:=[(42,0,c_gq),(43,1,c_dd),(44,2,c_fo)]) (Φ:=IK) (t:=t_fq) ⟨LM,LO,EJ,trivial⟩ Tryz.f10 hE (by kernel_rfl)
def c_el:Con:=⟨[.ro true [kI,kI,kI,.list],.ro true [kI,kI,kI,.list]],[⟨false,[.val],[.bool],false⟩]⟩
theorem EK:Has Tryz.prog 26 c_el pZ:=fp (R:=al) (tr:=false) (E:=[(18,0,JH)]) (Φ:=IL) (t:=t_el) ⟨zy,trivial⟩ Tryz.f26 hE (by kernel_rfl)
def Gb:Con:=⟨[.own false [(.arr 3 [.val])] [.list] true,.ro false [kI]],[⟨false,[.val],[kI],false⟩]⟩
def h_ds:How:=⟨ar [(0,⟨[kI,kI,.list],[(1,(sI 0)),(5,(sI 1))],[(0,.arr 3 [.val] (.v 2))],[],0⟩)],
 ar [],
 ar []⟩
theorem tv:Has Tryz.prog 20 Gb iN:=fp (R:=al) (tr:=false) (E:=[]) (Φ:=ph []) (t:=t_ds) trivial Tryz.f20 h_ds (by kernel_rfl)
def c_dc:Con:=⟨[.own false [(.arr 162 [.val,.val,(.arr 3 [.val])])] [.list] true,.ro false [kI]],[⟨false,[.val],[kI],false⟩]⟩
def h_dc:How:=⟨ar [(0,⟨[kI,kI,.list],[(1,(sI 0)),(5,(sI 1))],[(0,.arr 162 [.val,.val,(.arr 3 [.val])] (.v 2))],[],0⟩)],
 ar [],
 ar []⟩
theorem EL:Has Tryz.prog 90 c_dc p8:=fp (R:=al) (tr:=false) (E:=[(20,0,Gb)]) (Φ:=IM) (t:=t_dc) ⟨tv,trivial⟩ Tryz.f90 h_dc (by kernel_rfl)
def c_ej:Con:=⟨[.own true [(.arr 162 [.val,.val,(.arr 3 [.val])]),.val] [.list,kI] true,.ro false [kI]],[⟨false,[.val],[kI],false⟩]⟩
theorem LP:Has Tryz.prog 89 c_ej wT:=fp (R:=al) (tr:=false) (E:=[(90,0,c_dc)]) (Φ:=IN) (t:=t_ej) ⟨EL,trivial⟩ Tryz.f89 hE (by kernel_rfl)
def c_cw:Con:=⟨[.own false [(.arr 96 v4)] [.list] true,.ro false [kI]],[⟨false,[.val],[kI],false⟩]⟩
def h_cw:How:=⟨ar [(0,⟨[kI,kI,.list],[(1,(sI 0)),(5,(sI 1))],[(0,.arr 96 v4 (.v 2))],[],0⟩)],
 ar [],
 ar []⟩
theorem EM:Has Tryz.prog 47 c_cw p9:=fp (R:=al) (tr:=false) (E:=[]) (Φ:=ph []) (t:=t_cw) trivial Tryz.f47 h_cw (by kernel_rfl)
def c_di:Con:=⟨[.own true [.val,(.arr 162 [.val,.val,(.arr 3 [.val])]),.val,(.arr 96 v4)] kD true,.ro false [kI]],[⟨false,[.val],[kI],false⟩]⟩
theorem LQ:Has Tryz.prog 45 c_di wU:=fp (R:=al) (tr:=false) (E:=[(89,0,c_ej),(47,1,c_cw)]) (Φ:=IP) (t:=t_di) ⟨LP,EM,trivial⟩ Tryz.f45 hE (by kernel_rfl)
def c_bn:Con:=⟨[.own false [(.arr 93 [.val,.val,.val,(.arr 162 [.val,.val,(.arr 3 [.val])]),.val])] [.list] true,.ro false [kI]],[⟨false,[.val],[kI],false⟩]⟩
def h_bn:How:=⟨ar [(0,⟨[kI,kI,.list],[(1,(sI 0)),(5,(sI 1))],[(0,.arr 93 [.val,.val,.val,(.arr 162 [.val,.val,(.arr 3 [.val])]),.val] (.v 2))],[],0⟩)],
 ar [],
 ar []⟩
theorem LR:Has Tryz.prog 46 c_bn wV:=fp (R:=al) (tr:=false) (E:=[(90,0,c_dc)]) (Φ:=IQ) (t:=t_bn) ⟨EL,trivial⟩ Tryz.f46 h_bn (by kernel_rfl)
def JJ:Con:=⟨[.own true [.val,(.arr 162 [.val,.val,(.arr 3 [.val])]),.val,(.arr 96 v4),(.arr 93 [.val,.val,.val,(.arr 162 [.val,.val,(.arr 3 [.val])]),.val]),(.arr 96 v4)] kW true,.ro false [kI]],[⟨false,[.val],[kI],false⟩]⟩
theorem zA:Has Tryz.prog 11 JJ lB:=fp (R:=al) (tr:=false) (E:=[(45,0,c_di),(46,1,c_bn),(47,2,c_cw)]) (Φ:=IR) (t:=t_cm) ⟨LQ,LR,EM,trivial⟩ Tryz.f11 hE (by kernel_rfl)
def c_cf:Con:=⟨[.own true [.val,.val,.val,(.arr 3 [.val])] [kI,kI,kI,.list] true,.ro false [kI]],[⟨false,[.val],[kI],false⟩]⟩
theorem LS:Has Tryz.prog 27 c_cf wW:=fp (R:=al) (tr:=false) (E:=[(20,0,Gb)]) (Φ:=IS) (t:=t_cf) ⟨tv,trivial⟩ Tryz.f27 hE (by kernel_rfl)
def c_dv:Con:=⟨[.ro false [.list],.ro false [kI]],[⟨false,[.val],[kI],false⟩]⟩
def h_dv:How:=⟨ar [(0,⟨[kI,kI],[(4,(.int .i64 (.n 0))),(1,(sI 0)),(5,(sI 1))],[],[],0⟩)],
 ar [],
 ar []⟩
theorem LU:Has Tryz.prog 134 c_dv wX:=fp (R:=al) (tr:=false) (E:=[]) (Φ:=ph []) (t:=t_dv) trivial Tryz.f134 h_dv (by kernel_rfl)
def c_ea:Con:=⟨[.ro false [.list],.ro false [kI]],[⟨false,[.val],[kI],false⟩]⟩
def h_ea:How:=⟨ar [(0,⟨[kI,kI],[(4,(.int .i64 (.n 0))),(1,(sI 0)),(5,(sI 1))],[],[],0⟩)],
 ar [],
 ar []⟩
theorem EN:Has Tryz.prog 92 c_ea qa:=fp (R:=al) (tr:=false) (E:=[(134,0,c_dv)]) (Φ:=IT) (t:=t_ea) ⟨LU,trivial⟩ Tryz.f92 h_ea (by kernel_rfl)
def c_ev:Con:=⟨[.ro true [.list,kI],.ro false [kI]],[⟨false,[.val],[kI],false⟩]⟩
theorem LV:Has Tryz.prog 91 c_ev wY:=fp (R:=al) (tr:=false) (E:=[(92,0,c_ea)]) (Φ:=IU) (t:=t_ev) ⟨EN,trivial⟩ Tryz.f91 hE (by kernel_rfl)
def c_cr:Con:=⟨[.ro false [.list],.ro false [kI]],[⟨false,[.val],[kI],false⟩]⟩
def h_cr:How:=⟨ar [(0,⟨[kI,kI],[(4,(.int .i64 (.n 0))),(1,(sI 0)),(5,(sI 1))],[],[],0⟩)],
 ar [],
 ar []⟩
theorem EO:Has Tryz.prog 50 c_cr qb:=fp (R:=al) (tr:=false) (E:=[]) (Φ:=ph []) (t:=t_cr) trivial Tryz.f50 h_cr (by kernel_rfl)
def c_cz:Con:=⟨[.ro true kD,.ro false [kI]],[⟨false,[.val],[kI],false⟩]⟩
theorem LW:Has Tryz.prog 48 c_cz wZ:=fp (R:=al) (tr:=false) (E:=[(91,0,c_ev),(50,1,c_cr)]) (Φ:=IV) (t:=t_cz) ⟨LV,EO,trivial⟩ Tryz.f48 hE (by kernel_rfl)
def c_bv:Con:=⟨[.ro false [.list],.ro false [kI]],[⟨false,[.val],[kI],false⟩]⟩
def h_bv:How:=⟨ar [(0,⟨[kI,kI],[(4,(.int .i64 (.n 0))),(1,(sI 0)),(5,(sI 1))],[],[],0⟩)],
 ar [],
 ar []⟩
theorem LX:Has Tryz.prog 49 c_bv w8:=fp (R:=al) (tr:=false) (E:=[(92,0,c_ea)]) (Φ:=IW) (t:=t_bv) ⟨EN,trivial⟩ Tryz.f49 h_bv (by kernel_rfl)
def JK:Con:=⟨[.ro true kW,.ro false [kI]],[⟨false,[.val],[kI],false⟩]⟩
theorem zB:Has Tryz.prog 12 JK jA:=fp (R:=al) (tr:=false) (E:=[(48,0,c_cz),(49,1,c_bv),(50,2,c_cr)]) (Φ:=IX) (t:=t_cj) ⟨LW,LX,EO,trivial⟩ Tryz.f12 hE (by kernel_rfl)
def c_fj:Con:=⟨[.own true [.val,(.arr 162 v3),.val,(.arr 96 v4),(.arr 93 [.val,.val,.val,(.arr 162 v3),.val]),(.arr 96 v4)] kW false],[⟨true,[.val,(.arr 162 v3),.val,(.arr 96 v4),(.arr 93 [.val,.val,.val,(.arr 162 v3),.val]),(.arr 96 v4)],kW,false⟩]⟩
def h_fj:How:=⟨ar [(4,⟨[kI,.bool,kI,.list,.list,.list,.list],[(12,(sI 0))],[(4,.cells [(.bool (.v 1)),(.sl 1000),(sI 2),(.sl 1001),(.sl 1002),(.sl 1003)]),(1000,.arr 162 v3 (.v 3)),(1001,.arr 96 v4 (.v 4)),(1002,.arr 93 [.val,.val,.val,(.arr 162 v3),.val] (.v 5)),(1003,.arr 96 v4 (.v 6))],[10,11,12,13],4⟩),(2,⟨[kI,.bool,kI,.list,.list,.list,.list],[(5,(sI 0))],[(4,.cells [(.bool (.v 1)),(.sl 1000),(sI 2),(.sl 1001),(.sl 1002),(.sl 1003)]),(1000,.arr 162 v3 (.v 3)),(1001,.arr 96 v4 (.v 4)),(1002,.arr 93 [.val,.val,.val,(.arr 162 v3),.val] (.v 5)),(1003,.arr 96 v4 (.v 6))],[9,2,0,1],4⟩),(0,⟨[kI,.list],[(3,(sI 0))],[(2,.arr 93 [.val,.val,.val,(.arr 162 v3),.val] (.v 1))],[],0⟩)],
 ar [],
 ar []⟩
theorem LY:Has Tryz.prog 34 c_fj w9:=fp (R:=bc) (tr:=false) (E:=[(63,0,c_dk),(64,1,c_ek),(65,2,c_dr)]) (Φ:=IY) (t:=t_fj) ⟨D6,D8,D9,trivial⟩ Tryz.f34 h_fj (by kernel_rfl)
def c_cn:Con:=⟨[.ro true kW,.ro false [kI]],[⟨true,[.val,(.arr 162 v3),.val,(.arr 96 v4),(.arr 93 [.val,.val,.val,(.arr 162 v3),.val]),(.arr 96 v4)],kW,false⟩]⟩
def h_cn:How:=⟨ar [(0,⟨[kI,.bool,kI,.list,.list,.list,.list],[(6,(sI 0))],[(6,.cells [(.bool (.v 1)),(.sl 1000),(sI 2),(.sl 1001),(.sl 1002),(.sl 1003)]),(1000,.arr 162 v3 (.v 3)),(1001,.arr 96 v4 (.v 4)),(1002,.arr 93 [.val,.val,.val,(.arr 162 v3),.val] (.v 5)),(1003,.arr 96 v4 (.v 6))],[2,3,4,5],4⟩)],
 ar [],
 ar []⟩
theorem LZ:Has Tryz.prog 7 c_cn xa:=fp (R:=bc) (tr:=false) (E:=[(31,0,c_ex),(32,1,oN),(33,2,c_fv),(34,3,c_fj)]) (Φ:=IZ) (t:=t_cn) ⟨D0,ej,D2,LY,trivial⟩ Tryz.f7 h_cn (by kernel_rfl)
theorem Ma:Has Tryz.prog 127 (fy 96) nG:=Dl (ρ:=⟨fun _=>127,fun t=>match t with|22=>35|25=>96|3=>3|4=>4|9=>9|20=>20|_=>0,fun x=>x⟩) ⟨nQ,⟨Tryz.f127.name,by kernel_rfl,by kernel_rfl⟩,by kernel_rfl,by kernel_rfl,by kernel_rfl,by kernel_rfl⟩ rfl
def c_aw:Con:=fy 96
def c_aq:Con:=⟨[.ro false [.list]],[⟨false,[(.arr 96 v4)],[.list],false⟩]⟩
def h_aq:How:=⟨ar [(2,⟨[kI,.list],[(6,(.sl 1000)),(27,(sI 0))],[(1000,.arr 96 v4 (.v 1))],[0],1⟩),(0,⟨[kI,kI],[(3,(sI 0)),(11,(sI 1))],[],[],0⟩)],
 ar [],
 ar []⟩
theorem Mb:Has Tryz.prog 80 c_aq xb:=fp (R:=al) (tr:=false) (E:=[(127,0,c_aw)]) (Φ:=Ja) (t:=t_aq) ⟨Ma,trivial⟩ Tryz.f80 h_aq (by kernel_rfl)
def c_ba:Con:=⟨[.ptr [.val,(.arr 162 [.val,.val,(.arr 3 [.val])]),.val,(.arr 96 v4),(.arr 93 [.val,.val,.val,(.arr 162 [.val,.val,(.arr 3 [.val])]),.val]),.val] kW,.ro true kJ],[⟨true,v4,kJ,false⟩,⟨false,[.val],[.bool],false⟩]⟩
theorem Mc:Has Tryz.prog 82 c_ba xc:=fp (R:=al) (tr:=false) (E:=[(120,0,Ej),(83,1,JG),(130,2,c_cb)]) (Φ:=Jb) (t:=t_ba) ⟨oU,zx,EC,trivial⟩ Tryz.f82 hE (by kernel_rfl)
def c_bx:Con:=⟨[.ptr [.val,(.arr 162 [.val,.val,(.arr 3 [.val])]),.val,(.arr 96 v4),(.arr 93 [.val,.val,.val,(.arr 162 [.val,.val,(.arr 3 [.val])]),.val]),(.arr 96 v4)] kW],[]⟩
def h_bx:How:=⟨ar [(4,⟨[kI,.bool,kI,.list,.list,.list,.list],[(49,(sI 0))],[(0,.cells [(.bool (.v 1)),(.sl 1000),(sI 2),(.sl 1001),(.sl 1002),(.sl 1003)]),(1000,.arr 162 [.val,.val,(.arr 3 [.val])] (.v 3)),(1001,.arr 96 v4 (.v 4)),(1002,.arr 93 [.val,.val,.val,(.arr 162 [.val,.val,(.arr 3 [.val])]),.val] (.v 5)),(1003,.arr 96 v4 (.v 6))],[11,12,13],4⟩),(2,⟨[kI,.bool,kI,.list,.list,.list,.list],[(29,(sI 0))],[(0,.cells [(.bool (.v 1)),(.sl 1000),(sI 2),(.sl 1001),(.sl 1002),(.view true (.v 3))]),(1000,.arr 162 [.val,.val,(.arr 3 [.val])] (.v 4)),(1001,.arr 96 v4 (.v 5)),(1002,.arr 93 [.val,.val,.val,(.arr 162 [.val,.val,(.arr 3 [.val])]),.val] (.v 6))],[5,6,7],3⟩),(0,⟨[kI,.bool,kI,.list,.list,.list,.list],[(9,(sI 0))],[(0,.cells [(.bool (.v 1)),(.sl 1000),(sI 2),(.sl 1001),(.sl 1002),(.sl 1003)]),(1000,.arr 162 [.val,.val,(.arr 3 [.val])] (.v 3)),(1001,.arr 96 v4 (.v 4)),(1002,.arr 93 [.val,.val,.val,(.arr 162 [.val,.val,(.arr 3 [.val])]),.val] (.v 5)),(1003,.arr 96 v4 (.v 6))],[1,2,3,4],4⟩)],
 ar [],
 ar []⟩
theorem Md:Has Tryz.prog 41 c_bx xd:=fp (R:=al) (tr:=false) (E:=[(77,0,c_ab),(77,1,c_af),(81,2,c_bk),(80,3,c_aq),(82,4,c_ba),(83,5,JG)]) (Φ:=Jc) (t:=t_bx) ⟨EE,EG,Ez,Mb,Mc,zx,trivial⟩ Tryz.f41 h_bx (by kernel_rfl)
def c_ck:Con:=⟨[.ro true kW,.ro false [kI]],[⟨true,[.val,(.arr 162 [.val,.val,(.arr 3 [.val])]),.val,(.arr 96 v4),(.arr 93 [.val,.val,.val,(.arr 162 [.val,.val,(.arr 3 [.val])]),.val]),(.arr 96 v4)],kW,false⟩]⟩
def h_ck:How:=⟨ar [(0,⟨[kI,.bool,kI,.list,.list,.list,.list],[(18,(sI 0))],[(6,.cells [(.bool (.v 1)),(.sl 1000),(sI 2),(.sl 1001),(.sl 1002),(.sl 1003)]),(1000,.arr 162 [.val,.val,(.arr 3 [.val])] (.v 3)),(1001,.arr 96 v4 (.v 4)),(1002,.arr 93 [.val,.val,.val,(.arr 162 [.val,.val,(.arr 3 [.val])]),.val] (.v 5)),(1003,.arr 96 v4 (.v 6))],[2,3,4,5],4⟩)],
 ar [],
 ar []⟩
theorem Me:Has Tryz.prog 9 c_ck sY:=fp (R:=al) (tr:=false) (E:=[(38,0,c_ei),(39,1,kV),(40,2,c_bc),(41,3,c_bx)]) (Φ:=Jd) (t:=t_ck) ⟨Eo,dl,Et,Md,trivial⟩ Tryz.f9 h_ck (by kernel_rfl)
def c_dl:Con:=⟨[.ro false [.list],.ro false [kI]],[⟨false,[.val],[kI],false⟩]⟩
def h_dl:How:=⟨ar [(0,⟨[kI,kI],[(1,(sI 0)),(4,(.int .i64 (.n 0))),(5,(sI 1))],[],[],0⟩)],
 ar [],
 ar []⟩
theorem Mf:Has Tryz.prog 13 c_dl xe:=fp (R:=al) (tr:=false) (E:=[(22,0,c_fi)]) (Φ:=Jf) (t:=t_dl) ⟨DO,trivial⟩ Tryz.f13 h_dl (by kernel_rfl)
def c_dn:Con:=⟨[.ro false [.list]],[⟨false,[(.arr 63 [.val,.val,.val,(.arr 3 [.val])])],[.list],false⟩]⟩
def h_dn:How:=⟨ar [(0,⟨[kI,.list],[(4,(sI 0))],[(0,.arr 63 [.val,.val,.val,(.arr 3 [.val])] (.v 1))],[],0⟩)],
 ar [],
 ar []⟩
theorem Mg:Has Tryz.prog 16 c_dn xf:=fp (R:=al) (tr:=false) (E:=[(24,0,c_fb)]) (Φ:=Jg) (t:=t_dn) ⟨DS,trivial⟩ Tryz.f16 h_dn (by kernel_rfl)
def c_es:Con:=⟨[],[⟨true,[.val,(.arr 162 v3),.val,(.arr 96 v4)],kD,false⟩]⟩
theorem Mh:Has Tryz.prog 93 c_es xg:=fp (R:=bc) (tr:=false) (E:=[]) (Φ:=ph []) (t:=t_es) trivial Tryz.f93 hE (by kernel_rfl)
def c_dp:Con:=⟨[.ro false [kI],.ro false [kI]],[⟨true,[.val,.val,.val,(.arr 162 v3),.val],kH,false⟩,⟨false,[.val],[.bool],false⟩]⟩
theorem Mi:Has Tryz.prog 94 c_dp xh:=fp (R:=bc) (tr:=false) (E:=[(135,0,c_dq),(32,1,oN)]) (Φ:=Jh) (t:=t_dp) ⟨DX,ej,trivial⟩ Tryz.f94 hE (by kernel_rfl)
def c_dz:Con:=⟨[.ro false [.list]],[⟨true,[.val,(.arr 162 v3),.val,(.arr 96 v4),(.arr 93 [.val,.val,.val,(.arr 162 v3),.val]),(.arr 96 v4)],kW,false⟩,⟨false,[.val],[.bool],false⟩]⟩
def h_dz:How:=⟨ar [(0,⟨[kI,.list],[(3,(.bool (.b false))),(5,(sI 0))],[(4,.cells [(.bool (.v 1001)),(.sl 1),(sI 1003),(.sl 2),(.sl 1000),(.sl 3)]),(1000,.arr 93 [.val,.val,.val,(.arr 162 v3),.val] (.v 1))],[],1⟩)],
 ar [],
 ar []⟩
theorem Mj:Has Tryz.prog 51 c_dz xi:=fp (R:=bc) (tr:=false) (E:=[(93,0,c_es),(94,1,c_dp)]) (Φ:=Ji) (t:=t_dz) ⟨Mh,Mi,trivial⟩ Tryz.f51 h_dz (by kernel_rfl)
def c_ci:Con:=⟨[.ro false [.list],.ro false [.list]],[⟨true,[.val,.val,.val,.val,.val,.val],kW,false⟩,⟨false,[.val],[.bool],false⟩]⟩
def h_ci:How:=⟨ar [(0,⟨[kI,.bool,kI,.list,.list,.list,.list],[(8,(sI 0))],[(5,.cells [(.bool (.v 1)),(.sl 1000),(sI 2),(.sl 1001),(.sl 1002),(.sl 1003)]),(1000,.arr 162 v3 (.v 3)),(1001,.arr 96 v4 (.v 4)),(1002,.arr 93 [.val,.val,.val,(.arr 162 v3),.val] (.v 5)),(1003,.arr 96 v4 (.v 6))],[1,2,3,4],4⟩)],
 ar [],
 ar []⟩
theorem Mk:Has Tryz.prog 14 c_ci xj:=fp (R:=bc) (tr:=false) (E:=[(51,0,c_dz),(52,1,c_hg)]) (Φ:=Jj) (t:=t_ci) ⟨Mj,Eb,trivial⟩ Tryz.f14 h_ci (by kernel_rfl)
def c_fh:Con:=⟨[],[⟨true,[.val,(.arr 162 [.val,.val,(.arr 3 [.val])]),.val,(.arr 96 v4)],kD,false⟩]⟩
theorem Ml:Has Tryz.prog 98 c_fh xk:=fp (R:=al) (tr:=false) (E:=[]) (Φ:=ph []) (t:=t_fh) trivial Tryz.f98 hE (by kernel_rfl)
def c_dh:Con:=⟨[.ro false [kI],.ro false [kI]],[⟨true,[.val,.val,.val,(.arr 162 [.val,.val,(.arr 3 [.val])]),.val],kH,false⟩,⟨false,[.val],[.bool],false⟩]⟩
theorem Mm:Has Tryz.prog 99 c_dh xl:=fp (R:=al) (tr:=false) (E:=[(122,0,Cd),(39,1,kV)]) (Φ:=Jk) (t:=t_dh) ⟨lO,dl,trivial⟩ Tryz.f99 hE (by kernel_rfl)
def c_dy:Con:=⟨[.ro false [.list]],[⟨true,[.val,(.arr 162 [.val,.val,(.arr 3 [.val])]),.val,(.arr 96 v4),(.arr 93 [.val,.val,.val,(.arr 162 [.val,.val,(.arr 3 [.val])]),.val]),(.arr 96 v4)],kW,false⟩,⟨false,[.val],[.bool],false⟩]⟩
def h_dy:How:=⟨ar [(0,⟨[kI,.list],[(3,(.bool (.b false))),(17,(sI 0))],[(3,.cells [(.bool (.v 1003)),(.sl 1),(sI 1005),(.sl 2),(.sl 1000),.nil]),(1000,.arr 93 [.val,.val,.val,(.arr 162 [.val,.val,(.arr 3 [.val])]),.val] (.v 1))],[],1⟩)],
 ar [],
 ar []⟩
theorem Mn:Has Tryz.prog 53 c_dy xm:=fp (R:=al) (tr:=false) (E:=[(98,0,c_fh),(99,1,c_dh)]) (Φ:=Jl) (t:=t_dy) ⟨Ml,Mm,trivial⟩ Tryz.f53 h_dy (by kernel_rfl)
def c_ce:Con:=⟨[.ro false [.list],.ro false [.list]],[⟨true,[.val,(.arr 162 [.val,.val,(.arr 3 [.val])]),.val,(.arr 96 v4),(.arr 93 [.val,.val,.val,(.arr 162 [.val,.val,(.arr 3 [.val])]),.val]),(.arr 96 v4)],kW,false⟩,⟨false,[.val],[.bool],false⟩]⟩
def h_ce:How:=⟨ar [(0,⟨[kI,.bool,kI,.list,.list,.list,.list],[(25,(sI 0))],[(5,.cells [(.bool (.v 1)),(.sl 1000),(sI 2),(.sl 1001),(.sl 1002),(.sl 1003)]),(1000,.arr 162 [.val,.val,(.arr 3 [.val])] (.v 3)),(1001,.arr 96 v4 (.v 4)),(1002,.arr 93 [.val,.val,.val,(.arr 162 [.val,.val,(.arr 3 [.val])]),.val] (.v 5)),(1003,.arr 96 v4 (.v 6))],[1,2,3,4],4⟩)],
 ar [],
 ar []⟩
theorem Mo:Has Tryz.prog 17 c_ce xn:=fp (R:=al) (tr:=false) (E:=[(53,0,c_dy),(54,1,c_da)]) (Φ:=Jm) (t:=t_ce) ⟨Mn,EH,trivial⟩ Tryz.f17 h_ce (by kernel_rfl)
def c_dx:Con:=⟨[.ro false [.list],.ro false [.list]],[⟨false,[.val],[.bool],false⟩]⟩
def h_dx:How:=⟨ar [(0,⟨[kI],[(4,(.bool (.b false))),(5,(sI 0))],[],[],0⟩)],
 ar [],
 ar []⟩
theorem Mp:Has Tryz.prog 19 c_dx xo:=fp (R:=al) (tr:=false) (E:=[(26,0,c_el)]) (Φ:=Jn) (t:=t_dx) ⟨EK,trivial⟩ Tryz.f19 h_dx (by kernel_rfl)
def c_bq:Con:=⟨[.own false [(.arr 63 [.val,.val,.val,(.arr 3 [.val])])] [.list] true,.ro false [kI]],[⟨false,[.val],[kI],false⟩]⟩
def h_bq:How:=⟨ar [(0,⟨[kI,kI,.list],[(1,(sI 0)),(5,(sI 1))],[(0,.arr 63 [.val,.val,.val,(.arr 3 [.val])] (.v 2))],[],0⟩)],
 ar [],
 ar []⟩
theorem Mq:Has Tryz.prog 21 c_bq xp:=fp (R:=al) (tr:=false) (E:=[(20,0,Gb)]) (Φ:=Jo) (t:=t_bq) ⟨tv,trivial⟩ Tryz.f21 h_bq (by kernel_rfl)
end Dx
