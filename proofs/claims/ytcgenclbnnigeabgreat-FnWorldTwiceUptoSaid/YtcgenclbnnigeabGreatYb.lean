/- More of them. -/
import Derived.Test.YtcgenclbnnigeabGreatYa
set_option linter.all false
set_option linter.unusedVariables false
set_option linter.unusedSimpArgs false
set_option linter.unnecessarySimpa false
namespace Dx
open Go
noncomputable section
def F_ak (x0 : LL) : Option Out :=
 callD (φ_an [C.list x0]) [(.int .i64)] fun r1 =>
 let x1 := (getC r1 0).toInt
 let x2 := decide (x1 >= 0)
 some (.ret [C.bool x2])
def t_cv : Tree :=
.letp .len [vL 0] <|
.letp .eqI [vI 1, nI 3] <|
.ite (.v 2) (
 .call 0 [vL 0] [.bool] <|
 .letp .not [vB 3] <|
 .ite (.v 4) (
 .call 1 [vL 0] [.bool] <|
 .ret [vB 5]) <|
 .ret [⟨.bool, (.b false)⟩]) <|
.ret [⟨.bool, (.b false)⟩]
def Φ_cv : Phi := ph [φ_al, φ_ak]
def φ_cv := mir Φ_cv t_cv
def F_cv (x0 : LL) : Option Out :=
 let x1 : Int := x0.length
 let x2 := (x1 == 3)
 iteD x2 (
 callD (φ_al [C.list x0]) [.bool] fun r3 =>
 let x3 := (getC r3 0).toBool
 let x4 := (!x3)
 iteD x4 (
 callD (φ_ak [C.list x0]) [.bool] fun r5 =>
 let x5 := (getC r5 0).toBool
 some (.ret [C.bool x5])) <|
 some (.ret [C.bool false])) <|
 some (.ret [C.bool false])
def t_et : Tree :=
.call 0 [vI 0, nI 1, nI 6] [.bool] <|
.ret [vB 1]
def Φ_et : Phi := ph [φ_fy]
def φ_et := mir Φ_et t_et
def F_et (x0 : Int) : Option Out :=
 callD (φ_fy [C.int .i64 x0, C.int .i64 1, C.int .i64 6]) [.bool] fun r1 =>
 let x1 := (getC r1 0).toBool
 some (.ret [C.bool x1])
def t_fs : Tree :=
.letp .len [vL 2] <|
.letp .eqI [vI 3, nI 0] <|
.letp .eqI [vI 0, nI 1] <|
.ite (.v 5) (
 .letp .len [vL 2] <|
 .letp .eqI [vI 6, nI 1] <|
 .ite (.v 7) (
 .row (.v 2) (.n 0) [kI] <|
 .call 0 [vI 8, nI 1, nI 3] [.bool] <|
 .call 0 [vI 0, nI 1, nI 7] [.bool] <|
 .ite (.v 10) (
 .call 2 [vI 1] [.bool] <|
 .ite (.v 11) (
 .ret [vB 9]) <|
 .ret [⟨.bool, (.b false)⟩]) <|
 .ret [⟨.bool, (.b false)⟩]) <|
 .call 0 [vI 0, nI 1, nI 7] [.bool] <|
 .ite (.v 8) (
 .call 2 [vI 1] [.bool] <|
 .ite (.v 9) (
 .ret [⟨.bool, (.b false)⟩]) <|
 .ret [⟨.bool, (.b false)⟩]) <|
 .ret [⟨.bool, (.b false)⟩]) <|
.letp .eqI [vI 0, nI 4] <|
.ite (.v 6) (
 .call 1 [vL 2] [.bool] <|
 .call 0 [vI 0, nI 1, nI 7] [.bool] <|
 .ite (.v 8) (
 .call 2 [vI 1] [.bool] <|
 .ite (.v 9) (
 .ret [vB 7]) <|
 .ret [⟨.bool, (.b false)⟩]) <|
 .ret [⟨.bool, (.b false)⟩]) <|
.call 0 [vI 0, nI 1, nI 7] [.bool] <|
.ite (.v 7) (
 .call 2 [vI 1] [.bool] <|
 .ite (.v 8) (
 .ret [vB 4]) <|
 .ret [⟨.bool, (.b false)⟩]) <|
.ret [⟨.bool, (.b false)⟩]
def Φ_fs : Phi := ph [φ_fy, φ_cv, φ_et]
def φ_fs := mir Φ_fs t_fs
def F_fs (x0 x1 : Int) (x2 : LL) : Option Out :=
 let x3 : Int := x2.length
 let x4 := (x3 == 0)
 let x5 := (x0 == 1)
 iteD x5 (
 let x6 : Int := x2.length
 let x7 := (x6 == 1)
 iteD x7 (
 rowD (.list x2) (.int .i64 0) [(.int .i64)] fun r8 =>
 let x8 := (getC r8 0).toInt
 callD (φ_fy [C.int .i64 x8, C.int .i64 1, C.int .i64 3]) [.bool] fun r9 =>
 let x9 := (getC r9 0).toBool
 callD (φ_fy [C.int .i64 x0, C.int .i64 1, C.int .i64 7]) [.bool] fun r10 =>
 let x10 := (getC r10 0).toBool
 iteD x10 (
 callD (φ_et [C.int .i64 x1]) [.bool] fun r11 =>
 let x11 := (getC r11 0).toBool
 iteD x11 (
 some (.ret [C.bool x9])) <|
 some (.ret [C.bool false])) <|
 some (.ret [C.bool false])) <|
 callD (φ_fy [C.int .i64 x0, C.int .i64 1, C.int .i64 7]) [.bool] fun r8 =>
 let x8 := (getC r8 0).toBool
 iteD x8 (
 callD (φ_et [C.int .i64 x1]) [.bool] fun r9 =>
 let x9 := (getC r9 0).toBool
 iteD x9 (
 some (.ret [C.bool false])) <|
 some (.ret [C.bool false])) <|
 some (.ret [C.bool false])) <|
 let x6 := (x0 == 4)
 iteD x6 (
 callD (φ_cv [C.list x2]) [.bool] fun r7 =>
 let x7 := (getC r7 0).toBool
 callD (φ_fy [C.int .i64 x0, C.int .i64 1, C.int .i64 7]) [.bool] fun r8 =>
 let x8 := (getC r8 0).toBool
 iteD x8 (
 callD (φ_et [C.int .i64 x1]) [.bool] fun r9 =>
 let x9 := (getC r9 0).toBool
 iteD x9 (
 some (.ret [C.bool x7])) <|
 some (.ret [C.bool false])) <|
 some (.ret [C.bool false])) <|
 callD (φ_fy [C.int .i64 x0, C.int .i64 1, C.int .i64 7]) [.bool] fun r7 =>
 let x7 := (getC r7 0).toBool
 iteD x7 (
 callD (φ_et [C.int .i64 x1]) [.bool] fun r8 =>
 let x8 := (getC r8 0).toBool
 iteD x8 (
 some (.ret [C.bool x4])) <|
 some (.ret [C.bool false])) <|
 some (.ret [C.bool false])
def t_du : Tree :=
.call 0 [vI 0, vI 1, vL 2] [.bool] <|
.letp .not [vB 3] <|
.ret [vB 4]
def Φ_du : Phi := ph [φ_fs]
def φ_du := mir Φ_du t_du
def F_du (x0 x1 : Int) (x2 : LL) : Option Out :=
 callD (φ_fs [C.int .i64 x0, C.int .i64 x1, C.list x2]) [.bool] fun r3 =>
 let x3 := (getC r3 0).toBool
 let x4 := (!x3)
 some (.ret [C.bool x4])
def t_am : Tree :=
.letp .len [vL 0] <|
.iter [nI 0] <|
.letp .ltI [vI 2, vI 1] <|
.ite (.v 3) (
 .row (.v 0) (.v 2) [kI, kI, .list] <|
 .call 0 [vI 4, vI 5, vL 6] [.bool] <|
 .ite (.v 7) (
 .up <|
 .ret [vI 2]) <|
 .letp (.add .i64) [vI 2, nI 1] <|
 .jump [vI 8]) <|
.up <|
.ret [⟨kI, (.n (-1))⟩]
def Φ_am : Phi := ph [φ_du]
def φ_am := mir Φ_am t_am
def L_am_0 (x0 : LL) (x1 x2 : Int) : Option Out :=
 let x3 := decide (x2 < x1)
 iteD x3 (
 rowD (.list x0) (.int .i64 x2) [(.int .i64), (.int .i64), .list] fun r4 =>
 let x4 := (getC r4 0).toInt
 let x5 := (getC r4 1).toInt
 let x6 := (getC r4 2).toList
 callD (φ_du [C.int .i64 x4, C.int .i64 x5, C.list x6]) [.bool] fun r7 =>
 let x7 := (getC r7 0).toBool
 iteD x7 (
 upD <|
 some (.ret [C.int .i64 x2])) <|
 let x8 := IntKind.wrap .i64 (x2 + 1)
 some (.jump [C.int .i64 x8])) <|
 upD <|
 some (.ret [C.int .i64 (-1)])
def F_am (x0 : LL) : Option Out :=
 let x1 : Int := x0.length
 iterD (fun ps => L_am_0 x0 x1 ((getC ps 0).toInt)) [C.int .i64 0]
def t_ah : Tree :=
.call 0 [vL 0] [kI] <|
.letp .geI [vI 1, nI 0] <|
.ret [vB 2]
def Φ_ah : Phi := ph [φ_am]
def φ_ah := mir Φ_ah t_ah
def F_ah (x0 : LL) : Option Out :=
 callD (φ_am [C.list x0]) [(.int .i64)] fun r1 =>
 let x1 := (getC r1 0).toInt
 let x2 := decide (x1 >= 0)
 some (.ret [C.bool x2])
def t_fu : Tree :=
.letp .len [vL 0] <|
.letp .leI [vI 2, nI 40] <|
.ite (.v 3) (
 .letp .len [vL 0] <|
 .call 0 [vI 1, nI 0, vI 4] [.bool] <|
 .ite (.v 5) (
 .call 1 [vL 0] [.bool] <|
 .letp .not [vB 6] <|
 .ret [vB 7]) <|
 .ret [⟨.bool, (.b false)⟩]) <|
.ret [⟨.bool, (.b false)⟩]
def Φ_fu : Phi := ph [φ_fy, φ_ah]
def φ_fu := mir Φ_fu t_fu
def F_fu (x0 : LL) (x1 : Int) : Option Out :=
 let x2 : Int := x0.length
 let x3 := decide (x2 <= 40)
 iteD x3 (
 let x4 : Int := x0.length
 callD (φ_fy [C.int .i64 x1, C.int .i64 0, C.int .i64 x4]) [.bool] fun r5 =>
 let x5 := (getC r5 0).toBool
 iteD x5 (
 callD (φ_ah [C.list x0]) [.bool] fun r6 =>
 let x6 := (getC r6 0).toBool
 let x7 := (!x6)
 some (.ret [C.bool x7])) <|
 some (.ret [C.bool false])) <|
 some (.ret [C.bool false])
def t_bw : Tree :=
.call 0 [vL 0] [.bool] <|
.letp .not [vB 2] <|
.ite (.v 3) (
 .ret [⟨.bool, (.b true)⟩]) <|
.call 1 [vI 1, nI 1, nI 5] [.bool] <|
.letp .not [vB 4] <|
.ret [vB 5]
def Φ_bw : Phi := ph [φ_cv, φ_fy]
def φ_bw := mir Φ_bw t_bw
def F_bw (x0 : LL) (x1 : Int) : Option Out :=
 callD (φ_cv [C.list x0]) [.bool] fun r2 =>
 let x2 := (getC r2 0).toBool
 let x3 := (!x2)
 iteD x3 (
 some (.ret [C.bool true])) <|
 callD (φ_fy [C.int .i64 x1, C.int .i64 1, C.int .i64 5]) [.bool] fun r4 =>
 let x4 := (getC r4 0).toBool
 let x5 := (!x4)
 some (.ret [C.bool x5])
def t_ag : Tree :=
.letp .len [vL 0] <|
.iter [nI 0] <|
.letp .ltI [vI 2, vI 1] <|
.ite (.v 3) (
 .row (.v 0) (.v 2) [.list, kI] <|
 .call 0 [vL 4, vI 5] [.bool] <|
 .ite (.v 6) (
 .up <|
 .ret [vI 2]) <|
 .letp (.add .i64) [vI 2, nI 1] <|
 .jump [vI 7]) <|
.up <|
.ret [⟨kI, (.n (-1))⟩]
def Φ_ag : Phi := ph [φ_bw]
def φ_ag := mir Φ_ag t_ag
def L_ag_0 (x0 : LL) (x1 x2 : Int) : Option Out :=
 let x3 := decide (x2 < x1)
 iteD x3 (
 rowD (.list x0) (.int .i64 x2) [.list, (.int .i64)] fun r4 =>
 let x4 := (getC r4 0).toList
 let x5 := (getC r4 1).toInt
 callD (φ_bw [C.list x4, C.int .i64 x5]) [.bool] fun r6 =>
 let x6 := (getC r6 0).toBool
 iteD x6 (
 upD <|
 some (.ret [C.int .i64 x2])) <|
 let x7 := IntKind.wrap .i64 (x2 + 1)
 some (.jump [C.int .i64 x7])) <|
 upD <|
 some (.ret [C.int .i64 (-1)])
def F_ag (x0 : LL) : Option Out :=
 let x1 : Int := x0.length
 iterD (fun ps => L_ag_0 x0 x1 ((getC ps 0).toInt)) [C.int .i64 0]
def t_ad : Tree :=
.call 0 [vL 0] [kI] <|
.letp .geI [vI 1, nI 0] <|
.ret [vB 2]
def Φ_ad : Phi := ph [φ_ag]
def φ_ad := mir Φ_ad t_ad
def F_ad (x0 : LL) : Option Out :=
 callD (φ_ag [C.list x0]) [(.int .i64)] fun r1 =>
 let x1 := (getC r1 0).toInt
 let x2 := decide (x1 >= 0)
 some (.ret [C.bool x2])
def t_eb : Tree :=
.letp .len [vL 0] <|
.letp .leI [vI 1, nI 6] <|
.ite (.v 2) (
 .call 0 [vL 0] [.bool] <|
 .letp .not [vB 3] <|
 .ret [vB 4]) <|
.ret [⟨.bool, (.b false)⟩]
def Φ_eb : Phi := ph [φ_ad]
def φ_eb := mir Φ_eb t_eb
def F_eb (x0 : LL) : Option Out :=
 let x1 : Int := x0.length
 let x2 := decide (x1 <= 6)
 iteD x2 (
 callD (φ_ad [C.list x0]) [.bool] fun r3 =>
 let x3 := (getC r3 0).toBool
 let x4 := (!x3)
 some (.ret [C.bool x4])) <|
 some (.ret [C.bool false])
def t_ep : Tree :=
.letp .len [vL 0] <|
.call 0 [vI 1, nI 1, vI 2] [.bool] <|
.letp .not [vB 3] <|
.ite (.v 4) (
 .ret [nI 0]) <|
.letp (.sub .i64) [vI 1, nI 1] <|
.row (.v 0) (.v 5) [.list, kI] <|
.ret [vI 7]
def Φ_ep : Phi := ph [φ_fy]
def φ_ep := mir Φ_ep t_ep
def F_ep (x0 : LL) (x1 : Int) : Option Out :=
 let x2 : Int := x0.length
 callD (φ_fy [C.int .i64 x1, C.int .i64 1, C.int .i64 x2]) [.bool] fun r3 =>
 let x3 := (getC r3 0).toBool
 let x4 := (!x3)
 iteD x4 (
 some (.ret [C.int .i64 0])) <|
 let x5 := IntKind.wrap .i64 (x1 - 1)
 rowD (.list x0) (.int .i64 x5) [.list, (.int .i64)] fun r6 =>
 let x6 := (getC r6 0).toList
 let x7 := (getC r6 1).toInt
 some (.ret [C.int .i64 x7])
def t_co : Tree :=
.call 0 [vL 0] [.bool] <|
.letp .not [vB 4] <|
.ite (.v 5) (
 .ret [⟨.bool, (.b false)⟩]) <|
.call 1 [vI 1, vI 2, vL 3] [.bool] <|
.letp .not [vB 6] <|
.ite (.v 7) (
 .ret [⟨.bool, (.b false)⟩]) <|
.call 2 [vL 0, vI 2] [kI] <|
.letp .eqI [vI 1, nI 4] <|
.ite (.v 9) (
 .letp .len [vL 0] <|
 .letp (.add .i64) [vI 10, nI 1] <|
 .letp .eqI [vI 2, vI 11] <|
 .ret [vB 12]) <|
.letp .eqI [vI 1, nI 5] <|
.ite (.v 10) (
 .letp .eqI [vI 8, nI 1] <|
 .ret [vB 11]) <|
.letp .eqI [vI 1, nI 6] <|
.ite (.v 11) (
 .letp .eqI [vI 8, nI 1] <|
 .ret [vB 12]) <|
.letp .eqI [vI 1, nI 7] <|
.ite (.v 12) (
 .letp .eqI [vI 8, nI 2] <|
 .ite (.v 13) (
 .ret [⟨.bool, (.b true)⟩]) <|
 .letp .eqI [vI 8, nI 3] <|
 .ret [vB 14]) <|
.ret [⟨.bool, (.b false)⟩]
def Φ_co : Phi := ph [φ_eb, φ_fs, φ_ep]
def φ_co := mir Φ_co t_co
def F_co (x0 : LL) (x1 x2 : Int) (x3 : LL) : Option Out :=
 callD (φ_eb [C.list x0]) [.bool] fun r4 =>
 let x4 := (getC r4 0).toBool
 let x5 := (!x4)
 iteD x5 (
 some (.ret [C.bool false])) <|
 callD (φ_fs [C.int .i64 x1, C.int .i64 x2, C.list x3]) [.bool] fun r6 =>
 let x6 := (getC r6 0).toBool
 let x7 := (!x6)
 iteD x7 (
 some (.ret [C.bool false])) <|
 callD (φ_ep [C.list x0, C.int .i64 x2]) [(.int .i64)] fun r8 =>
 let x8 := (getC r8 0).toInt
 let x9 := (x1 == 4)
 iteD x9 (
 let x10 : Int := x0.length
 let x11 := IntKind.wrap .i64 (x10 + 1)
 let x12 := (x2 == x11)
 some (.ret [C.bool x12])) <|
 let x10 := (x1 == 5)
 iteD x10 (
 let x11 := (x8 == 1)
 some (.ret [C.bool x11])) <|
 let x11 := (x1 == 6)
 iteD x11 (
 let x12 := (x8 == 1)
 some (.ret [C.bool x12])) <|
 let x12 := (x1 == 7)
 iteD x12 (
 let x13 := (x8 == 2)
 iteD x13 (
 some (.ret [C.bool true])) <|
 let x14 := (x8 == 3)
 some (.ret [C.bool x14])) <|
 some (.ret [C.bool false])
def t_bf : Tree :=
.letp .isNil [vL 0] <|
.ite (.v 1) (
 .both (
 .ret [⟨.list, .e⟩]) <|
 .chk (.rowsk [kI]) [vL 0] <|
 .chk .fits [⟨.list, .e⟩, vL 0] <|
 .letp .app [⟨.list, .e⟩, vL 0] <|
 .ret [vL 2]) <|
.chk (.rowsk [kI]) [vL 0] <|
.chk .fits [⟨.list, .e⟩, vL 0] <|
.letp .app [⟨.list, .e⟩, vL 0] <|
.ret [vL 2]
def φ_bf := mir (ph []) t_bf
def F_bf (x0 : LL) : Option Out :=
 let x1 := x0.isEmpty
 iteD x1 (
 bothD (
 some (.ret [C.list ([] : LL)])) <|
 whenD ((x0.all (kindsB [(.int .i64)]))) <|
 whenD (decide (([] : LL).length + x0.length <= LMAX)) <|
 let x2 := (([] : LL) ++ x0)
 some (.ret [C.list x2])) <|
 whenD ((x0.all (kindsB [(.int .i64)]))) <|
 whenD (decide (([] : LL).length + x0.length <= LMAX)) <|
 let x2 := (([] : LL) ++ x0)
 some (.ret [C.list x2])
def t_ei : Tree :=
.call 0 [vL 0, vI 1, vI 2, vL 3] [.bool] <|
.letp .not [vB 4] <|
.ite (.v 5) (
 .ret [⟨.list, .e⟩, ⟨.bool, (.b false)⟩]) <|
.letp .len [vL 0] <|
.iter [nI 0, ⟨.list, .e⟩] <|
.letp .ltI [vI 7, vI 6] <|
.ite (.v 9) (
 .row (.v 0) (.v 7) [.list, kI] <|
 .call 1 [vL 10] [.list] <|
 .letp (.mkl 2) [vL 12, vI 11] <|
 .chk .fits [vL 8, vL 13] <|
 .letp .app [vL 8, vL 13] <|
 .letp (.add .i64) [vI 7, nI 1] <|
 .jump [vI 15, vL 14]) <|
.up <|
.letp .eqI [vI 1, nI 4] <|
.ite (.v 10) (
 .call 1 [vL 3] [.list] <|
 .letp (.mkl 2) [vL 11, nI 1] <|
 .chk .fits [vL 8, vL 12] <|
 .letp .app [vL 8, vL 12] <|
 .ret [vL 13, ⟨.bool, (.b true)⟩]) <|
.letp (.sub .i64) [vI 2, nI 1] <|
.chk .idx [vI 11, vL 8] <|
.letp .eqI [vI 1, nI 5] <|
.ite (.v 12) (
 .letp (.setr 1) [vL 8, vI 11, nI 2] <|
 .ret [vL 13, ⟨.bool, (.b true)⟩]) <|
.letp .eqI [vI 1, nI 6] <|
.ite (.v 13) (
 .letp (.setr 1) [vL 8, vI 11, nI 3] <|
 .ret [vL 14, ⟨.bool, (.b true)⟩]) <|
.row (.v 8) (.v 11) [.list, kI] <|
.letp .eqI [vI 15, nI 2] <|
.ite (.v 16) (
 .letp (.setr 1) [vL 8, vI 11, nI 4] <|
 .ret [vL 17, ⟨.bool, (.b true)⟩]) <|
.letp (.setr 1) [vL 8, vI 11, nI 5] <|
.ret [vL 17, ⟨.bool, (.b true)⟩]
def Φ_ei : Phi := ph [φ_co, φ_bf]
def φ_ei := mir Φ_ei t_ei
def L_ei_0 (x0 : LL) (x1 x2 : Int) (x3 : LL) (x6 x7 : Int) (x8 : LL) : Option Out :=
 let x9 := decide (x7 < x6)
 iteD x9 (
 rowD (.list x0) (.int .i64 x7) [.list, (.int .i64)] fun r10 =>
 let x10 := (getC r10 0).toList
 let x11 := (getC r10 1).toInt
 callD (φ_bf [C.list x10]) [.list] fun r12 =>
 let x12 := (getC r12 0).toList
 let x13 := [[C.list x12, C.int .i64 x11]]
 whenD (decide (x8.length + x13.length <= LMAX)) <|
 let x14 := (x8 ++ x13)
 let x15 := IntKind.wrap .i64 (x7 + 1)
 some (.jump [C.int .i64 x15, C.list x14])) <|
 upD <|
 let x10 := (x1 == 4)
 iteD x10 (
 callD (φ_bf [C.list x3]) [.list] fun r11 =>
 let x11 := (getC r11 0).toList
 let x12 := [[C.list x11, C.int .i64 1]]
 whenD (decide (x8.length + x12.length <= LMAX)) <|
 let x13 := (x8 ++ x12)
 some (.ret [C.list x13, C.bool true])) <|
 let x11 := IntKind.wrap .i64 (x2 - 1)
 whenD ((decide ((0 : Int) <= x11) && decide (x11 < (x8.length : Nat)))) <|
 let x12 := (x1 == 5)
 iteD x12 (
 let x13 := (setRow 1 x8 (Int.toNat x11) [C.int .i64 2])
 some (.ret [C.list x13, C.bool true])) <|
 let x13 := (x1 == 6)
 iteD x13 (
 let x14 := (setRow 1 x8 (Int.toNat x11) [C.int .i64 3])
 some (.ret [C.list x14, C.bool true])) <|
 rowD (.list x8) (.int .i64 x11) [.list, (.int .i64)] fun r14 =>
 let x14 := (getC r14 0).toList
 let x15 := (getC r14 1).toInt
 let x16 := (x15 == 2)
 iteD x16 (
 let x17 := (setRow 1 x8 (Int.toNat x11) [C.int .i64 4])
 some (.ret [C.list x17, C.bool true])) <|
 let x17 := (setRow 1 x8 (Int.toNat x11) [C.int .i64 5])
 some (.ret [C.list x17, C.bool true])
def F_ei (x0 : LL) (x1 x2 : Int) (x3 : LL) : Option Out :=
 callD (φ_co [C.list x0, C.int .i64 x1, C.int .i64 x2, C.list x3]) [.bool] fun r4 =>
 let x4 := (getC r4 0).toBool
 let x5 := (!x4)
 iteD x5 (
 some (.ret [C.list ([] : LL), C.bool false])) <|
 let x6 : Int := x0.length
 iterD (fun ps => L_ei_0 x0 x1 x2 x3 x6 ((getC ps 0).toInt) ((getC ps 1).toList)) [C.int .i64 0, C.list ([] : LL)]
def t_ek : Tree :=
.iter [⟨.list, .e⟩, ⟨.bool, (.b true)⟩, nI 0] <|
.ite (.v 2) (
 .letp .len [vL 0] <|
 .letp .ltI [vI 3, vI 4] <|
 .ite (.v 5) (
 .row (.v 0) (.v 3) [kI, kI, .list] <|
 .call 0 [vL 1, vI 6, vI 7, vL 8] [.list, .bool] <|
 .letp (.add .i64) [vI 3, nI 1] <|
 .jump [vL 9, vB 10, vI 11]) <|
 .up <|
 .ret [vL 1, vB 2]) <|
.up <|
.ret [vL 1, vB 2]
def Φ_ek : Phi := ph [φ_ei]
def φ_ek := mir Φ_ek t_ek
def L_ek_0 (x0 x1 : LL) (x2 : Bool) (x3 : Int) : Option Out :=
 iteD x2 (
 let x4 : Int := x0.length
 let x5 := decide (x3 < x4)
 iteD x5 (
 rowD (.list x0) (.int .i64 x3) [(.int .i64), (.int .i64), .list] fun r6 =>
 let x6 := (getC r6 0).toInt
 let x7 := (getC r6 1).toInt
 let x8 := (getC r6 2).toList
 callD (φ_ei [C.list x1, C.int .i64 x6, C.int .i64 x7, C.list x8]) [.list, .bool] fun r9 =>
 let x9 := (getC r9 0).toList
 let x10 := (getC r9 1).toBool
 let x11 := IntKind.wrap .i64 (x3 + 1)
 some (.jump [C.list x9, C.bool x10, C.int .i64 x11])) <|
 upD <|
 some (.ret [C.list x1, C.bool x2])) <|
 upD <|
 some (.ret [C.list x1, C.bool x2])
def F_ek (x0 : LL) : Option Out :=
 iterD (fun ps => L_ek_0 x0 ((getC ps 0).toList) ((getC ps 1).toBool) ((getC ps 2).toInt)) [C.list ([] : LL), C.bool true, C.int .i64 0]
def t_dr : Tree :=
.call 0 [vI 0, nI 1, nI 3] [.bool] <|
.ret [vB 1]
def Φ_dr : Phi := ph [φ_fy]
def φ_dr := mir Φ_dr t_dr
def F_dr (x0 : Int) : Option Out :=
 callD (φ_fy [C.int .i64 x0, C.int .i64 1, C.int .i64 3]) [.bool] fun r1 =>
 let x1 := (getC r1 0).toBool
 some (.ret [C.bool x1])
def t_fc : Tree :=
.letp .eqI [vI 3, nI 0] <|
.letp .eqI [vI 0, nI 1] <|
.ite (.v 5) (
 .call 0 [vI 3, nI 1, nI 3] [.bool] <|
 .call 0 [vI 0, nI 1, nI 7] [.bool] <|
 .ite (.v 7) (
 .call 1 [vI 1] [.bool] <|
 .ite (.v 8) (
 .call 2 [vI 2] [.bool] <|
 .ite (.v 9) (
 .ret [vB 6]) <|
 .ret [⟨.bool, (.b false)⟩]) <|
 .ret [⟨.bool, (.b false)⟩]) <|
 .ret [⟨.bool, (.b false)⟩]) <|
.call 0 [vI 0, nI 1, nI 7] [.bool] <|
.ite (.v 6) (
 .call 1 [vI 1] [.bool] <|
 .ite (.v 7) (
 .call 2 [vI 2] [.bool] <|
 .ite (.v 8) (
 .ret [vB 4]) <|
 .ret [⟨.bool, (.b false)⟩]) <|
 .ret [⟨.bool, (.b false)⟩]) <|
.ret [⟨.bool, (.b false)⟩]
def Φ_fc : Phi := ph [φ_fy, φ_dr, φ_et]
def φ_fc := mir Φ_fc t_fc
def F_fc (x0 x1 : Int) (x2 x3 : Int) : Option Out :=
 let x4 := (x3 == 0)
 let x5 := (x0 == 1)
 iteD x5 (
 callD (φ_fy [C.int .i64 x3, C.int .i64 1, C.int .i64 3]) [.bool] fun r6 =>
 let x6 := (getC r6 0).toBool
 callD (φ_fy [C.int .i64 x0, C.int .i64 1, C.int .i64 7]) [.bool] fun r7 =>
 let x7 := (getC r7 0).toBool
 iteD x7 (
 callD (φ_dr [C.int .i64 x1]) [.bool] fun r8 =>
 let x8 := (getC r8 0).toBool
 iteD x8 (
 callD (φ_et [C.int .i64 x2]) [.bool] fun r9 =>
 let x9 := (getC r9 0).toBool
 iteD x9 (
 some (.ret [C.bool x6])) <|
 some (.ret [C.bool false])) <|
 some (.ret [C.bool false])) <|
 some (.ret [C.bool false])) <|
 callD (φ_fy [C.int .i64 x0, C.int .i64 1, C.int .i64 7]) [.bool] fun r6 =>
 let x6 := (getC r6 0).toBool
 iteD x6 (
 callD (φ_dr [C.int .i64 x1]) [.bool] fun r7 =>
 let x7 := (getC r7 0).toBool
 iteD x7 (
 callD (φ_et [C.int .i64 x2]) [.bool] fun r8 =>
 let x8 := (getC r8 0).toBool
 iteD x8 (
 some (.ret [C.bool x4])) <|
 some (.ret [C.bool false])) <|
 some (.ret [C.bool false])) <|
 some (.ret [C.bool false])
def t_bb : Tree :=
.letp .geI [vI 0, nI 4] <|
.ret [vB 4]
def φ_bb := mir (ph []) t_bb
def F_bb (x0 x1 : Int) (x2 x3 : Int) : Option Out :=
 let x4 := decide (x0 >= 4)
 some (.ret [C.bool x4])
def t_as : Tree :=
.letp .len [vL 0] <|
.iter [nI 0] <|
.letp .ltI [vI 6, vI 5] <|
.ite (.v 7) (
 .row (.v 0) (.v 6) [kI, kI, kI, kI] <|
 .letp (.eqs 4) [vI 1, vI 2, vI 3, vI 4, vI 8, vI 9, vI 10, vI 11] <|
 .ite (.v 12) (
 .up <|
 .ret [vI 6]) <|
 .letp (.add .i64) [vI 6, nI 1] <|
 .jump [vI 13]) <|
.up <|
.ret [⟨kI, (.n (-1))⟩]
def φ_as := mir (ph []) t_as
def L_as_0 (x0 : LL) (x1 x2 : Int) (x3 x4 : Int) (x5 x6 : Int) : Option Out :=
 let x7 := decide (x6 < x5)
 iteD x7 (
 rowD (.list x0) (.int .i64 x6) [(.int .i64), (.int .i64), (.int .i64), (.int .i64)] fun r8 =>
 let x8 := (getC r8 0).toInt
 let x9 := (getC r8 1).toInt
 let x10 := (getC r8 2).toInt
 let x11 := (getC r8 3).toInt
 let x12 := ([x1, x2, x3, x4] == ([x8, x9, x10, x11] : List Int))
 iteD x12 (
 upD <|
 some (.ret [C.int .i64 x6])) <|
 let x13 := IntKind.wrap .i64 (x6 + 1)
 some (.jump [C.int .i64 x13])) <|
 upD <|
 some (.ret [C.int .i64 (-1)])
def F_as (x0 : LL) (x1 x2 : Int) (x3 x4 : Int) : Option Out :=
 let x5 : Int := x0.length
 iterD (fun ps => L_as_0 x0 x1 x2 x3 x4 x5 ((getC ps 0).toInt)) [C.int .i64 0]
def t_ap : Tree :=
.call 0 [vL 0, vI 1, vI 2, vI 3, vI 4] [kI] <|
.letp .geI [vI 5, nI 0] <|
.ret [vB 6]
def Φ_ap : Phi := ph [φ_as]
def φ_ap := mir Φ_ap t_ap
def F_ap (x0 : LL) (x1 x2 : Int) (x3 x4 : Int) : Option Out :=
 callD (φ_as [C.list x0, C.int .i64 x1, C.int .i64 x2, C.int .i64 x3, C.int .i64 x4]) [(.int .i64)] fun r5 =>
 let x5 := (getC r5 0).toInt
 let x6 := decide (x5 >= 0)
 some (.ret [C.bool x6])
def t_ez : Tree :=
.join [] (
 .call 0 [vL 1, vI 2] [.bool] <|
 .letp .not [vB 4] <|
 .ite (.v 5) (
 .up <|
 .ret [⟨.bool, (.b false)⟩]) <|
 .letp .not [vB 0] <|
 .ite (.v 6) (
 .letp .len [vL 3] <|
 .letp .gtI [vI 7, nI 0] <|
 .ite (.v 8) (
 .up <|
 .ret [⟨.bool, (.b false)⟩]) <|
 .jump []) <|
 .jump []) <|
.call 1 [vL 1] [.list, .bool] <|
.letp .len [vL 3] <|
.iter [nI 0] <|
.letp .ltI [vI 7, vI 6] <|
.ite (.v 8) (
 .row (.v 3) (.v 7) [kI, kI, kI, kI] <|
 .call 2 [vI 9, vI 10, vI 11, vI 12] [.bool] <|
 .letp .not [vB 13] <|
 .ite (.v 14) (
 .up <|
 .ret [⟨.bool, (.b false)⟩]) <|
 .call 3 [vI 9, vI 10, vI 11, vI 12] [.bool] <|
 .letp .not [vB 15] <|
 .ite (.v 16) (
 .up <|
 .ret [⟨.bool, (.b false)⟩]) <|
 .letp .len [vL 4] <|
 .letp .gtI [vI 11, vI 17] <|
 .ite (.v 18) (
 .up <|
 .ret [⟨.bool, (.b false)⟩]) <|
 .chk .upto [vI 7, vL 3] <|
 .letp .take [vL 3, vI 7] <|
 .call 4 [vL 19, vI 9, vI 10, vI 11, vI 12] [.bool] <|
 .ite (.v 20) (
 .up <|
 .ret [⟨.bool, (.b false)⟩]) <|
 .letp (.add .i64) [vI 7, nI 1] <|
 .jump [vI 21]) <|
.up <|
.ret [vB 5]
def Φ_ez : Phi := ph [φ_fu, φ_ek, φ_fc, φ_bb, φ_ap]
def φ_ez := mir Φ_ez t_ez
def L_ez_0 (x3 x4 : LL) (x5 : Bool) (x6 x7 : Int) : Option Out :=
 let x8 := decide (x7 < x6)
 iteD x8 (
 rowD (.list x3) (.int .i64 x7) [(.int .i64), (.int .i64), (.int .i64), (.int .i64)] fun r9 =>
 let x9 := (getC r9 0).toInt
 let x10 := (getC r9 1).toInt
 let x11 := (getC r9 2).toInt
 let x12 := (getC r9 3).toInt
 callD (φ_fc [C.int .i64 x9, C.int .i64 x10, C.int .i64 x11, C.int .i64 x12]) [.bool] fun r13 =>
 let x13 := (getC r13 0).toBool
 let x14 := (!x13)
 iteD x14 (
 upD <|
 some (.ret [C.bool false])) <|
 callD (φ_bb [C.int .i64 x9, C.int .i64 x10, C.int .i64 x11, C.int .i64 x12]) [.bool] fun r15 =>
 let x15 := (getC r15 0).toBool
 let x16 := (!x15)
 iteD x16 (
 upD <|
 some (.ret [C.bool false])) <|
 let x17 : Int := x4.length
 let x18 := decide (x11 > x17)
 iteD x18 (
 upD <|
 some (.ret [C.bool false])) <|
 whenD ((decide ((0 : Int) <= x7) && decide (x7 <= (x3.length : Nat)))) <|
 let x19 := (x3.take (Int.toNat x7))
 callD (φ_ap [C.list x19, C.int .i64 x9, C.int .i64 x10, C.int .i64 x11, C.int .i64 x12]) [.bool] fun r20 =>
 let x20 := (getC r20 0).toBool
 iteD x20 (
 upD <|
 some (.ret [C.bool false])) <|
 let x21 := IntKind.wrap .i64 (x7 + 1)
 some (.jump [C.int .i64 x21])) <|
 upD <|
 some (.ret [C.bool x5])
def J_ez_1 (x1 x3 : LL) : Option Out :=
 callD (φ_ek [C.list x1]) [.list, .bool] fun r4 =>
 let x4 := (getC r4 0).toList
 let x5 := (getC r4 1).toBool
 let x6 : Int := x3.length
 iterD (fun ps => L_ez_0 x3 x4 x5 x6 ((getC ps 0).toInt)) [C.int .i64 0]
def F_ez (x0 : Bool) (x1 : LL) (x2 : Int) (x3 : LL) : Option Out :=
 joinD (
 callD (φ_fu [C.list x1, C.int .i64 x2]) [.bool] fun r4 =>
 let x4 := (getC r4 0).toBool
 let x5 := (!x4)
 iteD x5 (
 upD <|
 some (.ret [C.bool false])) <|
 let x6 := (!x0)
 iteD x6 (
 let x7 : Int := x3.length
 let x8 := decide (x7 > 0)
 iteD x8 (
 upD <|
 some (.ret [C.bool false])) <|
 some (.jump [])) <|
 some (.jump [])) fun ps => J_ez_1 x1 x3
def t_cs : Tree :=
.call 0 [vI 0, nI 0, nI 9] [.bool] <|
.letp .not [vB 1] <|
.ite (.v 2) (
 .ret [nI 0, ⟨.list, .e⟩, ⟨.bool, (.b false)⟩]) <|
.letp .rep [nI 6, nI 0, nI 0] <|
.ret [vI 0, vL 3, ⟨.bool, (.b true)⟩]
def Φ_cs : Phi := ph [φ_fy]
def φ_cs := mir Φ_cs t_cs
def F_cs (x0 : Int) : Option Out :=
 callD (φ_fy [C.int .i64 x0, C.int .i64 0, C.int .i64 9]) [.bool] fun r1 =>
 let x1 := (getC r1 0).toBool
 let x2 := (!x1)
 iteD x2 (
 some (.ret [C.int .i64 0, C.list ([] : LL), C.bool false])) <|
 let x3 := (List.replicate (Int.toNat 6) [C.int .i64 0, C.int .i64 0])
 some (.ret [C.int .i64 x0, C.list x3, C.bool true])
def t_er : Tree :=
.letp .eqI [vI 1, nI 0] <|
.ite (.v 2) (
 .letp .eqI [vI 0, nI 0] <|
 .ret [vB 3]) <|
.letp .eqI [vI 1, nI 1] <|
.ite (.v 3) (
 .call 0 [vI 0, nI 1, nI 3] [.bool] <|
 .ret [vB 4]) <|
.letp .eqI [vI 1, nI 2] <|
.ite (.v 4) (
 .call 0 [vI 0, nI 1, nI 3] [.bool] <|
 .ret [vB 5]) <|
.letp .eqI [vI 1, nI 3] <|
.ite (.v 5) (
 .call 0 [vI 0, nI 0, nI 3] [.bool] <|
 .ret [vB 6]) <|
.ret [⟨.bool, (.b false)⟩]
def Φ_er : Phi := ph [φ_fy]
def φ_er := mir Φ_er t_er
def F_er (x0 x1 : Int) : Option Out :=
 let x2 := (x1 == 0)
 iteD x2 (
 let x3 := (x0 == 0)
 some (.ret [C.bool x3])) <|
 let x3 := (x1 == 1)
 iteD x3 (
 callD (φ_fy [C.int .i64 x0, C.int .i64 1, C.int .i64 3]) [.bool] fun r4 =>
 let x4 := (getC r4 0).toBool
 some (.ret [C.bool x4])) <|
 let x4 := (x1 == 2)
 iteD x4 (
 callD (φ_fy [C.int .i64 x0, C.int .i64 1, C.int .i64 3]) [.bool] fun r5 =>
 let x5 := (getC r5 0).toBool
 some (.ret [C.bool x5])) <|
 let x5 := (x1 == 3)
 iteD x5 (
 callD (φ_fy [C.int .i64 x0, C.int .i64 0, C.int .i64 3]) [.bool] fun r6 =>
 let x6 := (getC r6 0).toBool
 some (.ret [C.bool x6])) <|
 some (.ret [C.bool false])
def t_cd : Tree :=
.call 0 [vI 0, vI 1] [.bool] <|
.letp .not [vB 2] <|
.ret [vB 3]
def Φ_cd : Phi := ph [φ_er]
def φ_cd := mir Φ_cd t_cd
def F_cd (x0 x1 : Int) : Option Out :=
 callD (φ_er [C.int .i64 x0, C.int .i64 x1]) [.bool] fun r2 =>
 let x2 := (getC r2 0).toBool
 let x3 := (!x2)
 some (.ret [C.bool x3])
def t_ai : Tree :=
.letp .len [vL 0] <|
.iter [nI 0] <|
.letp .ltI [vI 2, vI 1] <|
.ite (.v 3) (
 .row (.v 0) (.v 2) [kI, kI] <|
 .call 0 [vI 4, vI 5] [.bool] <|
 .ite (.v 6) (
 .up <|
 .ret [vI 2]) <|
 .letp (.add .i64) [vI 2, nI 1] <|
 .jump [vI 7]) <|
.up <|
.ret [⟨kI, (.n (-1))⟩]
def Φ_ai : Phi := ph [φ_cd]
def φ_ai := mir Φ_ai t_ai
def L_ai_0 (x0 : LL) (x1 x2 : Int) : Option Out :=
 let x3 := decide (x2 < x1)
 iteD x3 (
 rowD (.list x0) (.int .i64 x2) [(.int .i64), (.int .i64)] fun r4 =>
 let x4 := (getC r4 0).toInt
 let x5 := (getC r4 1).toInt
 callD (φ_cd [C.int .i64 x4, C.int .i64 x5]) [.bool] fun r6 =>
 let x6 := (getC r6 0).toBool
 iteD x6 (
 upD <|
 some (.ret [C.int .i64 x2])) <|
 let x7 := IntKind.wrap .i64 (x2 + 1)
 some (.jump [C.int .i64 x7])) <|
 upD <|
 some (.ret [C.int .i64 (-1)])
def F_ai (x0 : LL) : Option Out :=
 let x1 : Int := x0.length
 iterD (fun ps => L_ai_0 x0 x1 ((getC ps 0).toInt)) [C.int .i64 0]
def t_ae : Tree :=
.call 0 [vL 0] [kI] <|
.letp .geI [vI 1, nI 0] <|
.ret [vB 2]
def Φ_ae : Phi := ph [φ_ai]
def φ_ae := mir Φ_ae t_ae
def F_ae (x0 : LL) : Option Out :=
 callD (φ_ai [C.list x0]) [(.int .i64)] fun r1 =>
 let x1 := (getC r1 0).toInt
 let x2 := decide (x1 >= 0)
 some (.ret [C.bool x2])
def t_bm : Tree :=
.letp .len [vL 1] <|
.iter [vI 0, nI 0] <|
.letp .ltI [vI 4, vI 2] <|
.ite (.v 5) (
 .row (.v 1) (.v 4) [kI, kI] <|
 .letp .eqI [vI 7, nI 1] <|
 .ite (.v 8) (
 .letp (.sub .i64) [vI 3, vI 6] <|
 .letp (.add .i64) [vI 4, nI 1] <|
 .jump [vI 9, vI 10]) <|
 .letp .eqI [vI 7, nI 2] <|
 .ite (.v 9) (
 .letp (.sub .i64) [vI 3, vI 6] <|
 .letp (.add .i64) [vI 4, nI 1] <|
 .jump [vI 10, vI 11]) <|
 .letp (.add .i64) [vI 4, nI 1] <|
 .jump [vI 3, vI 10]) <|
.up <|
.ret [vI 3]
def φ_bm := mir (ph []) t_bm
def L_bm_0 (x1 : LL) (x2 x3 x4 : Int) : Option Out :=
 let x5 := decide (x4 < x2)
 iteD x5 (
 rowD (.list x1) (.int .i64 x4) [(.int .i64), (.int .i64)] fun r6 =>
 let x6 := (getC r6 0).toInt
 let x7 := (getC r6 1).toInt
 let x8 := (x7 == 1)
 iteD x8 (
 let x9 := IntKind.wrap .i64 (x3 - x6)
 let x10 := IntKind.wrap .i64 (x4 + 1)
 some (.jump [C.int .i64 x9, C.int .i64 x10])) <|
 let x9 := (x7 == 2)
 iteD x9 (
 let x10 := IntKind.wrap .i64 (x3 - x6)
 let x11 := IntKind.wrap .i64 (x4 + 1)
 some (.jump [C.int .i64 x10, C.int .i64 x11])) <|
 let x10 := IntKind.wrap .i64 (x4 + 1)
 some (.jump [C.int .i64 x3, C.int .i64 x10])) <|
 upD <|
 some (.ret [C.int .i64 x3])
def F_bm (x0 : Int) (x1 : LL) : Option Out :=
 let x2 : Int := x1.length
 iterD (fun ps => L_bm_0 x1 x2 ((getC ps 0).toInt) ((getC ps 1).toInt)) [C.int .i64 x0, C.int .i64 0]
def t_en : Tree :=
.call 0 [vI 0, nI 0, nI 9] [.bool] <|
.ite (.v 2) (
 .letp .len [vL 1] <|
 .letp .eqI [vI 3, nI 6] <|
 .ite (.v 4) (
 .call 1 [vL 1] [.bool] <|
 .letp .not [vB 5] <|
 .ite (.v 6) (
 .call 2 [vI 0, vL 1] [kI] <|
 .letp .geI [vI 7, nI 0] <|
 .ret [vB 8]) <|
 .ret [⟨.bool, (.b false)⟩]) <|
 .ret [⟨.bool, (.b false)⟩]) <|
.ret [⟨.bool, (.b false)⟩]
def Φ_en : Phi := ph [φ_fy, φ_ae, φ_bm]
def φ_en := mir Φ_en t_en
def F_en (x0 : Int) (x1 : LL) : Option Out :=
 callD (φ_fy [C.int .i64 x0, C.int .i64 0, C.int .i64 9]) [.bool] fun r2 =>
 let x2 := (getC r2 0).toBool
 iteD x2 (
 let x3 : Int := x1.length
 let x4 := (x3 == 6)
 iteD x4 (
 callD (φ_ae [C.list x1]) [.bool] fun r5 =>
 let x5 := (getC r5 0).toBool
 let x6 := (!x5)
 iteD x6 (
 callD (φ_bm [C.int .i64 x0, C.list x1]) [(.int .i64)] fun r7 =>
 let x7 := (getC r7 0).toInt
 let x8 := decide (x7 >= 0)
 some (.ret [C.bool x8])) <|
 some (.ret [C.bool false])) <|
 some (.ret [C.bool false])) <|
 some (.ret [C.bool false])
def t_cx : Tree :=
.call 0 [vI 0, vL 1] [.bool] <|
.letp .not [vB 5] <|
.ite (.v 6) (
 .ret [⟨.bool, (.b false)⟩]) <|
.call 1 [vI 2, vI 3, vL 4] [.bool] <|
.letp .not [vB 7] <|
.ite (.v 8) (
 .ret [⟨.bool, (.b false)⟩]) <|
.letp (.sub .i64) [vI 3, nI 1] <|
.row (.v 1) (.v 9) [kI, kI] <|
.letp .eqI [vI 2, nI 1] <|
.ite (.v 12) (
 .letp .eqI [vI 11, nI 0] <|
 .ite (.v 13) (
 .row (.v 4) (.n 0) [kI] <|
 .call 2 [vI 0, vL 1] [kI] <|
 .letp .leI [vI 14, vI 15] <|
 .ret [vB 16]) <|
 .ret [⟨.bool, (.b false)⟩]) <|
.letp .eqI [vI 2, nI 2] <|
.ite (.v 13) (
 .letp .eqI [vI 11, nI 1] <|
 .ret [vB 14]) <|
.letp .eqI [vI 2, nI 3] <|
.ite (.v 14) (
 .letp .eqI [vI 11, nI 1] <|
 .ite (.v 15) (
 .ret [⟨.bool, (.b true)⟩]) <|
 .letp .eqI [vI 11, nI 0] <|
 .ret [vB 16]) <|
.ret [⟨.bool, (.b false)⟩]
def Φ_cx : Phi := ph [φ_en, φ_fs, φ_bm]
def φ_cx := mir Φ_cx t_cx
def F_cx (x0 : Int) (x1 : LL) (x2 x3 : Int) (x4 : LL) : Option Out :=
 callD (φ_en [C.int .i64 x0, C.list x1]) [.bool] fun r5 =>
 let x5 := (getC r5 0).toBool
 let x6 := (!x5)
 iteD x6 (
 some (.ret [C.bool false])) <|
 callD (φ_fs [C.int .i64 x2, C.int .i64 x3, C.list x4]) [.bool] fun r7 =>
 let x7 := (getC r7 0).toBool
 let x8 := (!x7)
 iteD x8 (
 some (.ret [C.bool false])) <|
 let x9 := IntKind.wrap .i64 (x3 - 1)
 rowD (.list x1) (.int .i64 x9) [(.int .i64), (.int .i64)] fun r10 =>
 let x10 := (getC r10 0).toInt
 let x11 := (getC r10 1).toInt
 let x12 := (x2 == 1)
 iteD x12 (
 let x13 := (x11 == 0)
 iteD x13 (
 rowD (.list x4) (.int .i64 0) [(.int .i64)] fun r14 =>
 let x14 := (getC r14 0).toInt
 callD (φ_bm [C.int .i64 x0, C.list x1]) [(.int .i64)] fun r15 =>
 let x15 := (getC r15 0).toInt
 let x16 := decide (x14 <= x15)
 some (.ret [C.bool x16])) <|
 some (.ret [C.bool false])) <|
 let x13 := (x2 == 2)
 iteD x13 (
 let x14 := (x11 == 1)
 some (.ret [C.bool x14])) <|
 let x14 := (x2 == 3)
 iteD x14 (
 let x15 := (x11 == 1)
 iteD x15 (
 some (.ret [C.bool true])) <|
 let x16 := (x11 == 0)
 some (.ret [C.bool x16])) <|
 some (.ret [C.bool false])
def t_ar : Tree :=
.letp .isNil [vL 0] <|
.ite (.v 1) (
 .both (
 .ret [⟨.list, .e⟩]) <|
 .chk (.rowsk [kI, kI]) [vL 0] <|
 .chk .fits [⟨.list, .e⟩, vL 0] <|
 .letp .app [⟨.list, .e⟩, vL 0] <|
 .ret [vL 2]) <|
.chk (.rowsk [kI, kI]) [vL 0] <|
.chk .fits [⟨.list, .e⟩, vL 0] <|
.letp .app [⟨.list, .e⟩, vL 0] <|
.ret [vL 2]
def φ_ar := mir (ph []) t_ar
def F_ar (x0 : LL) : Option Out :=
 let x1 := x0.isEmpty
 iteD x1 (
 bothD (
 some (.ret [C.list ([] : LL)])) <|
 whenD ((x0.all (kindsB [(.int .i64), (.int .i64)]))) <|
 whenD (decide (([] : LL).length + x0.length <= LMAX)) <|
 let x2 := (([] : LL) ++ x0)
 some (.ret [C.list x2])) <|
 whenD ((x0.all (kindsB [(.int .i64), (.int .i64)]))) <|
 whenD (decide (([] : LL).length + x0.length <= LMAX)) <|
 let x2 := (([] : LL) ++ x0)
 some (.ret [C.list x2])
def t_do : Tree :=
.call 0 [vI 0, vL 1, vI 2, vI 3, vL 4] [.bool] <|
.letp .not [vB 5] <|
.ite (.v 6) (
 .ret [nI 0, ⟨.list, .e⟩, ⟨.bool, (.b false)⟩]) <|
.join [.list] (
 .call 1 [vL 1] [.list] <|
 .jump [vL 7]) <|
.letp (.sub .i64) [vI 3, nI 1] <|
.chk .idx [vI 8, vL 7] <|
.letp .eqI [vI 2, nI 1] <|
.ite (.v 9) (
 .row (.v 4) (.n 0) [kI] <|
 .letp (.setr 0) [vL 7, vI 8, vI 10, nI 1] <|
 .ret [vI 0, vL 11, ⟨.bool, (.b true)⟩]) <|
.letp .eqI [vI 2, nI 2] <|
.ite (.v 10) (
 .letp (.setr 1) [vL 7, vI 8, nI 2] <|
 .ret [vI 0, vL 11, ⟨.bool, (.b true)⟩]) <|
.letp .eqI [vI 2, nI 3] <|
.ite (.v 11) (
 .letp (.setr 1) [vL 7, vI 8, nI 3] <|
 .ret [vI 0, vL 12, ⟨.bool, (.b true)⟩]) <|
.ret [vI 0, vL 7, ⟨.bool, (.b true)⟩]
def Φ_do : Phi := ph [φ_cx, φ_ar]
def φ_do := mir Φ_do t_do
def J_do_0 (x0 x2 x3 : Int) (x4 x7 : LL) : Option Out :=
 let x8 := IntKind.wrap .i64 (x3 - 1)
 whenD ((decide ((0 : Int) <= x8) && decide (x8 < (x7.length : Nat)))) <|
 let x9 := (x2 == 1)
 iteD x9 (
 rowD (.list x4) (.int .i64 0) [(.int .i64)] fun r10 =>
 let x10 := (getC r10 0).toInt
 let x11 := (setRow 0 x7 (Int.toNat x8) [C.int .i64 x10, C.int .i64 1])
 some (.ret [C.int .i64 x0, C.list x11, C.bool true])) <|
 let x10 := (x2 == 2)
 iteD x10 (
 let x11 := (setRow 1 x7 (Int.toNat x8) [C.int .i64 2])
 some (.ret [C.int .i64 x0, C.list x11, C.bool true])) <|
 let x11 := (x2 == 3)
 iteD x11 (
 let x12 := (setRow 1 x7 (Int.toNat x8) [C.int .i64 3])
 some (.ret [C.int .i64 x0, C.list x12, C.bool true])) <|
 some (.ret [C.int .i64 x0, C.list x7, C.bool true])
def F_do (x0 : Int) (x1 : LL) (x2 x3 : Int) (x4 : LL) : Option Out :=
 callD (φ_cx [C.int .i64 x0, C.list x1, C.int .i64 x2, C.int .i64 x3, C.list x4]) [.bool] fun r5 =>
 let x5 := (getC r5 0).toBool
 let x6 := (!x5)
 iteD x6 (
 some (.ret [C.int .i64 0, C.list ([] : LL), C.bool false])) <|
 joinD (
 callD (φ_ar [C.list x1]) [.list] fun r7 =>
 let x7 := (getC r7 0).toList
 some (.jump [C.list x7])) fun ps => J_do_0 x0 x2 x3 x4 ((getC ps 0).toList)
def t_ej : Tree :=
.call 0 [vI 0] [kI, .list, .bool] <|
.iter [vB 4, nI 0, vI 2, vL 3] <|
.ite (.v 5) (
 .letp .len [vL 1] <|
 .letp .ltI [vI 6, vI 9] <|
 .ite (.v 10) (
 .row (.v 1) (.v 6) [kI, kI, .list] <|
 .call 1 [vI 7, vL 8, vI 11, vI 12, vL 13] [kI, .list, .bool] <|
 .letp (.add .i64) [vI 6, nI 1] <|
 .jump [vB 16, vI 17, vI 14, vL 15]) <|
 .up <|
 .ret [vI 7, vL 8, vB 5]) <|
.up <|
.ret [vI 7, vL 8, vB 5]
def Φ_ej : Phi := ph [φ_cs, φ_do]
def φ_ej := mir Φ_ej t_ej
def L_ej_0 (x1 : LL) (x5 : Bool) (x6 x7 : Int) (x8 : LL) : Option Out :=
 iteD x5 (
 let x9 : Int := x1.length
 let x10 := decide (x6 < x9)
 iteD x10 (
 rowD (.list x1) (.int .i64 x6) [(.int .i64), (.int .i64), .list] fun r11 =>
 let x11 := (getC r11 0).toInt
 let x12 := (getC r11 1).toInt
 let x13 := (getC r11 2).toList
 callD (φ_do [C.int .i64 x7, C.list x8, C.int .i64 x11, C.int .i64 x12, C.list x13]) [(.int .i64), .list, .bool] fun r14 =>
 let x14 := (getC r14 0).toInt
 let x15 := (getC r14 1).toList
 let x16 := (getC r14 2).toBool
 let x17 := IntKind.wrap .i64 (x6 + 1)
 some (.jump [C.bool x16, C.int .i64 x17, C.int .i64 x14, C.list x15])) <|
 upD <|
 some (.ret [C.int .i64 x7, C.list x8, C.bool x5])) <|
 upD <|
 some (.ret [C.int .i64 x7, C.list x8, C.bool x5])
def F_ej (x0 : Int) (x1 : LL) : Option Out :=
 callD (φ_cs [C.int .i64 x0]) [(.int .i64), .list, .bool] fun r2 =>
 let x2 := (getC r2 0).toInt
 let x3 := (getC r2 1).toList
 let x4 := (getC r2 2).toBool
 iterD (fun ps => L_ej_0 x1 ((getC ps 0).toBool) ((getC ps 1).toInt) ((getC ps 2).toInt) ((getC ps 3).toList)) [C.bool x4, C.int .i64 0, C.int .i64 x2, C.list x3]
def t_eq : Tree :=
.call 0 [vI 0] [.bool] <|
.letp .not [vB 5] <|
.ite (.v 6) (
 .ret [⟨.bool, (.b false)⟩]) <|
.call 1 [vL 3, vI 4] [.bool] <|
.letp .not [vB 7] <|
.ite (.v 8) (
 .ret [⟨.bool, (.b false)⟩]) <|
.call 2 [vI 2, vL 3] [kI, .list, .bool] <|
.ret [vB 11]
def Φ_eq : Phi := ph [φ_dr, φ_fu, φ_ej]
def φ_eq := mir Φ_eq t_eq
def F_eq (x0 : Int) (x1 : Bool) (x2 : Int) (x3 : LL) (x4 : Int) : Option Out :=
 callD (φ_dr [C.int .i64 x0]) [.bool] fun r5 =>
 let x5 := (getC r5 0).toBool
 let x6 := (!x5)
 iteD x6 (
 some (.ret [C.bool false])) <|
 callD (φ_fu [C.list x3, C.int .i64 x4]) [.bool] fun r7 =>
 let x7 := (getC r7 0).toBool
 let x8 := (!x7)
 iteD x8 (
 some (.ret [C.bool false])) <|
 callD (φ_ej [C.int .i64 x2, C.list x3]) [(.int .i64), .list, .bool] fun r9 =>
 let x9 := (getC r9 0).toInt
 let x10 := (getC r9 1).toList
 let x11 := (getC r9 2).toBool
 some (.ret [C.bool x11])
def t_ch : Tree :=
.call 0 [vI 0, vI 1, vI 2, vI 3] [.bool] <|
.letp .not [vB 4] <|
.ret [vB 5]
def Φ_ch : Phi := ph [φ_fc]
def φ_ch := mir Φ_ch t_ch
def F_ch (x0 x1 : Int) (x2 x3 : Int) : Option Out :=
 callD (φ_fc [C.int .i64 x0, C.int .i64 x1, C.int .i64 x2, C.int .i64 x3]) [.bool] fun r4 =>
 let x4 := (getC r4 0).toBool
 let x5 := (!x4)
 some (.ret [C.bool x5])
def t_aj : Tree :=
.letp .len [vL 0] <|
.iter [nI 0] <|
.letp .ltI [vI 2, vI 1] <|
.ite (.v 3) (
 .row (.v 0) (.v 2) [kI, kI, kI, kI] <|
 .call 0 [vI 4, vI 5, vI 6, vI 7] [.bool] <|
 .ite (.v 8) (
 .up <|
 .ret [vI 2]) <|
 .letp (.add .i64) [vI 2, nI 1] <|
 .jump [vI 9]) <|
.up <|
.ret [⟨kI, (.n (-1))⟩]
def Φ_aj : Phi := ph [φ_ch]
def φ_aj := mir Φ_aj t_aj
def L_aj_0 (x0 : LL) (x1 x2 : Int) : Option Out :=
 let x3 := decide (x2 < x1)
 iteD x3 (
 rowD (.list x0) (.int .i64 x2) [(.int .i64), (.int .i64), (.int .i64), (.int .i64)] fun r4 =>
 let x4 := (getC r4 0).toInt
 let x5 := (getC r4 1).toInt
 let x6 := (getC r4 2).toInt
 let x7 := (getC r4 3).toInt
 callD (φ_ch [C.int .i64 x4, C.int .i64 x5, C.int .i64 x6, C.int .i64 x7]) [.bool] fun r8 =>
 let x8 := (getC r8 0).toBool
 iteD x8 (
 upD <|
 some (.ret [C.int .i64 x2])) <|
 let x9 := IntKind.wrap .i64 (x2 + 1)
 some (.jump [C.int .i64 x9])) <|
 upD <|
 some (.ret [C.int .i64 (-1)])
def F_aj (x0 : LL) : Option Out :=
 let x1 : Int := x0.length
 iterD (fun ps => L_aj_0 x0 x1 ((getC ps 0).toInt)) [C.int .i64 0]
def t_ac : Tree :=
.call 0 [vL 0] [kI] <|
.letp .geI [vI 1, nI 0] <|
.ret [vB 2]
def Φ_ac : Phi := ph [φ_aj]
def φ_ac := mir Φ_ac t_ac
def F_ac (x0 : LL) : Option Out :=
 callD (φ_aj [C.list x0]) [(.int .i64)] fun r1 =>
 let x1 := (getC r1 0).toInt
 let x2 := decide (x1 >= 0)
 some (.ret [C.bool x2])
def t_em : Tree :=
.call 0 [vB 0, vL 1, vI 2, vL 3] [.bool] <|
.letp .not [vB 6] <|
.ite (.v 7) (
 .ret [⟨.bool, (.b false)⟩]) <|
.letp .len [vL 4] <|
.letp .neI [vI 8, nI 3] <|
.ite (.v 9) (
 .ret [⟨.bool, (.b false)⟩]) <|
.letp .len [vL 5] <|
.letp .gtI [vI 10, nI 14] <|
.ite (.v 11) (
 .ret [⟨.bool, (.b false)⟩]) <|
.letp .len [vL 4] <|
.iter [nI 0] <|
.letp .ltI [vI 13, vI 12] <|
.ite (.v 14) (
 .row (.v 4) (.v 13) [kI, .bool, kI, .list, kI] <|
 .call 1 [vI 15, vB 16, vI 17, vL 18, vI 19] [.bool] <|
 .letp .not [vB 20] <|
 .ite (.v 21) (
 .up <|
 .ret [⟨.bool, (.b false)⟩]) <|
 .letp (.add .i64) [vI 13, nI 1] <|
 .letp .neI [vI 15, vI 22] <|
 .ite (.v 23) (
 .up <|
 .ret [⟨.bool, (.b false)⟩]) <|
 .letp (.add .i64) [vI 13, nI 1] <|
 .jump [vI 24]) <|
.up <|
.call 2 [vL 5] [.bool] <|
.letp .not [vB 15] <|
.ret [vB 16]
def Φ_em : Phi := ph [φ_ez, φ_eq, φ_ac]
def φ_em := mir Φ_em t_em
def L_em_0 (x4 x5 : LL) (x12 x13 : Int) : Option Out :=
 let x14 := decide (x13 < x12)
 iteD x14 (
 rowD (.list x4) (.int .i64 x13) [(.int .i64), .bool, (.int .i64), .list, (.int .i64)] fun r15 =>
 let x15 := (getC r15 0).toInt
 let x16 := (getC r15 1).toBool
 let x17 := (getC r15 2).toInt
 let x18 := (getC r15 3).toList
 let x19 := (getC r15 4).toInt
 callD (φ_eq [C.int .i64 x15, C.bool x16, C.int .i64 x17, C.list x18, C.int .i64 x19]) [.bool] fun r20 =>
 let x20 := (getC r20 0).toBool
 let x21 := (!x20)
 iteD x21 (
 upD <|
 some (.ret [C.bool false])) <|
 let x22 := IntKind.wrap .i64 (x13 + 1)
 let x23 := (x15 != x22)
 iteD x23 (
 upD <|
 some (.ret [C.bool false])) <|
 let x24 := IntKind.wrap .i64 (x13 + 1)
 some (.jump [C.int .i64 x24])) <|
 upD <|
 callD (φ_ac [C.list x5]) [.bool] fun r15 =>
 let x15 := (getC r15 0).toBool
 let x16 := (!x15)
 some (.ret [C.bool x16])
def F_em (x0 : Bool) (x1 : LL) (x2 : Int) (x3 x4 x5 : LL) : Option Out :=
 callD (φ_ez [C.bool x0, C.list x1, C.int .i64 x2, C.list x3]) [.bool] fun r6 =>
 let x6 := (getC r6 0).toBool
 let x7 := (!x6)
 iteD x7 (
 some (.ret [C.bool false])) <|
 let x8 : Int := x4.length
 let x9 := (x8 != 3)
 iteD x9 (
 some (.ret [C.bool false])) <|
 let x10 : Int := x5.length
 let x11 := decide (x10 > 14)
 iteD x11 (
 some (.ret [C.bool false])) <|
 let x12 : Int := x4.length
 iterD (fun ps => L_em_0 x4 x5 x12 ((getC ps 0).toInt)) [C.int .i64 0]
def t_bk : Tree :=
.call 0 [vL 2] [.list] <|
.ret [vI 0, vI 1, vL 3]
def Φ_bk : Phi := ph [φ_bf]
def φ_bk := mir Φ_bk t_bk
def F_bk (x0 x1 : Int) (x2 : LL) : Option Out :=
 callD (φ_bf [C.list x2]) [.list] fun r3 =>
 let x3 := (getC r3 0).toList
 some (.ret [C.int .i64 x0, C.int .i64 x1, C.list x3])
def t_bu : Tree :=
.chk .upto [vI 2, vL 0] <|
.letp .take [vL 0, vI 2] <|
.letp .len [vL 4] <|
.iter [nI 0, ⟨.list, .e⟩] <|
.letp .ltI [vI 6, vI 5] <|
.ite (.v 8) (
 .row (.v 4) (.v 6) [kI, kI, .list] <|
 .call 0 [vI 9, vI 10, vL 11] [kI, kI, .list] <|
 .letp (.mkl 3) [vI 12, vI 13, vL 14] <|
 .chk .fits [vL 7, vL 15] <|
 .letp .app [vL 7, vL 15] <|
 .letp (.add .i64) [vI 6, nI 1] <|
 .jump [vI 17, vL 16]) <|
.up <|
.ret [vL 7, vI 3]
def Φ_bu : Phi := ph [φ_bk]
def φ_bu := mir Φ_bu t_bu
def L_bu_0 (x3 : Int) (x4 : LL) (x5 x6 : Int) (x7 : LL) : Option Out :=
 let x8 := decide (x6 < x5)
 iteD x8 (
 rowD (.list x4) (.int .i64 x6) [(.int .i64), (.int .i64), .list] fun r9 =>
 let x9 := (getC r9 0).toInt
 let x10 := (getC r9 1).toInt
 let x11 := (getC r9 2).toList
 callD (φ_bk [C.int .i64 x9, C.int .i64 x10, C.list x11]) [(.int .i64), (.int .i64), .list] fun r12 =>
 let x12 := (getC r12 0).toInt
 let x13 := (getC r12 1).toInt
 let x14 := (getC r12 2).toList
 let x15 := [[C.int .i64 x12, C.int .i64 x13, C.list x14]]
 whenD (decide (x7.length + x15.length <= LMAX)) <|
 let x16 := (x7 ++ x15)
 let x17 := IntKind.wrap .i64 (x6 + 1)
 some (.jump [C.int .i64 x17, C.list x16])) <|
 upD <|
 some (.ret [C.list x7, C.int .i64 x3])
def F_bu (x0 : LL) (x1 x2 x3 : Int) : Option Out :=
 whenD ((decide ((0 : Int) <= x2) && decide (x2 <= (x0.length : Nat)))) <|
 let x4 := (x0.take (Int.toNat x2))
 let x5 : Int := x4.length
 iterD (fun ps => L_bu_0 x3 x4 x5 ((getC ps 0).toInt) ((getC ps 1).toList)) [C.int .i64 0, C.list ([] : LL)]
def t_bj : Tree :=
.letp .len [vL 0] <|
.call 0 [vL 0, vI 1, vI 2, vI 1] [.list, kI] <|
.ret [vL 3, vI 4]
def Φ_bj : Phi := ph [φ_bu]
def φ_bj := mir Φ_bj t_bj
def F_bj (x0 : LL) (x1 : Int) : Option Out :=
 let x2 : Int := x0.length
 callD (φ_bu [C.list x0, C.int .i64 x1, C.int .i64 x2, C.int .i64 x1]) [.list, (.int .i64)] fun r3 =>
 let x3 := (getC r3 0).toList
 let x4 := (getC r3 1).toInt
 some (.ret [C.list x3, C.int .i64 x4])
def t_at : Tree :=
.letp .isNil [vL 0] <|
.ite (.v 1) (
 .both (
 .ret [⟨.list, .e⟩]) <|
 .chk (.rowsk [kI, kI, kI, kI]) [vL 0] <|
 .chk .fits [⟨.list, .e⟩, vL 0] <|
 .letp .app [⟨.list, .e⟩, vL 0] <|
 .ret [vL 2]) <|
.chk (.rowsk [kI, kI, kI, kI]) [vL 0] <|
.chk .fits [⟨.list, .e⟩, vL 0] <|
.letp .app [⟨.list, .e⟩, vL 0] <|
.ret [vL 2]
def φ_at := mir (ph []) t_at
def F_at (x0 : LL) : Option Out :=
 let x1 := x0.isEmpty
 iteD x1 (
 bothD (
 some (.ret [C.list ([] : LL)])) <|
 whenD ((x0.all (kindsB [(.int .i64), (.int .i64), (.int .i64), (.int .i64)]))) <|
 whenD (decide (([] : LL).length + x0.length <= LMAX)) <|
 let x2 := (([] : LL) ++ x0)
 some (.ret [C.list x2])) <|
 whenD ((x0.all (kindsB [(.int .i64), (.int .i64), (.int .i64), (.int .i64)]))) <|
 whenD (decide (([] : LL).length + x0.length <= LMAX)) <|
 let x2 := (([] : LL) ++ x0)
 some (.ret [C.list x2])
def t_az : Tree :=
.call 0 [vL 1, vI 2] [.list, kI] <|
.call 1 [vL 3] [.list] <|
.ret [vB 0, vL 4, vI 5, vL 6]
def Φ_az : Phi := ph [φ_bj, φ_at]
def φ_az := mir Φ_az t_az
def F_az (x0 : Bool) (x1 : LL) (x2 : Int) (x3 : LL) : Option Out :=
 callD (φ_bj [C.list x1, C.int .i64 x2]) [.list, (.int .i64)] fun r4 =>
 let x4 := (getC r4 0).toList
 let x5 := (getC r4 1).toInt
 callD (φ_at [C.list x3]) [.list] fun r6 =>
 let x6 := (getC r6 0).toList
 some (.ret [C.bool x0, C.list x4, C.int .i64 x5, C.list x6])
def t_av : Tree :=
.call 0 [vL 3, vI 4] [.list, kI] <|
.ret [vI 0, vB 1, vI 2, vL 5, vI 6]
def Φ_av : Phi := ph [φ_bj]
def φ_av := mir Φ_av t_av
def F_av (x0 : Int) (x1 : Bool) (x2 : Int) (x3 : LL) (x4 : Int) : Option Out :=
 callD (φ_bj [C.list x3, C.int .i64 x4]) [.list, (.int .i64)] fun r5 =>
 let x5 := (getC r5 0).toList
 let x6 := (getC r5 1).toInt
 some (.ret [C.int .i64 x0, C.bool x1, C.int .i64 x2, C.list x5, C.int .i64 x6])
def t_ax : Tree :=
.join [.bool, .list, kI, .list, .list] (
 .call 0 [vB 0, vL 1, vI 2, vL 3] [.bool, .list, kI, .list] <|
 .call 1 [vL 5] [.list] <|
 .jump [vB 6, vL 7, vI 8, vL 9, vL 10]) <|
.letp .len [vL 4] <|
.iter [nI 0, ⟨.list, .e⟩] <|
.letp .ltI [vI 12, vI 11] <|
.ite (.v 14) (
 .row (.v 4) (.v 12) [kI, .bool, kI, .list, kI] <|
 .call 2 [vI 15, vB 16, vI 17, vL 18, vI 19] [kI, .bool, kI, .list, kI] <|
 .letp (.mkl 5) [vI 20, vB 21, vI 22, vL 23, vI 24] <|
 .chk .fits [vL 13, vL 25] <|
 .letp .app [vL 13, vL 25] <|
 .letp (.add .i64) [vI 12, nI 1] <|
 .jump [vI 27, vL 26]) <|
.up <|
.ret [vB 6, vL 7, vI 8, vL 9, vL 13, vL 10]
def Φ_ax : Phi := ph [φ_az, φ_at, φ_av]
def φ_ax := mir Φ_ax t_ax
def L_ax_0 (x4 : LL) (x6 : Bool) (x7 : LL) (x8 : Int) (x9 x10 : LL) (x11 x12 : Int) (x13 : LL) : Option Out :=
 let x14 := decide (x12 < x11)
 iteD x14 (
 rowD (.list x4) (.int .i64 x12) [(.int .i64), .bool, (.int .i64), .list, (.int .i64)] fun r15 =>
 let x15 := (getC r15 0).toInt
 let x16 := (getC r15 1).toBool
 let x17 := (getC r15 2).toInt
 let x18 := (getC r15 3).toList
 let x19 := (getC r15 4).toInt
 callD (φ_av [C.int .i64 x15, C.bool x16, C.int .i64 x17, C.list x18, C.int .i64 x19]) [(.int .i64), .bool, (.int .i64), .list, (.int .i64)] fun r20 =>
 let x20 := (getC r20 0).toInt
 let x21 := (getC r20 1).toBool
 let x22 := (getC r20 2).toInt
 let x23 := (getC r20 3).toList
 let x24 := (getC r20 4).toInt
 let x25 := [[C.int .i64 x20, C.bool x21, C.int .i64 x22, C.list x23, C.int .i64 x24]]
 whenD (decide (x13.length + x25.length <= LMAX)) <|
 let x26 := (x13 ++ x25)
 let x27 := IntKind.wrap .i64 (x12 + 1)
 some (.jump [C.int .i64 x27, C.list x26])) <|
 upD <|
 some (.ret [C.bool x6, C.list x7, C.int .i64 x8, C.list x9, C.list x13, C.list x10])
def J_ax_1 (x4 : LL) (x6 : Bool) (x7 : LL) (x8 : Int) (x9 x10 : LL) : Option Out :=
 let x11 : Int := x4.length
 iterD (fun ps => L_ax_0 x4 x6 x7 x8 x9 x10 x11 ((getC ps 0).toInt) ((getC ps 1).toList)) [C.int .i64 0, C.list ([] : LL)]
def F_ax (x0 : Bool) (x1 : LL) (x2 : Int) (x3 x4 x5 : LL) : Option Out :=
 joinD (
 callD (φ_az [C.bool x0, C.list x1, C.int .i64 x2, C.list x3]) [.bool, .list, (.int .i64), .list] fun r6 =>
 let x6 := (getC r6 0).toBool
 let x7 := (getC r6 1).toList
 let x8 := (getC r6 2).toInt
 let x9 := (getC r6 3).toList
 callD (φ_at [C.list x5]) [.list] fun r10 =>
 let x10 := (getC r10 0).toList
 some (.jump [C.bool x6, C.list x7, C.int .i64 x8, C.list x9, C.list x10])) fun ps => J_ax_1 x4 ((getC ps 0).toBool) ((getC ps 1).toList) ((getC ps 2).toInt) ((getC ps 3).toList) ((getC ps 4).toList)
def t_bv : Tree :=
.ite (.v 2) (
 .chk .upto [vI 1, vL 0] <|
 .letp .take [vL 0, vI 1] <|
 .ret [vL 3]) <|
.ret [vL 0]
def φ_bv := mir (ph []) t_bv
def F_bv (x0 : LL) (x1 : Int) (x2 : Bool) : Option Out :=
 iteD x2 (
 whenD ((decide ((0 : Int) <= x1) && decide (x1 <= (x0.length : Nat)))) <|
 let x3 := (x0.take (Int.toNat x1))
 some (.ret [C.list x3])) <|
 some (.ret [C.list x0])
def t_bl : Tree :=
.call 0 [vL 1, vI 2, vB 4] [.list] <|
.call 1 [vL 5] [.list, .bool] <|
.ret [vL 6]
def Φ_bl : Phi := ph [φ_bv, φ_ek]
def φ_bl := mir Φ_bl t_bl
def F_bl (x0 : Bool) (x1 : LL) (x2 : Int) (x3 : LL) (x4 : Bool) : Option Out :=
 callD (φ_bv [C.list x1, C.int .i64 x2, C.bool x4]) [.list] fun r5 =>
 let x5 := (getC r5 0).toList
 callD (φ_ek [C.list x5]) [.list, .bool] fun r6 =>
 let x6 := (getC r6 0).toList
 let x7 := (getC r6 1).toBool
 some (.ret [C.list x6])
def t_eu : Tree :=
.call 0 [vL 0, vI 1] [.bool] <|
.letp .not [vB 5] <|
.ite (.v 6) (
 .ret [⟨.list, .e⟩, nI 0, ⟨.bool, (.b false)⟩]) <|
.call 1 [vI 2, vI 3, vL 4] [.bool] <|
.letp .not [vB 7] <|
.ite (.v 8) (
 .ret [⟨.list, .e⟩, nI 0, ⟨.bool, (.b false)⟩]) <|
.call 2 [vL 0, vI 1] [.list, kI] <|
.letp .len [vL 9] <|
.letp .eqI [vI 11, nI 40] <|
.ite (.v 12) (
 .ret [vL 9, vI 10, ⟨.bool, (.b false)⟩]) <|
.call 3 [vI 2, vI 3, vL 4] [kI, kI, .list] <|
.letp (.mkl 3) [vI 13, vI 14, vL 15] <|
.chk .fits [vL 9, vL 16] <|
.letp .app [vL 9, vL 16] <|
.ret [vL 17, vI 10, ⟨.bool, (.b true)⟩]
def Φ_eu : Phi := ph [φ_fu, φ_fs, φ_bj, φ_bk]
def φ_eu := mir Φ_eu t_eu
def F_eu (x0 : LL) (x1 x2 x3 : Int) (x4 : LL) : Option Out :=
 callD (φ_fu [C.list x0, C.int .i64 x1]) [.bool] fun r5 =>
 let x5 := (getC r5 0).toBool
 let x6 := (!x5)
 iteD x6 (
 some (.ret [C.list ([] : LL), C.int .i64 0, C.bool false])) <|
 callD (φ_fs [C.int .i64 x2, C.int .i64 x3, C.list x4]) [.bool] fun r7 =>
 let x7 := (getC r7 0).toBool
 let x8 := (!x7)
 iteD x8 (
 some (.ret [C.list ([] : LL), C.int .i64 0, C.bool false])) <|
 callD (φ_bj [C.list x0, C.int .i64 x1]) [.list, (.int .i64)] fun r9 =>
 let x9 := (getC r9 0).toList
 let x10 := (getC r9 1).toInt
 let x11 : Int := x9.length
 let x12 := (x11 == 40)
 iteD x12 (
 some (.ret [C.list x9, C.int .i64 x10, C.bool false])) <|
 callD (φ_bk [C.int .i64 x2, C.int .i64 x3, C.list x4]) [(.int .i64), (.int .i64), .list] fun r13 =>
 let x13 := (getC r13 0).toInt
 let x14 := (getC r13 1).toInt
 let x15 := (getC r13 2).toList
 let x16 := [[C.int .i64 x13, C.int .i64 x14, C.list x15]]
 whenD (decide (x9.length + x16.length <= LMAX)) <|
 let x17 := (x9 ++ x16)
 some (.ret [C.list x17, C.int .i64 x10, C.bool true])
def t_bg : Tree :=
.letp .not [vB 0] <|
.ite (.v 7) (
 .ret [⟨.bool, (.b false)⟩, vB 0, vL 1, vI 2, vL 3]) <|
.call 0 [vB 0, vL 1, vI 2, vL 3, ⟨.bool, (.b false)⟩] [.list] <|
.call 1 [vL 8, vI 4, vI 5, vL 6] [.bool] <|
.letp .not [vB 9] <|
.ite (.v 10) (
 .ret [⟨.bool, (.b false)⟩, vB 0, vL 1, vI 2, vL 3]) <|
.call 2 [vL 1, vI 2, vI 4, vI 5, vL 6] [.list, kI, .bool] <|
.ret [vB 13, vB 0, vL 11, vI 12, vL 3]
def Φ_bg : Phi := ph [φ_bl, φ_co, φ_eu]
def φ_bg := mir Φ_bg t_bg
def F_bg (x0 : Bool) (x1 : LL) (x2 : Int) (x3 : LL) (x4 x5 : Int) (x6 : LL) : Option Out :=
 let x7 := (!x0)
 iteD x7 (
 some (.ret [C.bool false, C.bool x0, C.list x1, C.int .i64 x2, C.list x3])) <|
 callD (φ_bl [C.bool x0, C.list x1, C.int .i64 x2, C.list x3, C.bool false]) [.list] fun r8 =>
 let x8 := (getC r8 0).toList
 callD (φ_co [C.list x8, C.int .i64 x4, C.int .i64 x5, C.list x6]) [.bool] fun r9 =>
 let x9 := (getC r9 0).toBool
 let x10 := (!x9)
 iteD x10 (
 some (.ret [C.bool false, C.bool x0, C.list x1, C.int .i64 x2, C.list x3])) <|
 callD (φ_eu [C.list x1, C.int .i64 x2, C.int .i64 x4, C.int .i64 x5, C.list x6]) [.list, (.int .i64), .bool] fun r11 =>
 let x11 := (getC r11 0).toList
 let x12 := (getC r11 1).toInt
 let x13 := (getC r11 2).toBool
 some (.ret [C.bool x13, C.bool x0, C.list x11, C.int .i64 x12, C.list x3])
def t_cl : Tree :=
.call 0 [vB 0, vL 1, vI 2, vL 3] [.bool] <|
.letp .not [vB 5] <|
.ite (.v 6) (
 .ret [⟨.bool, (.b false)⟩, ⟨.list, .e⟩, nI 0, ⟨.list, .e⟩, ⟨.bool, (.b false)⟩]) <|
.call 1 [vB 0, vL 1, vI 2, vL 3] [.bool, .list, kI, .list] <|
.call 2 [vB 7, vL 8, vI 9, vL 10, ⟨.bool, (.b false)⟩] [.list] <|
.letp .len [vL 11] <|
.letp (.add .i64) [vI 12, nI 1] <|
.call 3 [nI 4, vI 13, vL 4] [.bool] <|
.letp .not [vB 14] <|
.ite (.v 15) (
 .ret [⟨.bool, (.b false)⟩, ⟨.list, .e⟩, nI 0, ⟨.list, .e⟩, ⟨.bool, (.b false)⟩]) <|
.call 4 [vB 7, vL 8, vI 9, vL 10, nI 4, vI 13, vL 4] [.bool, .bool, .list, kI, .list] <|
.ret [vB 17, vL 18, vI 19, vL 20, vB 16]
def Φ_cl : Phi := ph [φ_ez, φ_az, φ_bl, φ_fs, φ_bg]
def φ_cl := mir Φ_cl t_cl
def F_cl (x0 : Bool) (x1 : LL) (x2 : Int) (x3 x4 : LL) : Option Out :=
 callD (φ_ez [C.bool x0, C.list x1, C.int .i64 x2, C.list x3]) [.bool] fun r5 =>
 let x5 := (getC r5 0).toBool
 let x6 := (!x5)
 iteD x6 (
 some (.ret [C.bool false, C.list ([] : LL), C.int .i64 0, C.list ([] : LL), C.bool false])) <|
 callD (φ_az [C.bool x0, C.list x1, C.int .i64 x2, C.list x3]) [.bool, .list, (.int .i64), .list] fun r7 =>
 let x7 := (getC r7 0).toBool
 let x8 := (getC r7 1).toList
 let x9 := (getC r7 2).toInt
 let x10 := (getC r7 3).toList
 callD (φ_bl [C.bool x7, C.list x8, C.int .i64 x9, C.list x10, C.bool false]) [.list] fun r11 =>
 let x11 := (getC r11 0).toList
 let x12 : Int := x11.length
 let x13 := IntKind.wrap .i64 (x12 + 1)
 callD (φ_fs [C.int .i64 4, C.int .i64 x13, C.list x4]) [.bool] fun r14 =>
 let x14 := (getC r14 0).toBool
 let x15 := (!x14)
 iteD x15 (
 some (.ret [C.bool false, C.list ([] : LL), C.int .i64 0, C.list ([] : LL), C.bool false])) <|
 callD (φ_bg [C.bool x7, C.list x8, C.int .i64 x9, C.list x10, C.int .i64 4, C.int .i64 x13, C.list x4]) [.bool, .bool, .list, (.int .i64), .list] fun r16 =>
 let x16 := (getC r16 0).toBool
 let x17 := (getC r16 1).toBool
 let x18 := (getC r16 2).toList
 let x19 := (getC r16 3).toInt
 let x20 := (getC r16 4).toList
 some (.ret [C.bool x17, C.list x18, C.int .i64 x19, C.list x20, C.bool x16])
def t_cr : Tree :=
.call 0 [vB 0, vL 1, vI 2, vL 3] [.bool] <|
.letp .not [vB 5] <|
.ite (.v 6) (
 .ret [⟨.bool, (.b false)⟩, ⟨.list, .e⟩, nI 0, ⟨.list, .e⟩, ⟨.bool, (.b false)⟩]) <|
.call 1 [vI 4] [.bool] <|
.letp .not [vB 7] <|
.ite (.v 8) (
 .ret [⟨.bool, (.b false)⟩, ⟨.list, .e⟩, nI 0, ⟨.list, .e⟩, ⟨.bool, (.b false)⟩]) <|
.call 2 [vB 0, vL 1, vI 2, vL 3] [.bool, .list, kI, .list] <|
.call 3 [vB 9, vL 10, vI 11, vL 12, nI 6, vI 4, ⟨.list, .e⟩] [.bool, .bool, .list, kI, .list] <|
.ret [vB 14, vL 15, vI 16, vL 17, vB 13]
def Φ_cr : Phi := ph [φ_ez, φ_et, φ_az, φ_bg]
def φ_cr := mir Φ_cr t_cr
def F_cr (x0 : Bool) (x1 : LL) (x2 : Int) (x3 : LL) (x4 : Int) : Option Out :=
 callD (φ_ez [C.bool x0, C.list x1, C.int .i64 x2, C.list x3]) [.bool] fun r5 =>
 let x5 := (getC r5 0).toBool
 let x6 := (!x5)
 iteD x6 (
 some (.ret [C.bool false, C.list ([] : LL), C.int .i64 0, C.list ([] : LL), C.bool false])) <|
 callD (φ_et [C.int .i64 x4]) [.bool] fun r7 =>
 let x7 := (getC r7 0).toBool
 let x8 := (!x7)
 iteD x8 (
 some (.ret [C.bool false, C.list ([] : LL), C.int .i64 0, C.list ([] : LL), C.bool false])) <|
 callD (φ_az [C.bool x0, C.list x1, C.int .i64 x2, C.list x3]) [.bool, .list, (.int .i64), .list] fun r9 =>
 let x9 := (getC r9 0).toBool
 let x10 := (getC r9 1).toList
 let x11 := (getC r9 2).toInt
 let x12 := (getC r9 3).toList
 callD (φ_bg [C.bool x9, C.list x10, C.int .i64 x11, C.list x12, C.int .i64 6, C.int .i64 x4, C.list ([] : LL)]) [.bool, .bool, .list, (.int .i64), .list] fun r13 =>
 let x13 := (getC r13 0).toBool
 let x14 := (getC r13 1).toBool
 let x15 := (getC r13 2).toList
 let x16 := (getC r13 3).toInt
 let x17 := (getC r13 4).toList
 some (.ret [C.bool x14, C.list x15, C.int .i64 x16, C.list x17, C.bool x13])
def t_cn : Tree :=
.call 0 [vL 3, vI 4, vI 5, vI 6, nI 0] [.bool] <|
.ret [vB 7]
def Φ_cn : Phi := ph [φ_ap]
def φ_cn := mir Φ_cn t_cn
def F_cn (x0 : Bool) (x1 : LL) (x2 : Int) (x3 : LL) (x4 x5 x6 : Int) : Option Out :=
 callD (φ_ap [C.list x3, C.int .i64 x4, C.int .i64 x5, C.int .i64 x6, C.int .i64 0]) [.bool] fun r7 =>
 let x7 := (getC r7 0).toBool
 some (.ret [C.bool x7])
def t_bo : Tree :=
.letp .not [vB 0] <|
.ite (.v 4) (
 .ret [⟨.list, .e⟩]) <|
.call 0 [vB 0, vL 1, vI 2, vL 3, ⟨.bool, (.b true)⟩] [.list] <|
.letp .len [vL 5] <|
.iter [nI 0, ⟨.list, .e⟩] <|
.letp .ltI [vI 7, vI 6] <|
.ite (.v 9) (
 .row (.v 5) (.v 7) [.list, kI] <|
 .letp (.tab [(1, 1), (2, 2), (3, 3)]) [vI 11] <|
 .letp (.tab [(1, 4), (2, 6), (3, 7)]) [vI 11] <|
 .letp (.has [1, 2, 3]) [vI 11] <|
 .letp .len [vL 10] <|
 .iter [nI 0, vL 8] <|
 .letp .ltI [vI 16, vI 15] <|
 .ite (.v 18) (
 .row (.v 10) (.v 16) [kI] <|
 .letp .not [vB 14] <|
 .ite (.v 20) (
 .letp (.add .i64) [vI 16, nI 1] <|
 .jump [vI 21, vL 17]) <|
 .letp .eqI [vI 19, nI 0] <|
 .ite (.v 21) (
 .letp (.add .i64) [vI 16, nI 1] <|
 .jump [vI 22, vL 17]) <|
 .letp (.add .i64) [vI 16, nI 1] <|
 .letp (.add .i64) [vI 7, nI 1] <|
 .call 1 [vB 0, vL 1, vI 2, vL 3, vI 13, vI 22, vI 23] [.bool] <|
 .ite (.v 24) (
 .letp (.add .i64) [vI 16, nI 1] <|
 .jump [vI 25, vL 17]) <|
 .letp (.add .i64) [vI 16, nI 1] <|
 .letp (.add .i64) [vI 7, nI 1] <|
 .letp .eqI [vI 12, nI 1] <|
 .ite (.v 27) (
 .letp (.mkl 4) [vI 12, vI 25, vI 26, vI 19] <|
 .chk .fits [vL 17, vL 28] <|
 .letp .app [vL 17, vL 28] <|
 .letp (.add .i64) [vI 16, nI 1] <|
 .jump [vI 30, vL 29]) <|
 .letp (.mkl 4) [vI 12, vI 25, vI 26, nI 0] <|
 .chk .fits [vL 17, vL 28] <|
 .letp .app [vL 17, vL 28] <|
 .letp (.add .i64) [vI 16, nI 1] <|
 .jump [vI 30, vL 29]) <|
 .up <|
 .letp (.add .i64) [vI 7, nI 1] <|
 .jump [vI 19, vL 17]) <|
.up <|
.ret [vL 8]
def Φ_bo : Phi := ph [φ_bl, φ_cn]
def φ_bo := mir Φ_bo t_bo
def L_bo_0 (x0 : Bool) (x1 : LL) (x2 : Int) (x3 : LL) (x7 : Int) (x10 : LL) (x12 x13 : Int) (x14 : Bool) (x15 x16 : Int) (x17 : LL) : Option Out :=
 let x18 := decide (x16 < x15)
 iteD x18 (
 rowD (.list x10) (.int .i64 x16) [(.int .i64)] fun r19 =>
 let x19 := (getC r19 0).toInt
 let x20 := (!x14)
 iteD x20 (
 let x21 := IntKind.wrap .i64 (x16 + 1)
 some (.jump [C.int .i64 x21, C.list x17])) <|
 let x21 := (x19 == 0)
 iteD x21 (
 let x22 := IntKind.wrap .i64 (x16 + 1)
 some (.jump [C.int .i64 x22, C.list x17])) <|
 let x22 := IntKind.wrap .i64 (x16 + 1)
 let x23 := IntKind.wrap .i64 (x7 + 1)
 callD (φ_cn [C.bool x0, C.list x1, C.int .i64 x2, C.list x3, C.int .i64 x13, C.int .i64 x22, C.int .i64 x23]) [.bool] fun r24 =>
 let x24 := (getC r24 0).toBool
 iteD x24 (
 let x25 := IntKind.wrap .i64 (x16 + 1)
 some (.jump [C.int .i64 x25, C.list x17])) <|
 let x25 := IntKind.wrap .i64 (x16 + 1)
 let x26 := IntKind.wrap .i64 (x7 + 1)
 let x27 := (x12 == 1)
 iteD x27 (
 let x28 := [[C.int .i64 x12, C.int .i64 x25, C.int .i64 x26, C.int .i64 x19]]
 whenD (decide (x17.length + x28.length <= LMAX)) <|
 let x29 := (x17 ++ x28)
 let x30 := IntKind.wrap .i64 (x16 + 1)
 some (.jump [C.int .i64 x30, C.list x29])) <|
 let x28 := [[C.int .i64 x12, C.int .i64 x25, C.int .i64 x26, C.int .i64 0]]
 whenD (decide (x17.length + x28.length <= LMAX)) <|
 let x29 := (x17 ++ x28)
 let x30 := IntKind.wrap .i64 (x16 + 1)
 some (.jump [C.int .i64 x30, C.list x29])) <|
 upD <|
 let x19 := IntKind.wrap .i64 (x7 + 1)
 some (.jump [C.int .i64 x19, C.list x17])
def L_bo_1 (x0 : Bool) (x1 : LL) (x2 : Int) (x3 x5 : LL) (x6 x7 : Int) (x8 : LL) : Option Out :=
 let x9 := decide (x7 < x6)
 iteD x9 (
 rowD (.list x5) (.int .i64 x7) [.list, (.int .i64)] fun r10 =>
 let x10 := (getC r10 0).toList
 let x11 := (getC r10 1).toInt
 let x12 : Int := (lookI [(1, 1), (2, 2), (3, 3)] x11)
 let x13 : Int := (lookI [(1, 4), (2, 6), (3, 7)] x11)
 let x14 := (([1, 2, 3] : List Int).any fun k => x11 == k)
 let x15 : Int := x10.length
 iterD (fun ps => L_bo_0 x0 x1 x2 x3 x7 x10 x12 x13 x14 x15 ((getC ps 0).toInt) ((getC ps 1).toList)) [C.int .i64 0, C.list x8]) <|
 upD <|
 some (.ret [C.list x8])
def F_bo (x0 : Bool) (x1 : LL) (x2 : Int) (x3 : LL) : Option Out :=
 let x4 := (!x0)
 iteD x4 (
 some (.ret [C.list ([] : LL)])) <|
 callD (φ_bl [C.bool x0, C.list x1, C.int .i64 x2, C.list x3, C.bool true]) [.list] fun r5 =>
 let x5 := (getC r5 0).toList
 let x6 : Int := x5.length
 iterD (fun ps => L_bo_1 x0 x1 x2 x3 x5 x6 ((getC ps 0).toInt) ((getC ps 1).toList)) [C.int .i64 0, C.list ([] : LL)]
def t_bh : Tree :=
.letp .len [vL 5] <|
.letp .ltI [vI 10, nI 14] <|
.ite (.v 11) (
 .letp (.mkl 4) [vI 6, vI 7, vI 8, vI 9] <|
 .chk .fits [vL 5, vL 12] <|
 .letp .app [vL 5, vL 12] <|
 .ret [vB 0, vL 1, vI 2, vL 3, vL 4, vL 13]) <|
.ret [vB 0, vL 1, vI 2, vL 3, vL 4, vL 5]
def φ_bh := mir (ph []) t_bh
def F_bh (x0 : Bool) (x1 : LL) (x2 : Int) (x3 x4 x5 : LL) (x6 x7 : Int) (x8 x9 : Int) : Option Out :=
 let x10 : Int := x5.length
 let x11 := decide (x10 < 14)
 iteD x11 (
 let x12 := [[C.int .i64 x6, C.int .i64 x7, C.int .i64 x8, C.int .i64 x9]]
 whenD (decide (x5.length + x12.length <= LMAX)) <|
 let x13 := (x5 ++ x12)
 some (.ret [C.bool x0, C.list x1, C.int .i64 x2, C.list x3, C.list x4, C.list x13])) <|
 some (.ret [C.bool x0, C.list x1, C.int .i64 x2, C.list x3, C.list x4, C.list x5])
def t_bi : Tree :=
.letp .len [vL 6] <|
.iter [⟨.bool, (.b false)⟩, ⟨.bool, (.b true)⟩, nI 0] <|
.letp .ltI [vI 10, vI 7] <|
.ite (.v 11) (
 .row (.v 6) (.v 10) [kI] <|
 .letp .eqI [vI 12, nI 0] <|
 .ite (.v 13) (
 .letp (.add .i64) [vI 10, nI 1] <|
 .jump [vB 8, vB 9, vI 14]) <|
 .letp (.add .i64) [vI 10, nI 1] <|
 .call 0 [vB 0, vL 1, vI 2, vL 3, vI 4, vI 14, vI 5] [.bool] <|
 .ite (.v 8) (
 .ite (.v 9) (
 .letp (.add .i64) [vI 10, nI 1] <|
 .jump [⟨.bool, (.b true)⟩, vB 15, vI 16]) <|
 .letp (.add .i64) [vI 10, nI 1] <|
 .jump [⟨.bool, (.b true)⟩, ⟨.bool, (.b false)⟩, vI 16]) <|
 .ite (.v 9) (
 .letp (.add .i64) [vI 10, nI 1] <|
 .jump [vB 15, vB 15, vI 16]) <|
 .letp (.add .i64) [vI 10, nI 1] <|
 .jump [vB 15, ⟨.bool, (.b false)⟩, vI 16]) <|
.up <|
.ret [vB 8, vB 9]
def Φ_bi : Phi := ph [φ_cn]
def φ_bi := mir Φ_bi t_bi
def L_bi_0 (x0 : Bool) (x1 : LL) (x2 : Int) (x3 : LL) (x4 x5 : Int) (x6 : LL) (x7 : Int) (x8 x9 : Bool) (x10 : Int) : Option Out :=
 let x11 := decide (x10 < x7)
 iteD x11 (
 rowD (.list x6) (.int .i64 x10) [(.int .i64)] fun r12 =>
 let x12 := (getC r12 0).toInt
 let x13 := (x12 == 0)
 iteD x13 (
 let x14 := IntKind.wrap .i64 (x10 + 1)
 some (.jump [C.bool x8, C.bool x9, C.int .i64 x14])) <|
 let x14 := IntKind.wrap .i64 (x10 + 1)
 callD (φ_cn [C.bool x0, C.list x1, C.int .i64 x2, C.list x3, C.int .i64 x4, C.int .i64 x14, C.int .i64 x5]) [.bool] fun r15 =>
 let x15 := (getC r15 0).toBool
 iteD x8 (
 iteD x9 (
 let x16 := IntKind.wrap .i64 (x10 + 1)
 some (.jump [C.bool true, C.bool x15, C.int .i64 x16])) <|
 let x16 := IntKind.wrap .i64 (x10 + 1)
 some (.jump [C.bool true, C.bool false, C.int .i64 x16])) <|
 iteD x9 (
 let x16 := IntKind.wrap .i64 (x10 + 1)
 some (.jump [C.bool x15, C.bool x15, C.int .i64 x16])) <|
 let x16 := IntKind.wrap .i64 (x10 + 1)
 some (.jump [C.bool x15, C.bool false, C.int .i64 x16])) <|
 upD <|
 some (.ret [C.bool x8, C.bool x9])
def F_bi (x0 : Bool) (x1 : LL) (x2 : Int) (x3 : LL) (x4 x5 : Int) (x6 : LL) : Option Out :=
 let x7 : Int := x6.length
 iterD (fun ps => L_bi_0 x0 x1 x2 x3 x4 x5 x6 x7 ((getC ps 0).toBool) ((getC ps 1).toBool) ((getC ps 2).toInt)) [C.bool false, C.bool true, C.int .i64 0]
def t_bd : Tree :=
.call 0 [⟨.bool, (.v 0)⟩, ⟨.list, (.v 1)⟩, ⟨(.int .i64), (.v 2)⟩, ⟨.list, (.v 3)⟩, ⟨.bool, (.b false)⟩] [.list] <|
.letp (.sub .i64) [⟨(.int .i64), (.v 4)⟩, ⟨(.int .i64), (.n 1)⟩] <|
.row (.v 5) (.v 6) [.list, (.int .i64)] <|
.call 1 [⟨.bool, (.v 0)⟩, ⟨.list, (.v 1)⟩, ⟨(.int .i64), (.v 2)⟩, ⟨.list, (.v 3)⟩, ⟨(.int .i64), (.n 5)⟩, ⟨(.int .i64), (.v 4)⟩, ⟨.list, (.v 7)⟩] [.bool, .bool] <|
.call 1 [⟨.bool, (.v 0)⟩, ⟨.list, (.v 1)⟩, ⟨(.int .i64), (.v 2)⟩, ⟨.list, (.v 3)⟩, ⟨(.int .i64), (.n 4)⟩, ⟨(.int .i64), (.v 4)⟩, ⟨.list, (.v 7)⟩] [.bool, .bool] <|
.call 1 [⟨.bool, (.v 0)⟩, ⟨.list, (.v 1)⟩, ⟨(.int .i64), (.v 2)⟩, ⟨.list, (.v 3)⟩, ⟨(.int .i64), (.n 6)⟩, ⟨(.int .i64), (.v 4)⟩, ⟨.list, (.v 7)⟩] [.bool, .bool] <|
.call 1 [⟨.bool, (.v 0)⟩, ⟨.list, (.v 1)⟩, ⟨(.int .i64), (.v 2)⟩, ⟨.list, (.v 3)⟩, ⟨(.int .i64), (.n 7)⟩, ⟨(.int .i64), (.v 4)⟩, ⟨.list, (.v 7)⟩] [.bool, .bool] <|
.call 0 [⟨.bool, (.v 0)⟩, ⟨.list, (.v 1)⟩, ⟨(.int .i64), (.v 2)⟩, ⟨.list, (.v 3)⟩, ⟨.bool, (.b true)⟩] [.list] <|
.call 2 [⟨.list, (.v 17)⟩, ⟨(.int .i64), (.v 4)⟩] [(.int .i64)] <|
.letp .eqI [⟨(.int .i64), (.v 18)⟩, ⟨(.int .i64), (.v 8)⟩] <|
.join [.bool] (
 .letp .eqI [⟨(.int .i64), (.v 8)⟩, ⟨(.int .i64), (.n 1)⟩] <|
 .ite (.v 20) (
 .jump [⟨.bool, (.v 9)⟩]) <|
 .jump [⟨.bool, (.b false)⟩]) <|
.ite (.v 20) (
 .call 3 [⟨.bool, (.v 0)⟩, ⟨.list, (.v 1)⟩, ⟨(.int .i64), (.v 2)⟩, ⟨.list, (.v 3)⟩, ⟨(.int .i64), (.n 6)⟩, ⟨(.int .i64), (.v 4)⟩, ⟨.list, .e⟩] [.bool, .bool, .list, (.int .i64), .list] <|
 .ret [⟨.bool, (.v 22)⟩, ⟨.list, (.v 23)⟩, ⟨(.int .i64), (.v 24)⟩, ⟨.list, (.v 25)⟩]) <|
.join [.bool] (
 .letp .eqI [⟨(.int .i64), (.v 8)⟩, ⟨(.int .i64), (.n 1)⟩] <|
 .ite (.v 21) (
 .jump [⟨.bool, (.v 12)⟩]) <|
 .jump [⟨.bool, (.b false)⟩]) <|
.ite (.v 21) (
 .call 3 [⟨.bool, (.v 0)⟩, ⟨.list, (.v 1)⟩, ⟨(.int .i64), (.v 2)⟩, ⟨.list, (.v 3)⟩, ⟨(.int .i64), (.n 5)⟩, ⟨(.int .i64), (.v 4)⟩, ⟨.list, .e⟩] [.bool, .bool, .list, (.int .i64), .list] <|
 .ret [⟨.bool, (.v 23)⟩, ⟨.list, (.v 24)⟩, ⟨(.int .i64), (.v 25)⟩, ⟨.list, (.v 26)⟩]) <|
.letp .eqI [⟨(.int .i64), (.v 8)⟩, ⟨(.int .i64), (.n 2)⟩] <|
.ite (.v 22) (
 .ite (.v 19) (
 .ite (.v 14) (
 .call 3 [⟨.bool, (.v 0)⟩, ⟨.list, (.v 1)⟩, ⟨(.int .i64), (.v 2)⟩, ⟨.list, (.v 3)⟩, ⟨(.int .i64), (.n 7)⟩, ⟨(.int .i64), (.v 4)⟩, ⟨.list, .e⟩] [.bool, .bool, .list, (.int .i64), .list] <|
 .ret [⟨.bool, (.v 24)⟩, ⟨.list, (.v 25)⟩, ⟨(.int .i64), (.v 26)⟩, ⟨.list, (.v 27)⟩]) <|
 .letp .eqI [⟨(.int .i64), (.v 8)⟩, ⟨(.int .i64), (.n 3)⟩] <|
 .ite (.v 23) (
 .ite (.v 19) (
 .ite (.v 16) (
 .call 3 [⟨.bool, (.v 0)⟩, ⟨.list, (.v 1)⟩, ⟨(.int .i64), (.v 2)⟩, ⟨.list, (.v 3)⟩, ⟨(.int .i64), (.n 7)⟩, ⟨(.int .i64), (.v 4)⟩, ⟨.list, .e⟩] [.bool, .bool, .list, (.int .i64), .list] <|
 .ret [⟨.bool, (.v 25)⟩, ⟨.list, (.v 26)⟩, ⟨(.int .i64), (.v 27)⟩, ⟨.list, (.v 28)⟩]) <|
 .ret [⟨.bool, (.v 0)⟩, ⟨.list, (.v 1)⟩, ⟨(.int .i64), (.v 2)⟩, ⟨.list, (.v 3)⟩]) <|
 .ret [⟨.bool, (.v 0)⟩, ⟨.list, (.v 1)⟩, ⟨(.int .i64), (.v 2)⟩, ⟨.list, (.v 3)⟩]) <|
 .ret [⟨.bool, (.v 0)⟩, ⟨.list, (.v 1)⟩, ⟨(.int .i64), (.v 2)⟩, ⟨.list, (.v 3)⟩]) <|
 .letp .eqI [⟨(.int .i64), (.v 8)⟩, ⟨(.int .i64), (.n 3)⟩] <|
 .ite (.v 23) (
 .ite (.v 19) (
 .ite (.v 16) (
 .call 3 [⟨.bool, (.v 0)⟩, ⟨.list, (.v 1)⟩, ⟨(.int .i64), (.v 2)⟩, ⟨.list, (.v 3)⟩, ⟨(.int .i64), (.n 7)⟩, ⟨(.int .i64), (.v 4)⟩, ⟨.list, .e⟩] [.bool, .bool, .list, (.int .i64), .list] <|
 .ret [⟨.bool, (.v 25)⟩, ⟨.list, (.v 26)⟩, ⟨(.int .i64), (.v 27)⟩, ⟨.list, (.v 28)⟩]) <|
 .ret [⟨.bool, (.v 0)⟩, ⟨.list, (.v 1)⟩, ⟨(.int .i64), (.v 2)⟩, ⟨.list, (.v 3)⟩]) <|
 .ret [⟨.bool, (.v 0)⟩, ⟨.list, (.v 1)⟩, ⟨(.int .i64), (.v 2)⟩, ⟨.list, (.v 3)⟩]) <|
 .ret [⟨.bool, (.v 0)⟩, ⟨.list, (.v 1)⟩, ⟨(.int .i64), (.v 2)⟩, ⟨.list, (.v 3)⟩]) <|
.letp .eqI [⟨(.int .i64), (.v 8)⟩, ⟨(.int .i64), (.n 3)⟩] <|
.ite (.v 23) (
 .ite (.v 19) (
 .ite (.v 16) (
 .call 3 [⟨.bool, (.v 0)⟩, ⟨.list, (.v 1)⟩, ⟨(.int .i64), (.v 2)⟩, ⟨.list, (.v 3)⟩, ⟨(.int .i64), (.n 7)⟩, ⟨(.int .i64), (.v 4)⟩, ⟨.list, .e⟩] [.bool, .bool, .list, (.int .i64), .list] <|
 .ret [⟨.bool, (.v 25)⟩, ⟨.list, (.v 26)⟩, ⟨(.int .i64), (.v 27)⟩, ⟨.list, (.v 28)⟩]) <|
 .ret [⟨.bool, (.v 0)⟩, ⟨.list, (.v 1)⟩, ⟨(.int .i64), (.v 2)⟩, ⟨.list, (.v 3)⟩]) <|
 .ret [⟨.bool, (.v 0)⟩, ⟨.list, (.v 1)⟩, ⟨(.int .i64), (.v 2)⟩, ⟨.list, (.v 3)⟩]) <|
.ret [⟨.bool, (.v 0)⟩, ⟨.list, (.v 1)⟩, ⟨(.int .i64), (.v 2)⟩, ⟨.list, (.v 3)⟩]
def Φ_bd : Phi := fun n => match n with
  | 0 => φ_bl
  | 1 => φ_bi
  | 2 => φ_ep
  | 3 => φ_bg
  | _ => fun _ => none
def φ_bd (cs : List C) : Option (List C) := retOf (den Φ_bd t_bd cs)
def J_bd_0 (x0 : Bool) (x1 : LL) (x2 : Int) (x3 : LL) (x4 x8 : Int) (x14 x16 : Bool) (x19 x21 : Bool) : Option Out :=
 iteD x21 (
 callD (φ_bg [C.bool x0, C.list x1, C.int .i64 x2, C.list x3, C.int .i64 5, C.int .i64 x4, C.list ([] : LL)]) [.bool, .bool, .list, (.int .i64), .list] fun r22 =>
 let x22 := (getC r22 0).toBool
 let x23 := (getC r22 1).toBool
 let x24 := (getC r22 2).toList
 let x25 := (getC r22 3).toInt
 let x26 := (getC r22 4).toList
 some (.ret [C.bool x23, C.list x24, C.int .i64 x25, C.list x26])) <|
 let x22 := (x8 == 2)
 iteD x22 (
 iteD x19 (
 iteD x14 (
 callD (φ_bg [C.bool x0, C.list x1, C.int .i64 x2, C.list x3, C.int .i64 7, C.int .i64 x4, C.list ([] : LL)]) [.bool, .bool, .list, (.int .i64), .list] fun r23 =>
 let x23 := (getC r23 0).toBool
 let x24 := (getC r23 1).toBool
 let x25 := (getC r23 2).toList
 let x26 := (getC r23 3).toInt
 let x27 := (getC r23 4).toList
 some (.ret [C.bool x24, C.list x25, C.int .i64 x26, C.list x27])) <|
 let x23 := (x8 == 3)
 iteD x23 (
 iteD x19 (
 iteD x16 (
 callD (φ_bg [C.bool x0, C.list x1, C.int .i64 x2, C.list x3, C.int .i64 7, C.int .i64 x4, C.list ([] : LL)]) [.bool, .bool, .list, (.int .i64), .list] fun r24 =>
 let x24 := (getC r24 0).toBool
 let x25 := (getC r24 1).toBool
 let x26 := (getC r24 2).toList
 let x27 := (getC r24 3).toInt
 let x28 := (getC r24 4).toList
 some (.ret [C.bool x25, C.list x26, C.int .i64 x27, C.list x28])) <|
 some (.ret [C.bool x0, C.list x1, C.int .i64 x2, C.list x3])) <|
 some (.ret [C.bool x0, C.list x1, C.int .i64 x2, C.list x3])) <|
 some (.ret [C.bool x0, C.list x1, C.int .i64 x2, C.list x3])) <|
 let x23 := (x8 == 3)
 iteD x23 (
 iteD x19 (
 iteD x16 (
 callD (φ_bg [C.bool x0, C.list x1, C.int .i64 x2, C.list x3, C.int .i64 7, C.int .i64 x4, C.list ([] : LL)]) [.bool, .bool, .list, (.int .i64), .list] fun r24 =>
 let x24 := (getC r24 0).toBool
 let x25 := (getC r24 1).toBool
 let x26 := (getC r24 2).toList
 let x27 := (getC r24 3).toInt
 let x28 := (getC r24 4).toList
 some (.ret [C.bool x25, C.list x26, C.int .i64 x27, C.list x28])) <|
 some (.ret [C.bool x0, C.list x1, C.int .i64 x2, C.list x3])) <|
 some (.ret [C.bool x0, C.list x1, C.int .i64 x2, C.list x3])) <|
 some (.ret [C.bool x0, C.list x1, C.int .i64 x2, C.list x3])) <|
 let x23 := (x8 == 3)
 iteD x23 (
 iteD x19 (
 iteD x16 (
 callD (φ_bg [C.bool x0, C.list x1, C.int .i64 x2, C.list x3, C.int .i64 7, C.int .i64 x4, C.list ([] : LL)]) [.bool, .bool, .list, (.int .i64), .list] fun r24 =>
 let x24 := (getC r24 0).toBool
 let x25 := (getC r24 1).toBool
 let x26 := (getC r24 2).toList
 let x27 := (getC r24 3).toInt
 let x28 := (getC r24 4).toList
 some (.ret [C.bool x25, C.list x26, C.int .i64 x27, C.list x28])) <|
 some (.ret [C.bool x0, C.list x1, C.int .i64 x2, C.list x3])) <|
 some (.ret [C.bool x0, C.list x1, C.int .i64 x2, C.list x3])) <|
 some (.ret [C.bool x0, C.list x1, C.int .i64 x2, C.list x3])
def J_bd_1 (x0 : Bool) (x1 : LL) (x2 : Int) (x3 : LL) (x4 x8 : Int) (x12 x14 : Bool) (x16 x19 x20 : Bool) : Option Out :=
 iteD x20 (
 callD (φ_bg [C.bool x0, C.list x1, C.int .i64 x2, C.list x3, C.int .i64 6, C.int .i64 x4, C.list ([] : LL)]) [.bool, .bool, .list, (.int .i64), .list] fun r21 =>
 let x21 := (getC r21 0).toBool
 let x22 := (getC r21 1).toBool
 let x23 := (getC r21 2).toList
 let x24 := (getC r21 3).toInt
 let x25 := (getC r21 4).toList
 some (.ret [C.bool x22, C.list x23, C.int .i64 x24, C.list x25])) <|
 joinD (
 let x21 := (x8 == 1)
 iteD x21 (
 some (.jump [C.bool x12])) <|
 some (.jump [C.bool false])) fun ps => J_bd_0 x0 x1 x2 x3 x4 x8 x14 x16 x19 ((getC ps 0).toBool)
def F_bd (x0 : Bool) (x1 : LL) (x2 : Int) (x3 : LL) (x4 : Int) : Option Out :=
 callD (φ_bl [C.bool x0, C.list x1, C.int .i64 x2, C.list x3, C.bool false]) [.list] fun r5 =>
 let x5 := (getC r5 0).toList
 let x6 := IntKind.wrap .i64 (x4 - 1)
 rowD (.list x5) (.int .i64 x6) [.list, (.int .i64)] fun r7 =>
 let x7 := (getC r7 0).toList
 let x8 := (getC r7 1).toInt
 callD (φ_bi [C.bool x0, C.list x1, C.int .i64 x2, C.list x3, C.int .i64 5, C.int .i64 x4, C.list x7]) [.bool, .bool] fun r9 =>
 let x9 := (getC r9 0).toBool
 let x10 := (getC r9 1).toBool
 callD (φ_bi [C.bool x0, C.list x1, C.int .i64 x2, C.list x3, C.int .i64 4, C.int .i64 x4, C.list x7]) [.bool, .bool] fun r11 =>
 let x11 := (getC r11 0).toBool
 let x12 := (getC r11 1).toBool
 callD (φ_bi [C.bool x0, C.list x1, C.int .i64 x2, C.list x3, C.int .i64 6, C.int .i64 x4, C.list x7]) [.bool, .bool] fun r13 =>
 let x13 := (getC r13 0).toBool
 let x14 := (getC r13 1).toBool
 callD (φ_bi [C.bool x0, C.list x1, C.int .i64 x2, C.list x3, C.int .i64 7, C.int .i64 x4, C.list x7]) [.bool, .bool] fun r15 =>
 let x15 := (getC r15 0).toBool
 let x16 := (getC r15 1).toBool
 callD (φ_bl [C.bool x0, C.list x1, C.int .i64 x2, C.list x3, C.bool true]) [.list] fun r17 =>
 let x17 := (getC r17 0).toList
 callD (φ_ep [C.list x17, C.int .i64 x4]) [(.int .i64)] fun r18 =>
 let x18 := (getC r18 0).toInt
 let x19 := (x18 == x8)
 joinD (
 let x20 := (x8 == 1)
 iteD x20 (
 some (.jump [C.bool x9])) <|
 some (.jump [C.bool false])) fun ps => J_bd_1 x0 x1 x2 x3 x4 x8 x12 x14 x16 x19 ((getC ps 0).toBool)
def t_bz : Tree :=
.letp .not [vB 0] <|
.ite (.v 8) (
 .ret [vB 0, vL 1, vI 2, vL 3]) <|
.call 0 [vI 4, vI 5, vI 6, vI 7] [.bool] <|
.letp .not [vB 9] <|
.ite (.v 10) (
 .ret [vB 0, vL 1, vI 2, vL 3]) <|
.call 1 [vI 4, vI 5, vI 6, vI 7] [.bool] <|
.letp .not [vB 11] <|
.ite (.v 12) (
 .ret [vB 0, vL 1, vI 2, vL 3]) <|
.call 2 [vB 0, vL 1, vI 2, vL 3, ⟨.bool, (.b false)⟩] [.list] <|
.letp .len [vL 13] <|
.letp .gtI [vI 6, vI 14] <|
.ite (.v 15) (
 .ret [vB 0, vL 1, vI 2, vL 3]) <|
.call 3 [vL 3, vI 4, vI 5, vI 6, vI 7] [.bool] <|
.letp .not [vB 16] <|
.ite (.v 17) (
 .letp (.mkl 4) [vI 4, vI 5, vI 6, vI 7] <|
 .chk .fits [vL 3, vL 18] <|
 .letp .app [vL 3, vL 18] <|
 .call 4 [vB 0, vL 1, vI 2, vL 19, vI 6] [.bool, .list, kI, .list] <|
 .ret [vB 20, vL 21, vI 22, vL 23]) <|
.call 4 [vB 0, vL 1, vI 2, vL 3, vI 6] [.bool, .list, kI, .list] <|
.ret [vB 18, vL 19, vI 20, vL 21]
def Φ_bz : Phi := ph [φ_fc, φ_bb, φ_bl, φ_ap, φ_bd]
def φ_bz := mir Φ_bz t_bz
def F_bz (x0 : Bool) (x1 : LL) (x2 : Int) (x3 : LL) (x4 x5 : Int) (x6 x7 : Int) : Option Out :=
 let x8 := (!x0)
 iteD x8 (
 some (.ret [C.bool x0, C.list x1, C.int .i64 x2, C.list x3])) <|
 callD (φ_fc [C.int .i64 x4, C.int .i64 x5, C.int .i64 x6, C.int .i64 x7]) [.bool] fun r9 =>
 let x9 := (getC r9 0).toBool
 let x10 := (!x9)
 iteD x10 (
 some (.ret [C.bool x0, C.list x1, C.int .i64 x2, C.list x3])) <|
 callD (φ_bb [C.int .i64 x4, C.int .i64 x5, C.int .i64 x6, C.int .i64 x7]) [.bool] fun r11 =>
 let x11 := (getC r11 0).toBool
 let x12 := (!x11)
 iteD x12 (
 some (.ret [C.bool x0, C.list x1, C.int .i64 x2, C.list x3])) <|
 callD (φ_bl [C.bool x0, C.list x1, C.int .i64 x2, C.list x3, C.bool false]) [.list] fun r13 =>
 let x13 := (getC r13 0).toList
 let x14 : Int := x13.length
 let x15 := decide (x6 > x14)
 iteD x15 (
 some (.ret [C.bool x0, C.list x1, C.int .i64 x2, C.list x3])) <|
 callD (φ_ap [C.list x3, C.int .i64 x4, C.int .i64 x5, C.int .i64 x6, C.int .i64 x7]) [.bool] fun r16 =>
 let x16 := (getC r16 0).toBool
 let x17 := (!x16)
 iteD x17 (
 let x18 := [[C.int .i64 x4, C.int .i64 x5, C.int .i64 x6, C.int .i64 x7]]
 whenD (decide (x3.length + x18.length <= LMAX)) <|
 let x19 := (x3 ++ x18)
 callD (φ_bd [C.bool x0, C.list x1, C.int .i64 x2, C.list x19, C.int .i64 x6]) [.bool, .list, (.int .i64), .list] fun r20 =>
 let x20 := (getC r20 0).toBool
 let x21 := (getC r20 1).toList
 let x22 := (getC r20 2).toInt
 let x23 := (getC r20 3).toList
 some (.ret [C.bool x20, C.list x21, C.int .i64 x22, C.list x23])) <|
 callD (φ_bd [C.bool x0, C.list x1, C.int .i64 x2, C.list x3, C.int .i64 x6]) [.bool, .list, (.int .i64), .list] fun r18 =>
 let x18 := (getC r18 0).toBool
 let x19 := (getC r18 1).toList
 let x20 := (getC r18 2).toInt
 let x21 := (getC r18 3).toList
 some (.ret [C.bool x18, C.list x19, C.int .i64 x20, C.list x21])
def t_be : Tree :=
.call 0 [vL 3, vI 4, vB 5] [.list] <|
.call 1 [vI 2, vL 6] [kI, .list, .bool] <|
.ret [vI 7, vL 8]
def Φ_be : Phi := ph [φ_bv, φ_ej]
def φ_be := mir Φ_be t_be
def F_be (x0 : Int) (x1 : Bool) (x2 : Int) (x3 : LL) (x4 : Int) (x5 : Bool) : Option Out :=
 callD (φ_bv [C.list x3, C.int .i64 x4, C.bool x5]) [.list] fun r6 =>
 let x6 := (getC r6 0).toList
 callD (φ_ej [C.int .i64 x2, C.list x6]) [(.int .i64), .list, .bool] fun r7 =>
 let x7 := (getC r7 0).toInt
 let x8 := (getC r7 1).toList
 let x9 := (getC r7 2).toBool
 some (.ret [C.int .i64 x7, C.list x8])
def t_au : Tree :=
.letp (.sub .i64) [vI 7, nI 1] <|
.letp (.sub .i64) [vI 7, nI 1] <|
.call 0 [vI 0, vB 1, vI 2, vL 3, vI 4, ⟨.bool, (.b false)⟩] [kI, .list] <|
.row (.v 12) (.v 9) [kI, kI] <|
.call 0 [vI 0, vB 1, vI 2, vL 3, vI 4, ⟨.bool, (.b true)⟩] [kI, .list] <|
.row (.v 16) (.v 10) [kI, kI] <|
.join [.bool] (
 .letp .eqI [vI 5, nI 1] <|
 .ite (.v 19) (
 .letp .eqI [vI 14, nI 0] <|
 .jump [vB 20]) <|
 .jump [⟨.bool, (.b false)⟩]) <|
.ite (.v 19) (
 .ret [nI 5]) <|
.join [.bool] (
 .letp .eqI [vI 5, nI 1] <|
 .ite (.v 20) (
 .letp .eqI [vI 18, nI 1] <|
 .ite (.v 21) (
 .jump [⟨.bool, (.b true)⟩]) <|
 .letp .eqI [vI 18, nI 2] <|
 .jump [vB 22]) <|
 .jump [⟨.bool, (.b false)⟩]) <|
.ite (.v 20) (
 .ret [nI 4]) <|
.letp .eqI [vI 5, nI 1] <|
.ite (.v 21) (
 .letp .eqI [vI 18, nI 3] <|
 .ite (.v 22) (
 .ret [nI 5]) <|
 .letp .eqI [vI 5, nI 2] <|
 .ite (.v 23) (
 .letp .eqI [vI 18, nI 2] <|
 .ite (.v 24) (
 .ret [nI 6]) <|
 .letp .eqI [vI 5, nI 3] <|
 .ite (.v 25) (
 .letp .eqI [vI 18, nI 3] <|
 .ite (.v 26) (
 .ret [nI 7]) <|
 .ret [nI 0]) <|
 .ret [nI 0]) <|
 .letp .eqI [vI 5, nI 3] <|
 .ite (.v 24) (
 .letp .eqI [vI 18, nI 3] <|
 .ite (.v 25) (
 .ret [nI 7]) <|
 .ret [nI 0]) <|
 .ret [nI 0]) <|
.letp .eqI [vI 5, nI 2] <|
.ite (.v 22) (
 .letp .eqI [vI 18, nI 2] <|
 .ite (.v 23) (
 .ret [nI 6]) <|
 .letp .eqI [vI 5, nI 3] <|
 .ite (.v 24) (
 .letp .eqI [vI 18, nI 3] <|
 .ite (.v 25) (
 .ret [nI 7]) <|
 .ret [nI 0]) <|
 .ret [nI 0]) <|
.letp .eqI [vI 5, nI 3] <|
.ite (.v 23) (
 .letp .eqI [vI 18, nI 3] <|
 .ite (.v 24) (
 .ret [nI 7]) <|
 .ret [nI 0]) <|
.ret [nI 0]
def Φ_au : Phi := ph [φ_be]
def φ_au := mir Φ_au t_au
def J_au_0 (x5 x18 : Int) (x20 : Bool) : Option Out :=
 iteD x20 (
 some (.ret [C.int .i64 4])) <|
 let x21 := (x5 == 1)
 iteD x21 (
 let x22 := (x18 == 3)
 iteD x22 (
 some (.ret [C.int .i64 5])) <|
 let x23 := (x5 == 2)
 iteD x23 (
 let x24 := (x18 == 2)
 iteD x24 (
 some (.ret [C.int .i64 6])) <|
 let x25 := (x5 == 3)
 iteD x25 (
 let x26 := (x18 == 3)
 iteD x26 (
 some (.ret [C.int .i64 7])) <|
 some (.ret [C.int .i64 0])) <|
 some (.ret [C.int .i64 0])) <|
 let x24 := (x5 == 3)
 iteD x24 (
 let x25 := (x18 == 3)
 iteD x25 (
 some (.ret [C.int .i64 7])) <|
 some (.ret [C.int .i64 0])) <|
 some (.ret [C.int .i64 0])) <|
 let x22 := (x5 == 2)
 iteD x22 (
 let x23 := (x18 == 2)
 iteD x23 (
 some (.ret [C.int .i64 6])) <|
 let x24 := (x5 == 3)
 iteD x24 (
 let x25 := (x18 == 3)
 iteD x25 (
 some (.ret [C.int .i64 7])) <|
 some (.ret [C.int .i64 0])) <|
 some (.ret [C.int .i64 0])) <|
 let x23 := (x5 == 3)
 iteD x23 (
 let x24 := (x18 == 3)
 iteD x24 (
 some (.ret [C.int .i64 7])) <|
 some (.ret [C.int .i64 0])) <|
 some (.ret [C.int .i64 0])
def J_au_1 (x5 x18 : Int) (x19 : Bool) : Option Out :=
 iteD x19 (
 some (.ret [C.int .i64 5])) <|
 joinD (
 let x20 := (x5 == 1)
 iteD x20 (
 let x21 := (x18 == 1)
 iteD x21 (
 some (.jump [C.bool true])) <|
 let x22 := (x18 == 2)
 some (.jump [C.bool x22])) <|
 some (.jump [C.bool false])) fun ps => J_au_0 x5 x18 ((getC ps 0).toBool)
def F_au (x0 : Int) (x1 : Bool) (x2 : Int) (x3 : LL) (x4 x5 : Int) (x6 x7 x8 : Int) : Option Out :=
 let x9 := IntKind.wrap .i64 (x7 - 1)
 let x10 := IntKind.wrap .i64 (x7 - 1)
 callD (φ_be [C.int .i64 x0, C.bool x1, C.int .i64 x2, C.list x3, C.int .i64 x4, C.bool false]) [(.int .i64), .list] fun r11 =>
 let x11 := (getC r11 0).toInt
 let x12 := (getC r11 1).toList
 rowD (.list x12) (.int .i64 x9) [(.int .i64), (.int .i64)] fun r13 =>
 let x13 := (getC r13 0).toInt
 let x14 := (getC r13 1).toInt
 callD (φ_be [C.int .i64 x0, C.bool x1, C.int .i64 x2, C.list x3, C.int .i64 x4, C.bool true]) [(.int .i64), .list] fun r15 =>
 let x15 := (getC r15 0).toInt
 let x16 := (getC r15 1).toList
 rowD (.list x16) (.int .i64 x10) [(.int .i64), (.int .i64)] fun r17 =>
 let x17 := (getC r17 0).toInt
 let x18 := (getC r17 1).toInt
 joinD (
 let x19 := (x5 == 1)
 iteD x19 (
 let x20 := (x14 == 0)
 some (.jump [C.bool x20])) <|
 some (.jump [C.bool false])) fun ps => J_au_1 x5 x18 ((getC ps 0).toBool)
def t_cm : Tree :=
.call 0 [vI 0, vB 1, vI 2, vL 3, vI 4] [.bool] <|
.letp .not [vB 9] <|
.ite (.v 10) (
 .ret [nI 0, ⟨.bool, (.b false)⟩, nI 0, ⟨.list, .e⟩, nI 0, nI 0, nI 0, nI 0, nI 0, ⟨.bool, (.b false)⟩]) <|
.call 1 [vI 0, vB 1, vI 2, vL 3, vI 4] [kI, .bool, kI, .list, kI] <|
.letp .not [vB 12] <|
.ite (.v 16) (
 .ret [vI 11, vB 12, vI 13, vL 14, vI 15, nI 0, nI 0, nI 0, nI 0, ⟨.bool, (.b false)⟩]) <|
.call 2 [vI 5, vI 6, vI 7, vI 8] [.bool] <|
.letp .not [vB 17] <|
.ite (.v 18) (
 .ret [vI 11, vB 12, vI 13, vL 14, vI 15, nI 0, nI 0, nI 0, nI 0, ⟨.bool, (.b false)⟩]) <|
.call 3 [vI 5, vI 6, vI 7, vI 8] [.bool] <|
.ite (.v 19) (
 .ret [vI 11, vB 12, vI 13, vL 14, vI 15, nI 0, nI 0, nI 0, nI 0, ⟨.bool, (.b false)⟩]) <|
.letp .neI [vI 6, vI 11] <|
.ite (.v 20) (
 .ret [vI 11, vB 12, vI 13, vL 14, vI 15, nI 0, nI 0, nI 0, nI 0, ⟨.bool, (.b false)⟩]) <|
.join [.list] (
 .letp .eqI [vI 5, nI 1] <|
 .ite (.v 21) (
 .letp (.mkl 1) [vI 8] <|
 .jump [vL 22]) <|
 .jump [⟨.list, .e⟩]) <|
.call 4 [vI 11, vB 12, vI 13, vL 14, vI 15, ⟨.bool, (.b false)⟩] [kI, .list] <|
.call 5 [vI 22, vL 23, vI 5, vI 7, vL 21] [.bool] <|
.ite (.v 24) (
 .call 6 [vL 14, vI 15, vI 5, vI 7, vL 21] [.list, kI, .bool] <|
 .ret [vI 11, vB 12, vI 13, vL 25, vI 26, nI 0, nI 0, nI 0, nI 0, ⟨.bool, (.b false)⟩]) <|
.call 7 [vI 11, vB 12, vI 13, vL 14, vI 15, vI 5, vI 6, vI 7, vI 8] [kI] <|
.letp .eqI [vI 25, nI 0] <|
.ite (.v 26) (
 .ret [vI 11, vB 12, vI 13, vL 14, vI 15, nI 0, nI 0, nI 0, nI 0, ⟨.bool, (.b false)⟩]) <|
.ret [vI 11, vB 12, vI 13, vL 14, vI 15, vI 25, vI 11, vI 7, nI 0, ⟨.bool, (.b true)⟩]
def Φ_cm : Phi := ph [φ_eq, φ_av, φ_fc, φ_bb, φ_be, φ_cx, φ_eu, φ_au]
def φ_cm := mir Φ_cm t_cm
def J_cm_0 (x5 x6 : Int) (x7 x8 x11 : Int) (x12 : Bool) (x13 : Int) (x14 : LL) (x15 : Int) (x21 : LL) : Option Out :=
 callD (φ_be [C.int .i64 x11, C.bool x12, C.int .i64 x13, C.list x14, C.int .i64 x15, C.bool false]) [(.int .i64), .list] fun r22 =>
 let x22 := (getC r22 0).toInt
 let x23 := (getC r22 1).toList
 callD (φ_cx [C.int .i64 x22, C.list x23, C.int .i64 x5, C.int .i64 x7, C.list x21]) [.bool] fun r24 =>
 let x24 := (getC r24 0).toBool
 iteD x24 (
 callD (φ_eu [C.list x14, C.int .i64 x15, C.int .i64 x5, C.int .i64 x7, C.list x21]) [.list, (.int .i64), .bool] fun r25 =>
 let x25 := (getC r25 0).toList
 let x26 := (getC r25 1).toInt
 let x27 := (getC r25 2).toBool
 some (.ret [C.int .i64 x11, C.bool x12, C.int .i64 x13, C.list x25, C.int .i64 x26, C.int .i64 0, C.int .i64 0, C.int .i64 0, C.int .i64 0, C.bool false])) <|
 callD (φ_au [C.int .i64 x11, C.bool x12, C.int .i64 x13, C.list x14, C.int .i64 x15, C.int .i64 x5, C.int .i64 x6, C.int .i64 x7, C.int .i64 x8]) [(.int .i64)] fun r25 =>
 let x25 := (getC r25 0).toInt
 let x26 := (x25 == 0)
 iteD x26 (
 some (.ret [C.int .i64 x11, C.bool x12, C.int .i64 x13, C.list x14, C.int .i64 x15, C.int .i64 0, C.int .i64 0, C.int .i64 0, C.int .i64 0, C.bool false])) <|
 some (.ret [C.int .i64 x11, C.bool x12, C.int .i64 x13, C.list x14, C.int .i64 x15, C.int .i64 x25, C.int .i64 x11, C.int .i64 x7, C.int .i64 0, C.bool true])
def F_cm (x0 : Int) (x1 : Bool) (x2 : Int) (x3 : LL) (x4 x5 : Int) (x6 x7 x8 : Int) : Option Out :=
 callD (φ_eq [C.int .i64 x0, C.bool x1, C.int .i64 x2, C.list x3, C.int .i64 x4]) [.bool] fun r9 =>
 let x9 := (getC r9 0).toBool
 let x10 := (!x9)
 iteD x10 (
 some (.ret [C.int .i64 0, C.bool false, C.int .i64 0, C.list ([] : LL), C.int .i64 0, C.int .i64 0, C.int .i64 0, C.int .i64 0, C.int .i64 0, C.bool false])) <|
 callD (φ_av [C.int .i64 x0, C.bool x1, C.int .i64 x2, C.list x3, C.int .i64 x4]) [(.int .i64), .bool, (.int .i64), .list, (.int .i64)] fun r11 =>
 let x11 := (getC r11 0).toInt
 let x12 := (getC r11 1).toBool
 let x13 := (getC r11 2).toInt
 let x14 := (getC r11 3).toList
 let x15 := (getC r11 4).toInt
 let x16 := (!x12)
 iteD x16 (
 some (.ret [C.int .i64 x11, C.bool x12, C.int .i64 x13, C.list x14, C.int .i64 x15, C.int .i64 0, C.int .i64 0, C.int .i64 0, C.int .i64 0, C.bool false])) <|
 callD (φ_fc [C.int .i64 x5, C.int .i64 x6, C.int .i64 x7, C.int .i64 x8]) [.bool] fun r17 =>
 let x17 := (getC r17 0).toBool
 let x18 := (!x17)
 iteD x18 (
 some (.ret [C.int .i64 x11, C.bool x12, C.int .i64 x13, C.list x14, C.int .i64 x15, C.int .i64 0, C.int .i64 0, C.int .i64 0, C.int .i64 0, C.bool false])) <|
 callD (φ_bb [C.int .i64 x5, C.int .i64 x6, C.int .i64 x7, C.int .i64 x8]) [.bool] fun r19 =>
 let x19 := (getC r19 0).toBool
 iteD x19 (
 some (.ret [C.int .i64 x11, C.bool x12, C.int .i64 x13, C.list x14, C.int .i64 x15, C.int .i64 0, C.int .i64 0, C.int .i64 0, C.int .i64 0, C.bool false])) <|
 let x20 := (x6 != x11)
 iteD x20 (
 some (.ret [C.int .i64 x11, C.bool x12, C.int .i64 x13, C.list x14, C.int .i64 x15, C.int .i64 0, C.int .i64 0, C.int .i64 0, C.int .i64 0, C.bool false])) <|
 joinD (
 let x21 := (x5 == 1)
 iteD x21 (
 let x22 := [[C.int .i64 x8]]
 some (.jump [C.list x22])) <|
 some (.jump [C.list ([] : LL)])) fun ps => J_cm_0 x5 x6 x7 x8 x11 x12 x13 x14 x15 ((getC ps 0).toList)
def t_ba : Tree :=
.call 0 [vI 6, vI 7, vI 8, vI 9] [.bool] <|
.ite (.v 10) (
 .call 1 [vB 0, vL 1, vI 2, vL 3, vI 6, vI 7, vI 8, vI 9] [.bool, .list, kI, .list] <|
 .ret [nI 0, nI 0, nI 0, nI 0, ⟨.bool, (.b false)⟩, vB 11, vL 12, vI 13, vL 14, vL 4, vL 5]) <|
.letp (.sub .i64) [vI 7, nI 1] <|
.chk .idx [vI 11, vL 4] <|
.row (.v 4) (.v 11) [kI, .bool, kI, .list, kI] <|
.call 2 [vI 12, vB 13, vI 14, vL 15, vI 16, vI 6, vI 7, vI 8, vI 9] [kI, .bool, kI, .list, kI, kI, kI, kI, kI, .bool] <|
.letp (.sub .i64) [vI 7, nI 1] <|
.chk .idx [vI 27, vL 4] <|
.letp (.setr 0) [vL 4, vI 27, vI 17, vB 18, vI 19, vL 20, vI 21] <|
.ret [vI 22, vI 23, vI 24, vI 25, vB 26, vB 0, vL 1, vI 2, vL 3, vL 28, vL 5]
def Φ_ba : Phi := ph [φ_bb, φ_bz, φ_cm]
def φ_ba := mir Φ_ba t_ba
def F_ba (x0 : Bool) (x1 : LL) (x2 : Int) (x3 x4 x5 : LL) (x6 x7 : Int) (x8 x9 : Int) : Option Out :=
 callD (φ_bb [C.int .i64 x6, C.int .i64 x7, C.int .i64 x8, C.int .i64 x9]) [.bool] fun r10 =>
 let x10 := (getC r10 0).toBool
 iteD x10 (
 callD (φ_bz [C.bool x0, C.list x1, C.int .i64 x2, C.list x3, C.int .i64 x6, C.int .i64 x7, C.int .i64 x8, C.int .i64 x9]) [.bool, .list, (.int .i64), .list] fun r11 =>
 let x11 := (getC r11 0).toBool
 let x12 := (getC r11 1).toList
 let x13 := (getC r11 2).toInt
 let x14 := (getC r11 3).toList
 some (.ret [C.int .i64 0, C.int .i64 0, C.int .i64 0, C.int .i64 0, C.bool false, C.bool x11, C.list x12, C.int .i64 x13, C.list x14, C.list x4, C.list x5])) <|
 let x11 := IntKind.wrap .i64 (x7 - 1)
 whenD ((decide ((0 : Int) <= x11) && decide (x11 < (x4.length : Nat)))) <|
 rowD (.list x4) (.int .i64 x11) [(.int .i64), .bool, (.int .i64), .list, (.int .i64)] fun r12 =>
 let x12 := (getC r12 0).toInt
 let x13 := (getC r12 1).toBool
 let x14 := (getC r12 2).toInt
 let x15 := (getC r12 3).toList
 let x16 := (getC r12 4).toInt
 callD (φ_cm [C.int .i64 x12, C.bool x13, C.int .i64 x14, C.list x15, C.int .i64 x16, C.int .i64 x6, C.int .i64 x7, C.int .i64 x8, C.int .i64 x9]) [(.int .i64), .bool, (.int .i64), .list, (.int .i64), (.int .i64), (.int .i64), (.int .i64), (.int .i64), .bool] fun r17 =>
 let x17 := (getC r17 0).toInt
 let x18 := (getC r17 1).toBool
 let x19 := (getC r17 2).toInt
 let x20 := (getC r17 3).toList
 let x21 := (getC r17 4).toInt
 let x22 := (getC r17 5).toInt
 let x23 := (getC r17 6).toInt
 let x24 := (getC r17 7).toInt
 let x25 := (getC r17 8).toInt
 let x26 := (getC r17 9).toBool
 let x27 := IntKind.wrap .i64 (x7 - 1)
 whenD ((decide ((0 : Int) <= x27) && decide (x27 < (x4.length : Nat)))) <|
 let x28 := (setRow 0 x4 (Int.toNat x27) [C.int .i64 x17, C.bool x18, C.int .i64 x19, C.list x20, C.int .i64 x21])
 some (.ret [C.int .i64 x22, C.int .i64 x23, C.int .i64 x24, C.int .i64 x25, C.bool x26, C.bool x0, C.list x1, C.int .i64 x2, C.list x3, C.list x28, C.list x5])
def t_cj : Tree :=
.letp .len [vL 5] <|
.letp (.sub .i64) [vI 10, nI 1] <|
.call 0 [vI 7, nI 0, vI 11] [.bool] <|
.letp .not [vB 12] <|
.ite (.v 13) (
 .ret [vB 0, vL 1, vI 2, vL 3, vL 4, vL 5]) <|
.join [kI, kI, kI, kI] (
 .chk .idx [vI 7, vL 5] <|
 .row (.v 5) (.v 7) [kI, kI, kI, kI] <|
 .jump [vI 14, vI 15, vI 16, vI 17]) <|
.letp .eqI [vI 6, nI 6] <|
.ite (.v 18) (
 .call 1 [vB 0, vL 1, vI 2, vL 3, vL 4, vL 5, vI 14, vI 15, vI 16, vI 17] [.bool, .list, kI, .list, .list, .list] <|
 .ret [vB 19, vL 20, vI 21, vL 22, vL 23, vL 24]) <|
.letp (.add .i64) [vI 7, nI 1] <|
.call 2 [vL 5, vI 7, vI 19] [.list] <|
.letp .neI [vI 6, nI 4] <|
.ite (.v 21) (
 .ret [vB 0, vL 1, vI 2, vL 3, vL 4, vL 20]) <|
.call 3 [vB 0, vL 1, vI 2, vL 3, vL 4, vL 20, vI 14, vI 15, vI 16, vI 17] [kI, kI, kI, kI, .bool, .bool, .list, kI, .list, .list, .list] <|
.ite (.v 26) (
 .call 1 [vB 27, vL 28, vI 29, vL 30, vL 31, vL 32, vI 22, vI 23, vI 24, vI 25] [.bool, .list, kI, .list, .list, .list] <|
 .ret [vB 33, vL 34, vI 35, vL 36, vL 37, vL 38]) <|
.ret [vB 27, vL 28, vI 29, vL 30, vL 31, vL 32]
def Φ_cj : Phi := ph [φ_fy, φ_bh, φ_aq, φ_ba]
def φ_cj := mir Φ_cj t_cj
def J_cj_0 (x0 : Bool) (x1 : LL) (x2 : Int) (x3 x4 x5 : LL) (x6 x7 : Int) (x14 x15 : Int) (x16 x17 : Int) : Option Out :=
 let x18 := (x6 == 6)
 iteD x18 (
 callD (φ_bh [C.bool x0, C.list x1, C.int .i64 x2, C.list x3, C.list x4, C.list x5, C.int .i64 x14, C.int .i64 x15, C.int .i64 x16, C.int .i64 x17]) [.bool, .list, (.int .i64), .list, .list, .list] fun r19 =>
 let x19 := (getC r19 0).toBool
 let x20 := (getC r19 1).toList
 let x21 := (getC r19 2).toInt
 let x22 := (getC r19 3).toList
 let x23 := (getC r19 4).toList
 let x24 := (getC r19 5).toList
 some (.ret [C.bool x19, C.list x20, C.int .i64 x21, C.list x22, C.list x23, C.list x24])) <|
 let x19 := IntKind.wrap .i64 (x7 + 1)
 callD (φ_aq [C.list x5, C.int .i64 x7, C.int .i64 x19]) [.list] fun r20 =>
 let x20 := (getC r20 0).toList
 let x21 := (x6 != 4)
 iteD x21 (
 some (.ret [C.bool x0, C.list x1, C.int .i64 x2, C.list x3, C.list x4, C.list x20])) <|
 callD (φ_ba [C.bool x0, C.list x1, C.int .i64 x2, C.list x3, C.list x4, C.list x20, C.int .i64 x14, C.int .i64 x15, C.int .i64 x16, C.int .i64 x17]) [(.int .i64), (.int .i64), (.int .i64), (.int .i64), .bool, .bool, .list, (.int .i64), .list, .list, .list] fun r22 =>
 let x22 := (getC r22 0).toInt
 let x23 := (getC r22 1).toInt
 let x24 := (getC r22 2).toInt
 let x25 := (getC r22 3).toInt
 let x26 := (getC r22 4).toBool
 let x27 := (getC r22 5).toBool
 let x28 := (getC r22 6).toList
 let x29 := (getC r22 7).toInt
 let x30 := (getC r22 8).toList
 let x31 := (getC r22 9).toList
 let x32 := (getC r22 10).toList
 iteD x26 (
 callD (φ_bh [C.bool x27, C.list x28, C.int .i64 x29, C.list x30, C.list x31, C.list x32, C.int .i64 x22, C.int .i64 x23, C.int .i64 x24, C.int .i64 x25]) [.bool, .list, (.int .i64), .list, .list, .list] fun r33 =>
 let x33 := (getC r33 0).toBool
 let x34 := (getC r33 1).toList
 let x35 := (getC r33 2).toInt
 let x36 := (getC r33 3).toList
 let x37 := (getC r33 4).toList
 let x38 := (getC r33 5).toList
 some (.ret [C.bool x33, C.list x34, C.int .i64 x35, C.list x36, C.list x37, C.list x38])) <|
 some (.ret [C.bool x27, C.list x28, C.int .i64 x29, C.list x30, C.list x31, C.list x32])
def F_cj (x0 : Bool) (x1 : LL) (x2 : Int) (x3 x4 x5 : LL) (x6 x7 x8 : Int) (x9 : LL) : Option Out :=
 let x10 : Int := x5.length
 let x11 := IntKind.wrap .i64 (x10 - 1)
 callD (φ_fy [C.int .i64 x7, C.int .i64 0, C.int .i64 x11]) [.bool] fun r12 =>
 let x12 := (getC r12 0).toBool
 let x13 := (!x12)
 iteD x13 (
 some (.ret [C.bool x0, C.list x1, C.int .i64 x2, C.list x3, C.list x4, C.list x5])) <|
 joinD (
 whenD ((decide ((0 : Int) <= x7) && decide (x7 < (x5.length : Nat)))) <|
 rowD (.list x5) (.int .i64 x7) [(.int .i64), (.int .i64), (.int .i64), (.int .i64)] fun r14 =>
 let x14 := (getC r14 0).toInt
 let x15 := (getC r14 1).toInt
 let x16 := (getC r14 2).toInt
 let x17 := (getC r14 3).toInt
 some (.jump [C.int .i64 x14, C.int .i64 x15, C.int .i64 x16, C.int .i64 x17])) fun ps => J_cj_0 x0 x1 x2 x3 x4 x5 x6 x7 ((getC ps 0).toInt) ((getC ps 1).toInt) ((getC ps 2).toInt) ((getC ps 3).toInt)
def t_dh : Tree :=
.call 0 [vL 0, vI 1] [.bool] <|
.letp .not [vB 2] <|
.ite (.v 3) (
 .ret [⟨.list, .e⟩, nI 0]) <|
.letp .len [vL 0] <|
.letp .len [vL 0] <|
.call 1 [vL 0, vI 1, vI 4, vI 5] [.list, kI] <|
.ret [vL 6, vI 7]
def Φ_dh : Phi := ph [φ_fu, φ_bu]
def φ_dh := mir Φ_dh t_dh
def F_dh (x0 : LL) (x1 : Int) : Option Out :=
 callD (φ_fu [C.list x0, C.int .i64 x1]) [.bool] fun r2 =>
 let x2 := (getC r2 0).toBool
 let x3 := (!x2)
 iteD x3 (
 some (.ret [C.list ([] : LL), C.int .i64 0])) <|
 let x4 : Int := x0.length
 let x5 : Int := x0.length
 callD (φ_bu [C.list x0, C.int .i64 x1, C.int .i64 x4, C.int .i64 x5]) [.list, (.int .i64)] fun r6 =>
 let x6 := (getC r6 0).toList
 let x7 := (getC r6 1).toInt
 some (.ret [C.list x6, C.int .i64 x7])
def t_cb : Tree :=
.call 0 [vB 0, vL 1, vI 2, vL 3] [.bool] <|
.letp .not [vB 4] <|
.ite (.v 5) (
 .ret [⟨.bool, (.b false)⟩, ⟨.list, .e⟩, nI 0, ⟨.list, .e⟩]) <|
.call 1 [vB 0, vL 1, vI 2, vL 3] [.bool, .list, kI, .list] <|
.ite (.v 6) (
 .call 2 [vL 7, vI 8] [.list, kI] <|
 .ret [vB 6, vL 10, vI 11, vL 9]) <|
.ret [vB 6, vL 7, vI 8, vL 9]
def Φ_cb : Phi := ph [φ_ez, φ_az, φ_dh]
def φ_cb := mir Φ_cb t_cb
def F_cb (x0 : Bool) (x1 : LL) (x2 : Int) (x3 : LL) : Option Out :=
 callD (φ_ez [C.bool x0, C.list x1, C.int .i64 x2, C.list x3]) [.bool] fun r4 =>
 let x4 := (getC r4 0).toBool
 let x5 := (!x4)
 iteD x5 (
 some (.ret [C.bool false, C.list ([] : LL), C.int .i64 0, C.list ([] : LL)])) <|
 callD (φ_az [C.bool x0, C.list x1, C.int .i64 x2, C.list x3]) [.bool, .list, (.int .i64), .list] fun r6 =>
 let x6 := (getC r6 0).toBool
 let x7 := (getC r6 1).toList
 let x8 := (getC r6 2).toInt
 let x9 := (getC r6 3).toList
 iteD x6 (
 callD (φ_dh [C.list x7, C.int .i64 x8]) [.list, (.int .i64)] fun r10 =>
 let x10 := (getC r10 0).toList
 let x11 := (getC r10 1).toInt
 some (.ret [C.bool x6, C.list x10, C.int .i64 x11, C.list x9])) <|
 some (.ret [C.bool x6, C.list x7, C.int .i64 x8, C.list x9])
def t_bp : Tree :=
.call 0 [vI 0, vB 1, vI 2, vL 3, vI 4] [.bool] <|
.letp .not [vB 5] <|
.ite (.v 6) (
 .ret [nI 0, ⟨.bool, (.b false)⟩, nI 0, ⟨.list, .e⟩, nI 0]) <|
.call 1 [vI 0, vB 1, vI 2, vL 3, vI 4] [kI, .bool, kI, .list, kI] <|
.ite (.v 8) (
 .call 2 [vL 10, vI 11] [.list, kI] <|
 .ret [vI 7, vB 8, vI 9, vL 12, vI 13]) <|
.ret [vI 7, vB 8, vI 9, vL 10, vI 11]
def Φ_bp : Phi := ph [φ_eq, φ_av, φ_dh]
def φ_bp := mir Φ_bp t_bp
def F_bp (x0 : Int) (x1 : Bool) (x2 : Int) (x3 : LL) (x4 : Int) : Option Out :=
 callD (φ_eq [C.int .i64 x0, C.bool x1, C.int .i64 x2, C.list x3, C.int .i64 x4]) [.bool] fun r5 =>
 let x5 := (getC r5 0).toBool
 let x6 := (!x5)
 iteD x6 (
 some (.ret [C.int .i64 0, C.bool false, C.int .i64 0, C.list ([] : LL), C.int .i64 0])) <|
 callD (φ_av [C.int .i64 x0, C.bool x1, C.int .i64 x2, C.list x3, C.int .i64 x4]) [(.int .i64), .bool, (.int .i64), .list, (.int .i64)] fun r7 =>
 let x7 := (getC r7 0).toInt
 let x8 := (getC r7 1).toBool
 let x9 := (getC r7 2).toInt
 let x10 := (getC r7 3).toList
 let x11 := (getC r7 4).toInt
 iteD x8 (
 callD (φ_dh [C.list x10, C.int .i64 x11]) [.list, (.int .i64)] fun r12 =>
 let x12 := (getC r12 0).toList
 let x13 := (getC r12 1).toInt
 some (.ret [C.int .i64 x7, C.bool x8, C.int .i64 x9, C.list x12, C.int .i64 x13])) <|
 some (.ret [C.int .i64 x7, C.bool x8, C.int .i64 x9, C.list x10, C.int .i64 x11])
def t_ab : Tree :=
.letp .eqI [vI 6, nI 0] <|
.ite (.v 7) (
 .call 1 [vB 0, vL 1, vI 2, vL 3] [.bool, .list, kI, .list] <|
 .ret [vB 8, vL 9, vI 10, vL 11, vL 4, vL 5]) <|
.call 0 [vI 6] [.bool] <|
.ite (.v 8) (
 .letp (.sub .i64) [vI 6, nI 1] <|
 .letp (.sub .i64) [vI 6, nI 1] <|
 .chk .idx [vI 10, vL 4] <|
 .row (.v 4) (.v 10) [kI, .bool, kI, .list, kI] <|
 .call 2 [vI 11, vB 12, vI 13, vL 14, vI 15] [kI, .bool, kI, .list, kI] <|
 .chk .idx [vI 9, vL 4] <|
 .letp (.setr 0) [vL 4, vI 9, vI 16, vB 17, vI 18, vL 19, vI 20] <|
 .ret [vB 0, vL 1, vI 2, vL 3, vL 21, vL 5]) <|
.ret [vB 0, vL 1, vI 2, vL 3, vL 4, vL 5]
def Φ_ab : Phi := ph [φ_dr, φ_cb, φ_bp]
def φ_ab := mir Φ_ab t_ab
def F_ab (x0 : Bool) (x1 : LL) (x2 : Int) (x3 x4 x5 : LL) (x6 : Int) : Option Out :=
 let x7 := (x6 == 0)
 iteD x7 (
 callD (φ_cb [C.bool x0, C.list x1, C.int .i64 x2, C.list x3]) [.bool, .list, (.int .i64), .list] fun r8 =>
 let x8 := (getC r8 0).toBool
 let x9 := (getC r8 1).toList
 let x10 := (getC r8 2).toInt
 let x11 := (getC r8 3).toList
 some (.ret [C.bool x8, C.list x9, C.int .i64 x10, C.list x11, C.list x4, C.list x5])) <|
 callD (φ_dr [C.int .i64 x6]) [.bool] fun r8 =>
 let x8 := (getC r8 0).toBool
 iteD x8 (
 let x9 := IntKind.wrap .i64 (x6 - 1)
 let x10 := IntKind.wrap .i64 (x6 - 1)
 whenD ((decide ((0 : Int) <= x10) && decide (x10 < (x4.length : Nat)))) <|
 rowD (.list x4) (.int .i64 x10) [(.int .i64), .bool, (.int .i64), .list, (.int .i64)] fun r11 =>
 let x11 := (getC r11 0).toInt
 let x12 := (getC r11 1).toBool
 let x13 := (getC r11 2).toInt
 let x14 := (getC r11 3).toList
 let x15 := (getC r11 4).toInt
 callD (φ_bp [C.int .i64 x11, C.bool x12, C.int .i64 x13, C.list x14, C.int .i64 x15]) [(.int .i64), .bool, (.int .i64), .list, (.int .i64)] fun r16 =>
 let x16 := (getC r16 0).toInt
 let x17 := (getC r16 1).toBool
 let x18 := (getC r16 2).toInt
 let x19 := (getC r16 3).toList
 let x20 := (getC r16 4).toInt
 whenD ((decide ((0 : Int) <= x9) && decide (x9 < (x4.length : Nat)))) <|
 let x21 := (setRow 0 x4 (Int.toNat x9) [C.int .i64 x16, C.bool x17, C.int .i64 x18, C.list x19, C.int .i64 x20])
 some (.ret [C.bool x0, C.list x1, C.int .i64 x2, C.list x3, C.list x21, C.list x5])) <|
 some (.ret [C.bool x0, C.list x1, C.int .i64 x2, C.list x3, C.list x4, C.list x5])
def t_dt : Tree :=
.call 0 [vL 0, vI 1] [.bool] <|
.letp .not [vB 3] <|
.ite (.v 4) (
 .ret [⟨.list, .e⟩, nI 0]) <|
.letp .len [vL 0] <|
.letp (.sub .i64) [vI 5, vI 1] <|
.letp (.min .i64) [vI 2, vI 6] <|
.letp (.max .i64) [vI 7, nI 0] <|
.letp (.add .i64) [vI 1, vI 8] <|
.call 1 [vL 0, vI 1, vI 9, vI 9] [.list, kI] <|
.ret [vL 10, vI 11]
def Φ_dt : Phi := ph [φ_fu, φ_bu]
def φ_dt := mir Φ_dt t_dt
def F_dt (x0 : LL) (x1 x2 : Int) : Option Out :=
 callD (φ_fu [C.list x0, C.int .i64 x1]) [.bool] fun r3 =>
 let x3 := (getC r3 0).toBool
 let x4 := (!x3)
 iteD x4 (
 some (.ret [C.list ([] : LL), C.int .i64 0])) <|
 let x5 : Int := x0.length
 let x6 := IntKind.wrap .i64 (x5 - x1)
 let x7 : Int := (if x6 < x2 then x6 else x2)
 let x8 : Int := (if (0 : Int) > x7 then 0 else x7)
 let x9 := IntKind.wrap .i64 (x1 + x8)
 callD (φ_bu [C.list x0, C.int .i64 x1, C.int .i64 x9, C.int .i64 x9]) [.list, (.int .i64)] fun r10 =>
 let x10 := (getC r10 0).toList
 let x11 := (getC r10 1).toInt
 some (.ret [C.list x10, C.int .i64 x11])
def t_cw : Tree :=
.call 0 [vB 0, vL 1, vI 2, vL 3] [.bool] <|
.letp .not [vB 5] <|
.ite (.v 6) (
 .ret [⟨.bool, (.b false)⟩, ⟨.list, .e⟩, nI 0, ⟨.list, .e⟩]) <|
.call 1 [vL 1, vI 2, vI 4] [.list, kI] <|
.ret [⟨.bool, (.b false)⟩, vL 7, vI 8, ⟨.list, .e⟩]
def Φ_cw : Phi := ph [φ_ez, φ_dt]
def φ_cw := mir Φ_cw t_cw
def F_cw (x0 : Bool) (x1 : LL) (x2 : Int) (x3 : LL) (x4 : Int) : Option Out :=
 callD (φ_ez [C.bool x0, C.list x1, C.int .i64 x2, C.list x3]) [.bool] fun r5 =>
 let x5 := (getC r5 0).toBool
 let x6 := (!x5)
 iteD x6 (
 some (.ret [C.bool false, C.list ([] : LL), C.int .i64 0, C.list ([] : LL)])) <|
 callD (φ_dt [C.list x1, C.int .i64 x2, C.int .i64 x4]) [.list, (.int .i64)] fun r7 =>
 let x7 := (getC r7 0).toList
 let x8 := (getC r7 1).toInt
 some (.ret [C.bool false, C.list x7, C.int .i64 x8, C.list ([] : LL)])
def t_br : Tree :=
.call 0 [vB 0, vL 1, vI 2, vL 3, vI 6] [.bool, .list, kI, .list] <|
.ret [vB 8, vL 9, vI 10, vL 11]
def Φ_br : Phi := ph [φ_cw]
def φ_br := mir Φ_br t_br
def F_br (x0 : Bool) (x1 : LL) (x2 : Int) (x3 : LL) (x4 x5 x6 : Int) (x7 : LL) : Option Out :=
 callD (φ_cw [C.bool x0, C.list x1, C.int .i64 x2, C.list x3, C.int .i64 x6]) [.bool, .list, (.int .i64), .list] fun r8 =>
 let x8 := (getC r8 0).toBool
 let x9 := (getC r8 1).toList
 let x10 := (getC r8 2).toInt
 let x11 := (getC r8 3).toList
 some (.ret [C.bool x8, C.list x9, C.int .i64 x10, C.list x11])
def t_by : Tree :=
.call 0 [vI 0, vB 1, vI 2, vL 3, vI 4] [.bool] <|
.letp .not [vB 6] <|
.ite (.v 7) (
 .ret [nI 0, ⟨.bool, (.b false)⟩, nI 0, ⟨.list, .e⟩, nI 0]) <|
.call 1 [vL 3, vI 4, vI 5] [.list, kI] <|
.ret [vI 0, ⟨.bool, (.b false)⟩, vI 2, vL 8, vI 9]
def Φ_by : Phi := ph [φ_eq, φ_dt]
def φ_by := mir Φ_by t_by
def F_by (x0 : Int) (x1 : Bool) (x2 : Int) (x3 : LL) (x4 x5 : Int) : Option Out :=
 callD (φ_eq [C.int .i64 x0, C.bool x1, C.int .i64 x2, C.list x3, C.int .i64 x4]) [.bool] fun r6 =>
 let x6 := (getC r6 0).toBool
 let x7 := (!x6)
 iteD x7 (
 some (.ret [C.int .i64 0, C.bool false, C.int .i64 0, C.list ([] : LL), C.int .i64 0])) <|
 callD (φ_dt [C.list x3, C.int .i64 x4, C.int .i64 x5]) [.list, (.int .i64)] fun r8 =>
 let x8 := (getC r8 0).toList
 let x9 := (getC r8 1).toInt
 some (.ret [C.int .i64 x0, C.bool false, C.int .i64 x2, C.list x8, C.int .i64 x9])
def t_bs : Tree :=
.call 0 [vI 0, vB 1, vI 2, vL 3, vI 4, vI 7] [kI, .bool, kI, .list, kI] <|
.ret [vI 9, vB 10, vI 11, vL 12, vI 13]
def Φ_bs : Phi := ph [φ_by]
def φ_bs := mir Φ_bs t_bs
def F_bs (x0 : Int) (x1 : Bool) (x2 : Int) (x3 : LL) (x4 x5 : Int) (x6 x7 : Int) (x8 : LL) : Option Out :=
 callD (φ_by [C.int .i64 x0, C.bool x1, C.int .i64 x2, C.list x3, C.int .i64 x4, C.int .i64 x7]) [(.int .i64), .bool, (.int .i64), .list, (.int .i64)] fun r9 =>
 let x9 := (getC r9 0).toInt
 let x10 := (getC r9 1).toBool
 let x11 := (getC r9 2).toInt
 let x12 := (getC r9 3).toList
 let x13 := (getC r9 4).toInt
 some (.ret [C.int .i64 x9, C.bool x10, C.int .i64 x11, C.list x12, C.int .i64 x13])
def t_aa : Tree :=
.letp .eqI [vI 6, nI 0] <|
.ite (.v 15) (
 .call 1 [vB 0, vL 1, vI 2, vL 3, vI 7, vI 8, vI 9, vL 10] [.bool, .list, kI, .list] <|
 .ret [vB 16, vL 17, vI 18, vL 19, vL 4, vL 5]) <|
.call 0 [vI 6] [.bool] <|
.ite (.v 16) (
 .letp (.sub .i64) [vI 6, nI 1] <|
 .letp (.sub .i64) [vI 6, nI 1] <|
 .chk .idx [vI 18, vL 4] <|
 .row (.v 4) (.v 18) [kI, .bool, kI, .list, kI] <|
 .call 2 [vI 19, vB 20, vI 21, vL 22, vI 23, vI 11, vI 12, vI 13, vL 14] [kI, .bool, kI, .list, kI] <|
 .chk .idx [vI 17, vL 4] <|
 .letp (.setr 0) [vL 4, vI 17, vI 24, vB 25, vI 26, vL 27, vI 28] <|
 .ret [vB 0, vL 1, vI 2, vL 3, vL 29, vL 5]) <|
.ret [vB 0, vL 1, vI 2, vL 3, vL 4, vL 5]
def Φ_aa : Phi := ph [φ_dr, φ_br, φ_bs]
def φ_aa := mir Φ_aa t_aa
def F_aa (x0 : Bool) (x1 : LL) (x2 : Int) (x3 x4 x5 : LL) (x6 x7 : Int) (x8 x9 : Int) (x10 : LL) (x11 x12 x13 : Int) (x14 : LL) : Option Out :=
 let x15 := (x6 == 0)
 iteD x15 (
 callD (φ_br [C.bool x0, C.list x1, C.int .i64 x2, C.list x3, C.int .i64 x7, C.int .i64 x8, C.int .i64 x9, C.list x10]) [.bool, .list, (.int .i64), .list] fun r16 =>
 let x16 := (getC r16 0).toBool
 let x17 := (getC r16 1).toList
 let x18 := (getC r16 2).toInt
 let x19 := (getC r16 3).toList
 some (.ret [C.bool x16, C.list x17, C.int .i64 x18, C.list x19, C.list x4, C.list x5])) <|
 callD (φ_dr [C.int .i64 x6]) [.bool] fun r16 =>
 let x16 := (getC r16 0).toBool
 iteD x16 (
 let x17 := IntKind.wrap .i64 (x6 - 1)
 let x18 := IntKind.wrap .i64 (x6 - 1)
 whenD ((decide ((0 : Int) <= x18) && decide (x18 < (x4.length : Nat)))) <|
 rowD (.list x4) (.int .i64 x18) [(.int .i64), .bool, (.int .i64), .list, (.int .i64)] fun r19 =>
 let x19 := (getC r19 0).toInt
 let x20 := (getC r19 1).toBool
 let x21 := (getC r19 2).toInt
 let x22 := (getC r19 3).toList
 let x23 := (getC r19 4).toInt
 callD (φ_bs [C.int .i64 x19, C.bool x20, C.int .i64 x21, C.list x22, C.int .i64 x23, C.int .i64 x11, C.int .i64 x12, C.int .i64 x13, C.list x14]) [(.int .i64), .bool, (.int .i64), .list, (.int .i64)] fun r24 =>
 let x24 := (getC r24 0).toInt
 let x25 := (getC r24 1).toBool
 let x26 := (getC r24 2).toInt
 let x27 := (getC r24 3).toList
 let x28 := (getC r24 4).toInt
 whenD ((decide ((0 : Int) <= x17) && decide (x17 < (x4.length : Nat)))) <|
 let x29 := (setRow 0 x4 (Int.toNat x17) [C.int .i64 x24, C.bool x25, C.int .i64 x26, C.list x27, C.int .i64 x28])
 some (.ret [C.bool x0, C.list x1, C.int .i64 x2, C.list x3, C.list x29, C.list x5])) <|
 some (.ret [C.bool x0, C.list x1, C.int .i64 x2, C.list x3, C.list x4, C.list x5])
def t_ct : Tree :=
.call 0 [vB 0, vL 1, vI 2, vL 3] [.bool] <|
.letp .not [vB 4] <|
.ite (.v 5) (
 .ret [⟨.bool, (.b false)⟩, ⟨.list, .e⟩, nI 0, ⟨.list, .e⟩]) <|
.call 1 [vB 0, vL 1, vI 2, vL 3] [.bool, .list, kI, .list] <|
.ret [⟨.bool, (.b true)⟩, vL 7, vI 8, vL 9]
def Φ_ct : Phi := ph [φ_ez, φ_az]
def φ_ct := mir Φ_ct t_ct
def F_ct (x0 : Bool) (x1 : LL) (x2 : Int) (x3 : LL) : Option Out :=
 callD (φ_ez [C.bool x0, C.list x1, C.int .i64 x2, C.list x3]) [.bool] fun r4 =>
 let x4 := (getC r4 0).toBool
 let x5 := (!x4)
 iteD x5 (
 some (.ret [C.bool false, C.list ([] : LL), C.int .i64 0, C.list ([] : LL)])) <|
 callD (φ_az [C.bool x0, C.list x1, C.int .i64 x2, C.list x3]) [.bool, .list, (.int .i64), .list] fun r6 =>
 let x6 := (getC r6 0).toBool
 let x7 := (getC r6 1).toList
 let x8 := (getC r6 2).toInt
 let x9 := (getC r6 3).toList
 some (.ret [C.bool true, C.list x7, C.int .i64 x8, C.list x9])
def t_cf : Tree :=
.call 0 [vI 0, vB 1, vI 2, vL 3, vI 4] [.bool] <|
.letp .not [vB 5] <|
.ite (.v 6) (
 .ret [nI 0, ⟨.bool, (.b false)⟩, nI 0, ⟨.list, .e⟩, nI 0]) <|
.call 1 [vI 0, vB 1, vI 2, vL 3, vI 4] [kI, .bool, kI, .list, kI] <|
.ret [vI 7, ⟨.bool, (.b true)⟩, vI 9, vL 10, vI 11]
def Φ_cf : Phi := ph [φ_eq, φ_av]
def φ_cf := mir Φ_cf t_cf
def F_cf (x0 : Int) (x1 : Bool) (x2 : Int) (x3 : LL) (x4 : Int) : Option Out :=
 callD (φ_eq [C.int .i64 x0, C.bool x1, C.int .i64 x2, C.list x3, C.int .i64 x4]) [.bool] fun r5 =>
 let x5 := (getC r5 0).toBool
 let x6 := (!x5)
 iteD x6 (
 some (.ret [C.int .i64 0, C.bool false, C.int .i64 0, C.list ([] : LL), C.int .i64 0])) <|
 callD (φ_av [C.int .i64 x0, C.bool x1, C.int .i64 x2, C.list x3, C.int .i64 x4]) [(.int .i64), .bool, (.int .i64), .list, (.int .i64)] fun r7 =>
 let x7 := (getC r7 0).toInt
 let x8 := (getC r7 1).toBool
 let x9 := (getC r7 2).toInt
 let x10 := (getC r7 3).toList
 let x11 := (getC r7 4).toInt
 some (.ret [C.int .i64 x7, C.bool true, C.int .i64 x9, C.list x10, C.int .i64 x11])
def t_af : Tree :=
.letp .eqI [vI 6, nI 0] <|
.ite (.v 7) (
 .call 1 [vB 0, vL 1, vI 2, vL 3] [.bool, .list, kI, .list] <|
 .ret [vB 8, vL 9, vI 10, vL 11, vL 4, vL 5]) <|
.call 0 [vI 6] [.bool] <|
.ite (.v 8) (
 .letp (.sub .i64) [vI 6, nI 1] <|
 .letp (.sub .i64) [vI 6, nI 1] <|
 .chk .idx [vI 10, vL 4] <|
 .row (.v 4) (.v 10) [kI, .bool, kI, .list, kI] <|
 .call 2 [vI 11, vB 12, vI 13, vL 14, vI 15] [kI, .bool, kI, .list, kI] <|
 .chk .idx [vI 9, vL 4] <|
 .letp (.setr 0) [vL 4, vI 9, vI 16, vB 17, vI 18, vL 19, vI 20] <|
 .ret [vB 0, vL 1, vI 2, vL 3, vL 21, vL 5]) <|
.ret [vB 0, vL 1, vI 2, vL 3, vL 4, vL 5]
def Φ_af : Phi := ph [φ_dr, φ_ct, φ_cf]
def φ_af := mir Φ_af t_af
def F_af (x0 : Bool) (x1 : LL) (x2 : Int) (x3 x4 x5 : LL) (x6 : Int) : Option Out :=
 let x7 := (x6 == 0)
 iteD x7 (
 callD (φ_ct [C.bool x0, C.list x1, C.int .i64 x2, C.list x3]) [.bool, .list, (.int .i64), .list] fun r8 =>
 let x8 := (getC r8 0).toBool
 let x9 := (getC r8 1).toList
 let x10 := (getC r8 2).toInt
 let x11 := (getC r8 3).toList
 some (.ret [C.bool x8, C.list x9, C.int .i64 x10, C.list x11, C.list x4, C.list x5])) <|
 callD (φ_dr [C.int .i64 x6]) [.bool] fun r8 =>
 let x8 := (getC r8 0).toBool
 iteD x8 (
 let x9 := IntKind.wrap .i64 (x6 - 1)
 let x10 := IntKind.wrap .i64 (x6 - 1)
 whenD ((decide ((0 : Int) <= x10) && decide (x10 < (x4.length : Nat)))) <|
 rowD (.list x4) (.int .i64 x10) [(.int .i64), .bool, (.int .i64), .list, (.int .i64)] fun r11 =>
 let x11 := (getC r11 0).toInt
 let x12 := (getC r11 1).toBool
 let x13 := (getC r11 2).toInt
 let x14 := (getC r11 3).toList
 let x15 := (getC r11 4).toInt
 callD (φ_cf [C.int .i64 x11, C.bool x12, C.int .i64 x13, C.list x14, C.int .i64 x15]) [(.int .i64), .bool, (.int .i64), .list, (.int .i64)] fun r16 =>
 let x16 := (getC r16 0).toInt
 let x17 := (getC r16 1).toBool
 let x18 := (getC r16 2).toInt
 let x19 := (getC r16 3).toList
 let x20 := (getC r16 4).toInt
 whenD ((decide ((0 : Int) <= x9) && decide (x9 < (x4.length : Nat)))) <|
 let x21 := (setRow 0 x4 (Int.toNat x9) [C.int .i64 x16, C.bool x17, C.int .i64 x18, C.list x19, C.int .i64 x20])
 some (.ret [C.bool x0, C.list x1, C.int .i64 x2, C.list x3, C.list x21, C.list x5])) <|
 some (.ret [C.bool x0, C.list x1, C.int .i64 x2, C.list x3, C.list x4, C.list x5])
def t_cp : Tree :=
.letp .eqI [vI 6, nI 1] <|
.ite (.v 10) (
 .call 0 [vB 0, vL 1, vI 2, vL 3, vL 9] [.bool, .list, kI, .list, .bool] <|
 .ite (.v 15) (
 .ret [vB 11, vL 12, vI 13, vL 14, vL 4, vL 5]) <|
 .ret [vB 0, vL 1, vI 2, vL 3, vL 4, vL 5]) <|
.letp .eqI [vI 6, nI 2] <|
.ite (.v 11) (
 .call 1 [vB 0, vL 1, vI 2, vL 3, vI 7] [.bool, .list, kI, .list, .bool] <|
 .ite (.v 16) (
 .ret [vB 12, vL 13, vI 14, vL 15, vL 4, vL 5]) <|
 .ret [vB 0, vL 1, vI 2, vL 3, vL 4, vL 5]) <|
.letp .eqI [vI 6, nI 3] <|
.ite (.v 12) (
 .call 2 [vB 0, vL 1, vI 2, vL 3] [.list] <|
 .letp .len [vL 13] <|
 .letp (.sub .i64) [vI 14, nI 1] <|
 .call 3 [vI 7, nI 0, vI 15] [.bool] <|
 .ite (.v 16) (
 .row (.v 13) (.v 7) [kI, kI, kI, kI] <|
 .call 4 [vB 0, vL 1, vI 2, vL 3, vL 4, vL 5, vI 17, vI 18, vI 19, vI 20] [.bool, .list, kI, .list, .list, .list] <|
 .ret [vB 21, vL 22, vI 23, vL 24, vL 25, vL 26]) <|
 .ret [vB 0, vL 1, vI 2, vL 3, vL 4, vL 5]) <|
.join [.bool] (
 .letp .eqI [vI 6, nI 4] <|
 .ite (.v 13) (
 .jump [⟨.bool, (.b true)⟩]) <|
 .letp .eqI [vI 6, nI 5] <|
 .ite (.v 14) (
 .jump [⟨.bool, (.b true)⟩]) <|
 .letp .eqI [vI 6, nI 6] <|
 .jump [vB 15]) <|
.ite (.v 13) (
 .call 5 [vB 0, vL 1, vI 2, vL 3, vL 4, vL 5, vI 6, vI 7, vI 8, vL 9] [.bool, .list, kI, .list, .list, .list] <|
 .ret [vB 14, vL 15, vI 16, vL 17, vL 18, vL 19]) <|
.letp .eqI [vI 6, nI 7] <|
.ite (.v 14) (
 .call 6 [vB 0, vL 1, vI 2, vL 3, vL 4, vL 5, vI 7] [.bool, .list, kI, .list, .list, .list] <|
 .ret [vB 15, vL 16, vI 17, vL 18, vL 19, vL 20]) <|
.letp .eqI [vI 6, nI 8] <|
.ite (.v 15) (
 .call 7 [vB 0, vL 1, vI 2, vL 3, vL 4, vL 5, vI 7, vI 6, vI 7, vI 8, vL 9, vI 6, vI 7, vI 8, vL 9] [.bool, .list, kI, .list, .list, .list] <|
 .ret [vB 16, vL 17, vI 18, vL 19, vL 20, vL 21]) <|
.letp .eqI [vI 6, nI 9] <|
.ite (.v 16) (
 .call 8 [vB 0, vL 1, vI 2, vL 3, vL 4, vL 5, vI 7] [.bool, .list, kI, .list, .list, .list] <|
 .ret [vB 17, vL 18, vI 19, vL 20, vL 21, vL 22]) <|
.ret [vB 0, vL 1, vI 2, vL 3, vL 4, vL 5]
def Φ_cp : Phi := ph [φ_cl, φ_cr, φ_bo, φ_fy, φ_bh, φ_cj, φ_ab, φ_aa, φ_af]
def φ_cp := mir Φ_cp t_cp
def J_cp_0 (x0 : Bool) (x1 : LL) (x2 : Int) (x3 x4 x5 : LL) (x6 x7 x8 : Int) (x9 : LL) (x13 : Bool) : Option Out :=
 iteD x13 (
 callD (φ_cj [C.bool x0, C.list x1, C.int .i64 x2, C.list x3, C.list x4, C.list x5, C.int .i64 x6, C.int .i64 x7, C.int .i64 x8, C.list x9]) [.bool, .list, (.int .i64), .list, .list, .list] fun r14 =>
 let x14 := (getC r14 0).toBool
 let x15 := (getC r14 1).toList
 let x16 := (getC r14 2).toInt
 let x17 := (getC r14 3).toList
 let x18 := (getC r14 4).toList
 let x19 := (getC r14 5).toList
 some (.ret [C.bool x14, C.list x15, C.int .i64 x16, C.list x17, C.list x18, C.list x19])) <|
 let x14 := (x6 == 7)
 iteD x14 (
 callD (φ_ab [C.bool x0, C.list x1, C.int .i64 x2, C.list x3, C.list x4, C.list x5, C.int .i64 x7]) [.bool, .list, (.int .i64), .list, .list, .list] fun r15 =>
 let x15 := (getC r15 0).toBool
 let x16 := (getC r15 1).toList
 let x17 := (getC r15 2).toInt
 let x18 := (getC r15 3).toList
 let x19 := (getC r15 4).toList
 let x20 := (getC r15 5).toList
 some (.ret [C.bool x15, C.list x16, C.int .i64 x17, C.list x18, C.list x19, C.list x20])) <|
 let x15 := (x6 == 8)
 iteD x15 (
 callD (φ_aa [C.bool x0, C.list x1, C.int .i64 x2, C.list x3, C.list x4, C.list x5, C.int .i64 x7, C.int .i64 x6, C.int .i64 x7, C.int .i64 x8, C.list x9, C.int .i64 x6, C.int .i64 x7, C.int .i64 x8, C.list x9]) [.bool, .list, (.int .i64), .list, .list, .list] fun r16 =>
 let x16 := (getC r16 0).toBool
 let x17 := (getC r16 1).toList
 let x18 := (getC r16 2).toInt
 let x19 := (getC r16 3).toList
 let x20 := (getC r16 4).toList
 let x21 := (getC r16 5).toList
 some (.ret [C.bool x16, C.list x17, C.int .i64 x18, C.list x19, C.list x20, C.list x21])) <|
 let x16 := (x6 == 9)
 iteD x16 (
 callD (φ_af [C.bool x0, C.list x1, C.int .i64 x2, C.list x3, C.list x4, C.list x5, C.int .i64 x7]) [.bool, .list, (.int .i64), .list, .list, .list] fun r17 =>
 let x17 := (getC r17 0).toBool
 let x18 := (getC r17 1).toList
 let x19 := (getC r17 2).toInt
 let x20 := (getC r17 3).toList
 let x21 := (getC r17 4).toList
 let x22 := (getC r17 5).toList
 some (.ret [C.bool x17, C.list x18, C.int .i64 x19, C.list x20, C.list x21, C.list x22])) <|
 some (.ret [C.bool x0, C.list x1, C.int .i64 x2, C.list x3, C.list x4, C.list x5])
def F_cp (x0 : Bool) (x1 : LL) (x2 : Int) (x3 x4 x5 : LL) (x6 x7 x8 : Int) (x9 : LL) : Option Out :=
 let x10 := (x6 == 1)
 iteD x10 (
 callD (φ_cl [C.bool x0, C.list x1, C.int .i64 x2, C.list x3, C.list x9]) [.bool, .list, (.int .i64), .list, .bool] fun r11 =>
 let x11 := (getC r11 0).toBool
 let x12 := (getC r11 1).toList
 let x13 := (getC r11 2).toInt
 let x14 := (getC r11 3).toList
 let x15 := (getC r11 4).toBool
 iteD x15 (
 some (.ret [C.bool x11, C.list x12, C.int .i64 x13, C.list x14, C.list x4, C.list x5])) <|
 some (.ret [C.bool x0, C.list x1, C.int .i64 x2, C.list x3, C.list x4, C.list x5])) <|
 let x11 := (x6 == 2)
 iteD x11 (
 callD (φ_cr [C.bool x0, C.list x1, C.int .i64 x2, C.list x3, C.int .i64 x7]) [.bool, .list, (.int .i64), .list, .bool] fun r12 =>
 let x12 := (getC r12 0).toBool
 let x13 := (getC r12 1).toList
 let x14 := (getC r12 2).toInt
 let x15 := (getC r12 3).toList
 let x16 := (getC r12 4).toBool
 iteD x16 (
 some (.ret [C.bool x12, C.list x13, C.int .i64 x14, C.list x15, C.list x4, C.list x5])) <|
 some (.ret [C.bool x0, C.list x1, C.int .i64 x2, C.list x3, C.list x4, C.list x5])) <|
 let x12 := (x6 == 3)
 iteD x12 (
 callD (φ_bo [C.bool x0, C.list x1, C.int .i64 x2, C.list x3]) [.list] fun r13 =>
 let x13 := (getC r13 0).toList
 let x14 : Int := x13.length
 let x15 := IntKind.wrap .i64 (x14 - 1)
 callD (φ_fy [C.int .i64 x7, C.int .i64 0, C.int .i64 x15]) [.bool] fun r16 =>
 let x16 := (getC r16 0).toBool
 iteD x16 (
 rowD (.list x13) (.int .i64 x7) [(.int .i64), (.int .i64), (.int .i64), (.int .i64)] fun r17 =>
 let x17 := (getC r17 0).toInt
 let x18 := (getC r17 1).toInt
 let x19 := (getC r17 2).toInt
 let x20 := (getC r17 3).toInt
 callD (φ_bh [C.bool x0, C.list x1, C.int .i64 x2, C.list x3, C.list x4, C.list x5, C.int .i64 x17, C.int .i64 x18, C.int .i64 x19, C.int .i64 x20]) [.bool, .list, (.int .i64), .list, .list, .list] fun r21 =>
 let x21 := (getC r21 0).toBool
 let x22 := (getC r21 1).toList
 let x23 := (getC r21 2).toInt
 let x24 := (getC r21 3).toList
 let x25 := (getC r21 4).toList
 let x26 := (getC r21 5).toList
 some (.ret [C.bool x21, C.list x22, C.int .i64 x23, C.list x24, C.list x25, C.list x26])) <|
 some (.ret [C.bool x0, C.list x1, C.int .i64 x2, C.list x3, C.list x4, C.list x5])) <|
 joinD (
 let x13 := (x6 == 4)
 iteD x13 (
 some (.jump [C.bool true])) <|
 let x14 := (x6 == 5)
 iteD x14 (
 some (.jump [C.bool true])) <|
 let x15 := (x6 == 6)
 some (.jump [C.bool x15])) fun ps => J_cp_0 x0 x1 x2 x3 x4 x5 x6 x7 x8 x9 ((getC ps 0).toBool)
def t_dq : Tree :=
.call 0 [vB 0, vL 1, vI 2, vL 3, vL 4, vL 5] [.bool] <|
.letp .not [vB 10] <|
.ite (.v 11) (
 .ret [⟨.bool, (.b false)⟩, ⟨.list, .e⟩, nI 0, ⟨.list, .e⟩, ⟨.list, .e⟩, ⟨.list, .e⟩]) <|
.call 1 [vB 0, vL 1, vI 2, vL 3, vL 4, vL 5] [.bool, .list, kI, .list, .list, .list] <|
.call 2 [vB 12, vL 13, vI 14, vL 15, vL 16, vL 17, vI 6, vI 7, vI 8, vL 9] [.bool, .list, kI, .list, .list, .list] <|
.ret [vB 18, vL 19, vI 20, vL 21, vL 22, vL 23]
def Φ_dq : Phi := ph [φ_em, φ_ax, φ_cp]
def φ_dq := mir Φ_dq t_dq
def F_dq (x0 : Bool) (x1 : LL) (x2 : Int) (x3 x4 x5 : LL) (x6 x7 x8 : Int) (x9 : LL) : Option Out :=
 callD (φ_em [C.bool x0, C.list x1, C.int .i64 x2, C.list x3, C.list x4, C.list x5]) [.bool] fun r10 =>
 let x10 := (getC r10 0).toBool
 let x11 := (!x10)
 iteD x11 (
 some (.ret [C.bool false, C.list ([] : LL), C.int .i64 0, C.list ([] : LL), C.list ([] : LL), C.list ([] : LL)])) <|
 callD (φ_ax [C.bool x0, C.list x1, C.int .i64 x2, C.list x3, C.list x4, C.list x5]) [.bool, .list, (.int .i64), .list, .list, .list] fun r12 =>
 let x12 := (getC r12 0).toBool
 let x13 := (getC r12 1).toList
 let x14 := (getC r12 2).toInt
 let x15 := (getC r12 3).toList
 let x16 := (getC r12 4).toList
 let x17 := (getC r12 5).toList
 callD (φ_cp [C.bool x12, C.list x13, C.int .i64 x14, C.list x15, C.list x16, C.list x17, C.int .i64 x6, C.int .i64 x7, C.int .i64 x8, C.list x9]) [.bool, .list, (.int .i64), .list, .list, .list] fun r18 =>
 let x18 := (getC r18 0).toBool
 let x19 := (getC r18 1).toList
 let x20 := (getC r18 2).toInt
 let x21 := (getC r18 3).toList
 let x22 := (getC r18 4).toList
 let x23 := (getC r18 5).toList
 some (.ret [C.bool x18, C.list x19, C.int .i64 x20, C.list x21, C.list x22, C.list x23])
def t_fn : Tree :=
.iter [nI 0] <|
.letp .len [vL 0] <|
.letp .ltI [vI 2, vI 3] <|
.ite (.v 4) (
 .row (.v 0) (.v 2) [kI, kI, .list] <|
 .call 0 [vI 5, vI 6, vL 7] [.bool] <|
 .letp .not [vB 8] <|
 .ite (.v 9) (
 .up <|
 .ret [⟨.bool, (.b false)⟩]) <|
 .letp (.add .i64) [vI 2, nI 1] <|
 .jump [vI 10]) <|
.up <|
.letp .len [vL 0] <|
.letp .leI [vI 5, nI 40] <|
.ite (.v 6) (
 .letp .len [vL 0] <|
 .call 1 [vI 1, nI 0, vI 7] [.bool] <|
 .ret [vB 8]) <|
.ret [⟨.bool, (.b false)⟩]
def Φ_fn : Phi := ph [φ_fr, φ_fw]
def φ_fn := mir Φ_fn t_fn
def L_fn_0 (x0 : LL) (x1 x2 : Int) : Option Out :=
 let x3 : Int := x0.length
 let x4 := decide (x2 < x3)
 iteD x4 (
 rowD (.list x0) (.int .i64 x2) [(.int .i64), (.int .i64), .list] fun r5 =>
 let x5 := (getC r5 0).toInt
 let x6 := (getC r5 1).toInt
 let x7 := (getC r5 2).toList
 callD (φ_fr [C.int .i64 x5, C.int .i64 x6, C.list x7]) [.bool] fun r8 =>
 let x8 := (getC r8 0).toBool
 let x9 := (!x8)
 iteD x9 (
 upD <|
 some (.ret [C.bool false])) <|
 let x10 := IntKind.wrap .i64 (x2 + 1)
 some (.jump [C.int .i64 x10])) <|
 upD <|
 let x5 : Int := x0.length
 let x6 := decide (x5 <= 40)
 iteD x6 (
 let x7 : Int := x0.length
 callD (φ_fw [C.int .i64 x1, C.int .i64 0, C.int .i64 x7]) [.bool] fun r8 =>
 let x8 := (getC r8 0).toBool
 some (.ret [C.bool x8])) <|
 some (.ret [C.bool false])
def F_fn (x0 : LL) (x1 : Int) : Option Out :=
 iterD (fun ps => L_fn_0 x0 x1 ((getC ps 0).toInt)) [C.int .i64 0]
def t_fd : Tree :=
.call 0 [vL 1] [.list, .bool] <|
.call 1 [vL 1, vI 2] [.bool] <|
.letp .not [vB 6] <|
.ite (.v 7) (
 .ret [⟨.bool, (.b false)⟩]) <|
.letp .not [vB 5] <|
.ite (.v 8) (
 .ret [⟨.bool, (.b false)⟩]) <|
.iter [nI 0] <|
.letp .len [vL 3] <|
.letp .ltI [vI 9, vI 10] <|
.ite (.v 11) (
 .row (.v 3) (.v 9) [kI, kI, kI, kI] <|
 .call 2 [vI 12, vI 13, vI 14, vI 15] [.bool] <|
 .letp .not [vB 16] <|
 .ite (.v 17) (
 .up <|
 .ret [⟨.bool, (.b false)⟩]) <|
 .letp .ltI [vI 12, nI 4] <|
 .ite (.v 18) (
 .up <|
 .ret [⟨.bool, (.b false)⟩]) <|
 .letp .len [vL 4] <|
 .letp .gtI [vI 14, vI 19] <|
 .ite (.v 20) (
 .up <|
 .ret [⟨.bool, (.b false)⟩]) <|
 .chk .upto [vI 9, vL 3] <|
 .letp .take [vL 3, vI 9] <|
 .call 3 [vL 21, vI 12, vI 13, vI 14, vI 15] [.bool] <|
 .ite (.v 22) (
 .up <|
 .ret [⟨.bool, (.b false)⟩]) <|
 .letp (.add .i64) [vI 9, nI 1] <|
 .jump [vI 23]) <|
.up <|
.ite (.v 0) (
 .ret [⟨.bool, (.b true)⟩]) <|
.letp .len [vL 3] <|
.letp .eqI [vI 12, nI 0] <|
.ret [vB 13]
def Φ_fd : Phi := ph [φ_fo, φ_fn, φ_ew, φ_el]
def φ_fd := mir Φ_fd t_fd
def L_fd_0 (x0 : Bool) (x3 x4 : LL) (x9 : Int) : Option Out :=
 let x10 : Int := x3.length
 let x11 := decide (x9 < x10)
 iteD x11 (
 rowD (.list x3) (.int .i64 x9) [(.int .i64), (.int .i64), (.int .i64), (.int .i64)] fun r12 =>
 let x12 := (getC r12 0).toInt
 let x13 := (getC r12 1).toInt
 let x14 := (getC r12 2).toInt
 let x15 := (getC r12 3).toInt
 callD (φ_ew [C.int .i64 x12, C.int .i64 x13, C.int .i64 x14, C.int .i64 x15]) [.bool] fun r16 =>
 let x16 := (getC r16 0).toBool
 let x17 := (!x16)
 iteD x17 (
 upD <|
 some (.ret [C.bool false])) <|
 let x18 := decide (x12 < 4)
 iteD x18 (
 upD <|
 some (.ret [C.bool false])) <|
 let x19 : Int := x4.length
 let x20 := decide (x14 > x19)
 iteD x20 (
 upD <|
 some (.ret [C.bool false])) <|
 whenD ((decide ((0 : Int) <= x9) && decide (x9 <= (x3.length : Nat)))) <|
 let x21 := (x3.take (Int.toNat x9))
 callD (φ_el [C.list x21, C.int .i64 x12, C.int .i64 x13, C.int .i64 x14, C.int .i64 x15]) [.bool] fun r22 =>
 let x22 := (getC r22 0).toBool
 iteD x22 (
 upD <|
 some (.ret [C.bool false])) <|
 let x23 := IntKind.wrap .i64 (x9 + 1)
 some (.jump [C.int .i64 x23])) <|
 upD <|
 iteD x0 (
 some (.ret [C.bool true])) <|
 let x12 : Int := x3.length
 let x13 := (x12 == 0)
 some (.ret [C.bool x13])
def F_fd (x0 : Bool) (x1 : LL) (x2 : Int) (x3 : LL) : Option Out :=
 callD (φ_fo [C.list x1]) [.list, .bool] fun r4 =>
 let x4 := (getC r4 0).toList
 let x5 := (getC r4 1).toBool
 callD (φ_fn [C.list x1, C.int .i64 x2]) [.bool] fun r6 =>
 let x6 := (getC r6 0).toBool
 let x7 := (!x6)
 iteD x7 (
 some (.ret [C.bool false])) <|
 let x8 := (!x5)
 iteD x8 (
 some (.ret [C.bool false])) <|
 iterD (fun ps => L_fd_0 x0 x3 x4 ((getC ps 0).toInt)) [C.int .i64 0]
def t_dw : Tree :=
.call 0 [vI 2, vL 3] [kI, .list, .bool] <|
.call 1 [vI 0, nI 1, nI 3] [.bool] <|
.ite (.v 8) (
 .call 2 [vL 3, vI 4] [.bool] <|
 .ite (.v 9) (
 .ret [vB 7]) <|
 .ret [⟨.bool, (.b false)⟩]) <|
.ret [⟨.bool, (.b false)⟩]
def Φ_dw : Phi := ph [φ_fx, φ_fw, φ_fn]
def φ_dw := mir Φ_dw t_dw
def F_dw (x0 : Int) (x1 : Bool) (x2 : Int) (x3 : LL) (x4 : Int) : Option Out :=
 callD (φ_fx [C.int .i64 x2, C.list x3]) [(.int .i64), .list, .bool] fun r5 =>
 let x5 := (getC r5 0).toInt
 let x6 := (getC r5 1).toList
 let x7 := (getC r5 2).toBool
 callD (φ_fw [C.int .i64 x0, C.int .i64 1, C.int .i64 3]) [.bool] fun r8 =>
 let x8 := (getC r8 0).toBool
 iteD x8 (
 callD (φ_fn [C.list x3, C.int .i64 x4]) [.bool] fun r9 =>
 let x9 := (getC r9 0).toBool
 iteD x9 (
 some (.ret [C.bool x7])) <|
 some (.ret [C.bool false])) <|
 some (.ret [C.bool false])
def t_dj : Tree :=
.call 0 [vB 0, vL 1, vI 2, vL 3] [.bool] <|
.letp .not [vB 6] <|
.ite (.v 7) (
 .ret [⟨.bool, (.b false)⟩]) <|
.letp .len [vL 4] <|
.letp .neI [vI 8, nI 3] <|
.ite (.v 9) (
 .ret [⟨.bool, (.b false)⟩]) <|
.letp .len [vL 5] <|
.letp .gtI [vI 10, nI 14] <|
.ite (.v 11) (
 .ret [⟨.bool, (.b false)⟩]) <|
.iter [nI 0] <|
.letp .len [vL 4] <|
.letp .ltI [vI 12, vI 13] <|
.ite (.v 14) (
 .row (.v 4) (.v 12) [kI, .bool, kI, .list, kI] <|
 .call 1 [vI 15, vB 16, vI 17, vL 18, vI 19] [.bool] <|
 .letp .not [vB 20] <|
 .ite (.v 21) (
 .up <|
 .ret [⟨.bool, (.b false)⟩]) <|
 .row (.v 4) (.v 12) [kI, .bool, kI, .list, kI] <|
 .letp (.add .i64) [vI 12, nI 1] <|
 .letp .neI [vI 22, vI 27] <|
 .ite (.v 28) (
 .up <|
 .ret [⟨.bool, (.b false)⟩]) <|
 .letp (.add .i64) [vI 12, nI 1] <|
 .jump [vI 29]) <|
.up <|
.iter [nI 0] <|
.letp .len [vL 5] <|
.letp .ltI [vI 15, vI 16] <|
.ite (.v 17) (
 .row (.v 5) (.v 15) [kI, kI, kI, kI] <|
 .call 2 [vI 18, vI 19, vI 20, vI 21] [.bool] <|
 .letp .not [vB 22] <|
 .ite (.v 23) (
 .up <|
 .ret [⟨.bool, (.b false)⟩]) <|
 .letp (.add .i64) [vI 15, nI 1] <|
 .jump [vI 24]) <|
.up <|
.ret [⟨.bool, (.b true)⟩]
def Φ_dj : Phi := ph [φ_fd, φ_dw, φ_ew]
def φ_dj := mir Φ_dj t_dj
def L_dj_0 (x5 : LL) (x15 : Int) : Option Out :=
 let x16 : Int := x5.length
 let x17 := decide (x15 < x16)
 iteD x17 (
 rowD (.list x5) (.int .i64 x15) [(.int .i64), (.int .i64), (.int .i64), (.int .i64)] fun r18 =>
 let x18 := (getC r18 0).toInt
 let x19 := (getC r18 1).toInt
 let x20 := (getC r18 2).toInt
 let x21 := (getC r18 3).toInt
 callD (φ_ew [C.int .i64 x18, C.int .i64 x19, C.int .i64 x20, C.int .i64 x21]) [.bool] fun r22 =>
 let x22 := (getC r22 0).toBool
 let x23 := (!x22)
 iteD x23 (
 upD <|
 some (.ret [C.bool false])) <|
 let x24 := IntKind.wrap .i64 (x15 + 1)
 some (.jump [C.int .i64 x24])) <|
 upD <|
 some (.ret [C.bool true])
def L_dj_1 (x4 x5 : LL) (x12 : Int) : Option Out :=
 let x13 : Int := x4.length
 let x14 := decide (x12 < x13)
 iteD x14 (
 rowD (.list x4) (.int .i64 x12) [(.int .i64), .bool, (.int .i64), .list, (.int .i64)] fun r15 =>
 let x15 := (getC r15 0).toInt
 let x16 := (getC r15 1).toBool
 let x17 := (getC r15 2).toInt
 let x18 := (getC r15 3).toList
 let x19 := (getC r15 4).toInt
 callD (φ_dw [C.int .i64 x15, C.bool x16, C.int .i64 x17, C.list x18, C.int .i64 x19]) [.bool] fun r20 =>
 let x20 := (getC r20 0).toBool
 let x21 := (!x20)
 iteD x21 (
 upD <|
 some (.ret [C.bool false])) <|
 rowD (.list x4) (.int .i64 x12) [(.int .i64), .bool, (.int .i64), .list, (.int .i64)] fun r22 =>
 let x22 := (getC r22 0).toInt
 let x23 := (getC r22 1).toBool
 let x24 := (getC r22 2).toInt
 let x25 := (getC r22 3).toList
 let x26 := (getC r22 4).toInt
 let x27 := IntKind.wrap .i64 (x12 + 1)
 let x28 := (x22 != x27)
 iteD x28 (
 upD <|
 some (.ret [C.bool false])) <|
 let x29 := IntKind.wrap .i64 (x12 + 1)
 some (.jump [C.int .i64 x29])) <|
 upD <|
 iterD (fun ps => L_dj_0 x5 ((getC ps 0).toInt)) [C.int .i64 0]
def F_dj (x0 : Bool) (x1 : LL) (x2 : Int) (x3 x4 x5 : LL) : Option Out :=
 callD (φ_fd [C.bool x0, C.list x1, C.int .i64 x2, C.list x3]) [.bool] fun r6 =>
 let x6 := (getC r6 0).toBool
 let x7 := (!x6)
 iteD x7 (
 some (.ret [C.bool false])) <|
 let x8 : Int := x4.length
 let x9 := (x8 != 3)
 iteD x9 (
 some (.ret [C.bool false])) <|
 let x10 : Int := x5.length
 let x11 := decide (x10 > 14)
 iteD x11 (
 some (.ret [C.bool false])) <|
 iterD (fun ps => L_dj_1 x4 x5 ((getC ps 0).toInt)) [C.int .i64 0]
def t_cg : Tree :=
.chk (.rowsk [kI]) [vL 2] <|
.chk .fits [⟨.list, .e⟩, vL 2] <|
.letp .app [⟨.list, .e⟩, vL 2] <|
.ret [vI 0, vI 1, vL 3]
def φ_cg := mir (ph []) t_cg
def F_cg (x0 x1 : Int) (x2 : LL) : Option Out :=
 whenD ((x2.all (kindsB [(.int .i64)]))) <|
 whenD (decide (([] : LL).length + x2.length <= LMAX)) <|
 let x3 := (([] : LL) ++ x2)
 some (.ret [C.int .i64 x0, C.int .i64 x1, C.list x3])
def t_fl : Tree :=
.iter [nI 0, ⟨.list, .e⟩] <|
.letp .len [vL 0] <|
.letp .ltI [vI 2, vI 4] <|
.ite (.v 5) (
 .row (.v 0) (.v 2) [kI, kI, .list] <|
 .call 0 [vI 6, vI 7, vL 8] [kI, kI, .list] <|
 .letp (.mkl 3) [vI 9, vI 10, vL 11] <|
 .chk .fits [vL 3, vL 12] <|
 .letp .app [vL 3, vL 12] <|
 .letp (.add .i64) [vI 2, nI 1] <|
 .jump [vI 14, vL 13]) <|
.up <|
.ret [vL 3, vI 1]
def Φ_fl : Phi := ph [φ_cg]
def φ_fl := mir Φ_fl t_fl
def L_fl_0 (x0 : LL) (x1 x2 : Int) (x3 : LL) : Option Out :=
 let x4 : Int := x0.length
 let x5 := decide (x2 < x4)
 iteD x5 (
 rowD (.list x0) (.int .i64 x2) [(.int .i64), (.int .i64), .list] fun r6 =>
 let x6 := (getC r6 0).toInt
 let x7 := (getC r6 1).toInt
 let x8 := (getC r6 2).toList
 callD (φ_cg [C.int .i64 x6, C.int .i64 x7, C.list x8]) [(.int .i64), (.int .i64), .list] fun r9 =>
 let x9 := (getC r9 0).toInt
 let x10 := (getC r9 1).toInt
 let x11 := (getC r9 2).toList
 let x12 := [[C.int .i64 x9, C.int .i64 x10, C.list x11]]
 whenD (decide (x3.length + x12.length <= LMAX)) <|
 let x13 := (x3 ++ x12)
 let x14 := IntKind.wrap .i64 (x2 + 1)
 some (.jump [C.int .i64 x14, C.list x13])) <|
 upD <|
 some (.ret [C.list x3, C.int .i64 x1])
def F_fl (x0 : LL) (x1 : Int) : Option Out :=
 iterD (fun ps => L_fl_0 x0 x1 ((getC ps 0).toInt) ((getC ps 1).toList)) [C.int .i64 0, C.list ([] : LL)]
def t_eh : Tree :=
.call 0 [vL 1, vI 2] [.list, kI] <|
.chk (.rowsk [kI, kI, kI, kI]) [vL 3] <|
.chk .fits [⟨.list, .e⟩, vL 3] <|
.letp .app [⟨.list, .e⟩, vL 3] <|
.ret [vB 0, vL 4, vI 5, vL 6]
def Φ_eh : Phi := ph [φ_fl]
def φ_eh := mir Φ_eh t_eh
def F_eh (x0 : Bool) (x1 : LL) (x2 : Int) (x3 : LL) : Option Out :=
 callD (φ_fl [C.list x1, C.int .i64 x2]) [.list, (.int .i64)] fun r4 =>
 let x4 := (getC r4 0).toList
 let x5 := (getC r4 1).toInt
 whenD ((x3.all (kindsB [(.int .i64), (.int .i64), (.int .i64), (.int .i64)]))) <|
 whenD (decide (([] : LL).length + x3.length <= LMAX)) <|
 let x6 := (([] : LL) ++ x3)
 some (.ret [C.bool x0, C.list x4, C.int .i64 x5, C.list x6])
def t_ec : Tree :=
.call 0 [vL 3, vI 4] [.list, kI] <|
.ret [vI 0, vB 1, vI 2, vL 5, vI 6]
def Φ_ec : Phi := ph [φ_fl]
def φ_ec := mir Φ_ec t_ec
def F_ec (x0 : Int) (x1 : Bool) (x2 : Int) (x3 : LL) (x4 : Int) : Option Out :=
 callD (φ_fl [C.list x3, C.int .i64 x4]) [.list, (.int .i64)] fun r5 =>
 let x5 := (getC r5 0).toList
 let x6 := (getC r5 1).toInt
 some (.ret [C.int .i64 x0, C.bool x1, C.int .i64 x2, C.list x5, C.int .i64 x6])
def t_dz : Tree :=
.join [.bool, kI, .list, .list, .list] (
 .call 0 [vB 0, vL 1, vI 2, vL 3] [.bool, .list, kI, .list] <|
 .chk (.rowsk [kI, kI, kI, kI]) [vL 5] <|
 .chk .fits [⟨.list, .e⟩, vL 5] <|
 .letp .app [⟨.list, .e⟩, vL 5] <|
 .jump [vB 6, vI 8, vL 7, vL 9, vL 10]) <|
.iter [nI 0, ⟨.list, .e⟩] <|
.letp .len [vL 4] <|
.letp .ltI [vI 11, vI 13] <|
.ite (.v 14) (
 .row (.v 4) (.v 11) [kI, .bool, kI, .list, kI] <|
 .call 1 [vI 15, vB 16, vI 17, vL 18, vI 19] [kI, .bool, kI, .list, kI] <|
 .letp (.mkl 5) [vI 20, vB 21, vI 22, vL 23, vI 24] <|
 .chk .fits [vL 12, vL 25] <|
 .letp .app [vL 12, vL 25] <|
 .letp (.add .i64) [vI 11, nI 1] <|
 .jump [vI 27, vL 26]) <|
.up <|
.ret [vB 6, vL 8, vI 7, vL 9, vL 12, vL 10]
def Φ_dz : Phi := ph [φ_eh, φ_ec]
def φ_dz := mir Φ_dz t_dz
def L_dz_0 (x4 : LL) (x6 : Bool) (x7 : Int) (x8 x9 x10 : LL) (x11 : Int) (x12 : LL) : Option Out :=
 let x13 : Int := x4.length
 let x14 := decide (x11 < x13)
 iteD x14 (
 rowD (.list x4) (.int .i64 x11) [(.int .i64), .bool, (.int .i64), .list, (.int .i64)] fun r15 =>
 let x15 := (getC r15 0).toInt
 let x16 := (getC r15 1).toBool
 let x17 := (getC r15 2).toInt
 let x18 := (getC r15 3).toList
 let x19 := (getC r15 4).toInt
 callD (φ_ec [C.int .i64 x15, C.bool x16, C.int .i64 x17, C.list x18, C.int .i64 x19]) [(.int .i64), .bool, (.int .i64), .list, (.int .i64)] fun r20 =>
 let x20 := (getC r20 0).toInt
 let x21 := (getC r20 1).toBool
 let x22 := (getC r20 2).toInt
 let x23 := (getC r20 3).toList
 let x24 := (getC r20 4).toInt
 let x25 := [[C.int .i64 x20, C.bool x21, C.int .i64 x22, C.list x23, C.int .i64 x24]]
 whenD (decide (x12.length + x25.length <= LMAX)) <|
 let x26 := (x12 ++ x25)
 let x27 := IntKind.wrap .i64 (x11 + 1)
 some (.jump [C.int .i64 x27, C.list x26])) <|
 upD <|
 some (.ret [C.bool x6, C.list x8, C.int .i64 x7, C.list x9, C.list x12, C.list x10])
def J_dz_1 (x4 : LL) (x6 : Bool) (x7 : Int) (x8 x9 x10 : LL) : Option Out :=
 iterD (fun ps => L_dz_0 x4 x6 x7 x8 x9 x10 ((getC ps 0).toInt) ((getC ps 1).toList)) [C.int .i64 0, C.list ([] : LL)]
def F_dz (x0 : Bool) (x1 : LL) (x2 : Int) (x3 x4 x5 : LL) : Option Out :=
 joinD (
 callD (φ_eh [C.bool x0, C.list x1, C.int .i64 x2, C.list x3]) [.bool, .list, (.int .i64), .list] fun r6 =>
 let x6 := (getC r6 0).toBool
 let x7 := (getC r6 1).toList
 let x8 := (getC r6 2).toInt
 let x9 := (getC r6 3).toList
 whenD ((x5.all (kindsB [(.int .i64), (.int .i64), (.int .i64), (.int .i64)]))) <|
 whenD (decide (([] : LL).length + x5.length <= LMAX)) <|
 let x10 := (([] : LL) ++ x5)
 some (.jump [C.bool x6, C.int .i64 x8, C.list x7, C.list x9, C.list x10])) fun ps => J_dz_1 x4 ((getC ps 0).toBool) ((getC ps 1).toInt) ((getC ps 2).toList) ((getC ps 3).toList) ((getC ps 4).toList)
def t_dn : Tree :=
.call 0 [vB 0, vL 1, vI 2, vL 3, vL 4, vL 5] [.bool] <|
.letp .not [vB 10] <|
.ite (.v 11) (
 .ret [⟨.bool, (.b false)⟩, ⟨.list, .e⟩, nI 0, ⟨.list, .e⟩, ⟨.list, .e⟩, ⟨.list, .e⟩]) <|
.call 1 [vB 0, vL 1, vI 2, vL 3, vL 4, vL 5] [.bool, .list, kI, .list, .list, .list] <|
.call 2 [vB 12, vL 13, vI 14, vL 15, vL 16, vL 17, vI 6, vI 7, vI 8, vL 9] [.bool, .list, kI, .list, .list, .list] <|
.ret [vB 18, vL 19, vI 20, vL 21, vL 22, vL 23]
def Φ_dn : Phi := ph [φ_dj, φ_dz, φ_fv]
def φ_dn := mir Φ_dn t_dn
def F_dn (x0 : Bool) (x1 : LL) (x2 : Int) (x3 x4 x5 : LL) (x6 x7 x8 : Int) (x9 : LL) : Option Out :=
 callD (φ_dj [C.bool x0, C.list x1, C.int .i64 x2, C.list x3, C.list x4, C.list x5]) [.bool] fun r10 =>
 let x10 := (getC r10 0).toBool
 let x11 := (!x10)
 iteD x11 (
 some (.ret [C.bool false, C.list ([] : LL), C.int .i64 0, C.list ([] : LL), C.list ([] : LL), C.list ([] : LL)])) <|
 callD (φ_dz [C.bool x0, C.list x1, C.int .i64 x2, C.list x3, C.list x4, C.list x5]) [.bool, .list, (.int .i64), .list, .list, .list] fun r12 =>
 let x12 := (getC r12 0).toBool
 let x13 := (getC r12 1).toList
 let x14 := (getC r12 2).toInt
 let x15 := (getC r12 3).toList
 let x16 := (getC r12 4).toList
 let x17 := (getC r12 5).toList
 callD (φ_fv [C.bool x12, C.list x13, C.int .i64 x14, C.list x15, C.list x16, C.list x17, C.int .i64 x6, C.int .i64 x7, C.int .i64 x8, C.list x9]) [.bool, .list, (.int .i64), .list, .list, .list] fun r18 =>
 let x18 := (getC r18 0).toBool
 let x19 := (getC r18 1).toList
 let x20 := (getC r18 2).toInt
 let x21 := (getC r18 3).toList
 let x22 := (getC r18 4).toList
 let x23 := (getC r18 5).toList
 some (.ret [C.bool x18, C.list x19, C.int .i64 x20, C.list x21, C.list x22, C.list x23])
def t_fh : Tree :=
.letp .len [vL 0] <|
.letp .len [vL 1] <|
.letp .neI [vI 2, vI 3] <|
.ite (.v 4) (
 .ret [⟨.bool, (.b false)⟩]) <|
.iter [nI 0] <|
.letp .len [vL 0] <|
.letp .ltI [vI 5, vI 6] <|
.ite (.v 7) (
 .row (.v 0) (.v 5) [kI] <|
 .row (.v 1) (.v 5) [kI] <|
 .letp .neI [vI 8, vI 9] <|
 .ite (.v 10) (
 .up <|
 .ret [⟨.bool, (.b false)⟩]) <|
 .letp (.add .i64) [vI 5, nI 1] <|
 .jump [vI 11]) <|
.up <|
.ret [⟨.bool, (.b true)⟩]
def φ_fh := mir (ph []) t_fh
def L_fh_0 (x0 x1 : LL) (x5 : Int) : Option Out :=
 let x6 : Int := x0.length
 let x7 := decide (x5 < x6)
 iteD x7 (
 rowD (.list x0) (.int .i64 x5) [(.int .i64)] fun r8 =>
 let x8 := (getC r8 0).toInt
 rowD (.list x1) (.int .i64 x5) [(.int .i64)] fun r9 =>
 let x9 := (getC r9 0).toInt
 let x10 := (x8 != x9)
 iteD x10 (
 upD <|
 some (.ret [C.bool false])) <|
 let x11 := IntKind.wrap .i64 (x5 + 1)
 some (.jump [C.int .i64 x11])) <|
 upD <|
 some (.ret [C.bool true])
def F_fh (x0 x1 : LL) : Option Out :=
 let x2 : Int := x0.length
 let x3 : Int := x1.length
 let x4 := (x2 != x3)
 iteD x4 (
 some (.ret [C.bool false])) <|
 iterD (fun ps => L_fh_0 x0 x1 ((getC ps 0).toInt)) [C.int .i64 0]
def t_fq : Tree :=
.letp .eqI [vI 0, vI 3] <|
.ite (.v 6) (
 .letp .eqI [vI 1, vI 4] <|
 .ite (.v 7) (
 .call 0 [vL 2, vL 5] [.bool] <|
 .ret [vB 8]) <|
 .ret [⟨.bool, (.b false)⟩]) <|
.ret [⟨.bool, (.b false)⟩]
def Φ_fq : Phi := ph [φ_fh]
def φ_fq := mir Φ_fq t_fq
def F_fq (x0 x1 : Int) (x2 : LL) (x3 x4 : Int) (x5 : LL) : Option Out :=
 let x6 := (x0 == x3)
 iteD x6 (
 let x7 := (x1 == x4)
 iteD x7 (
 callD (φ_fh [C.list x2, C.list x5]) [.bool] fun r8 =>
 let x8 := (getC r8 0).toBool
 some (.ret [C.bool x8])) <|
 some (.ret [C.bool false])) <|
 some (.ret [C.bool false])
def t_fg : Tree :=
.letp .len [vL 0] <|
.letp .len [vL 1] <|
.letp .neI [vI 2, vI 3] <|
.ite (.v 4) (
 .ret [⟨.bool, (.b false)⟩]) <|
.iter [nI 0] <|
.letp .len [vL 0] <|
.letp .ltI [vI 5, vI 6] <|
.ite (.v 7) (
 .row (.v 0) (.v 5) [kI, kI, .list] <|
 .row (.v 1) (.v 5) [kI, kI, .list] <|
 .call 0 [vI 8, vI 9, vL 10, vI 11, vI 12, vL 13] [.bool] <|
 .letp .not [vB 14] <|
 .ite (.v 15) (
 .up <|
 .ret [⟨.bool, (.b false)⟩]) <|
 .letp (.add .i64) [vI 5, nI 1] <|
 .jump [vI 16]) <|
.up <|
.ret [⟨.bool, (.b true)⟩]
def Φ_fg : Phi := ph [φ_fq]
def φ_fg := mir Φ_fg t_fg
def L_fg_0 (x0 x1 : LL) (x5 : Int) : Option Out :=
 let x6 : Int := x0.length
 let x7 := decide (x5 < x6)
 iteD x7 (
 rowD (.list x0) (.int .i64 x5) [(.int .i64), (.int .i64), .list] fun r8 =>
 let x8 := (getC r8 0).toInt
 let x9 := (getC r8 1).toInt
 let x10 := (getC r8 2).toList
 rowD (.list x1) (.int .i64 x5) [(.int .i64), (.int .i64), .list] fun r11 =>
 let x11 := (getC r11 0).toInt
 let x12 := (getC r11 1).toInt
 let x13 := (getC r11 2).toList
 callD (φ_fq [C.int .i64 x8, C.int .i64 x9, C.list x10, C.int .i64 x11, C.int .i64 x12, C.list x13]) [.bool] fun r14 =>
 let x14 := (getC r14 0).toBool
 let x15 := (!x14)
 iteD x15 (
 upD <|
 some (.ret [C.bool false])) <|
 let x16 := IntKind.wrap .i64 (x5 + 1)
 some (.jump [C.int .i64 x16])) <|
 upD <|
 some (.ret [C.bool true])
def F_fg (x0 x1 : LL) : Option Out :=
 let x2 : Int := x0.length
 let x3 : Int := x1.length
 let x4 := (x2 != x3)
 iteD x4 (
 some (.ret [C.bool false])) <|
 iterD (fun ps => L_fg_0 x0 x1 ((getC ps 0).toInt)) [C.int .i64 0]
def t_fm : Tree :=
.letp .eqI [vI 1, vI 3] <|
.ite (.v 4) (
 .call 0 [vL 0, vL 2] [.bool] <|
 .ret [vB 5]) <|
.ret [⟨.bool, (.b false)⟩]
def Φ_fm : Phi := ph [φ_fg]
def φ_fm := mir Φ_fm t_fm
def F_fm (x0 : LL) (x1 : Int) (x2 : LL) (x3 : Int) : Option Out :=
 let x4 := (x1 == x3)
 iteD x4 (
 callD (φ_fg [C.list x0, C.list x2]) [.bool] fun r5 =>
 let x5 := (getC r5 0).toBool
 some (.ret [C.bool x5])) <|
 some (.ret [C.bool false])
def t_ea : Tree :=
.letp .len [vL 0] <|
.letp .len [vL 1] <|
.letp .neI [vI 2, vI 3] <|
.ite (.v 4) (
 .ret [⟨.bool, (.b false)⟩]) <|
.iter [nI 0] <|
.letp .len [vL 0] <|
.letp .ltI [vI 5, vI 6] <|
.ite (.v 7) (
 .row (.v 0) (.v 5) [kI, kI, kI, kI] <|
 .row (.v 1) (.v 5) [kI, kI, kI, kI] <|
 .letp (.nes 4) [vI 8, vI 9, vI 10, vI 11, vI 12, vI 13, vI 14, vI 15] <|
 .ite (.v 16) (
 .up <|
 .ret [⟨.bool, (.b false)⟩]) <|
 .letp (.add .i64) [vI 5, nI 1] <|
 .jump [vI 17]) <|
.up <|
.ret [⟨.bool, (.b true)⟩]
def φ_ea := mir (ph []) t_ea
def L_ea_0 (x0 x1 : LL) (x5 : Int) : Option Out :=
 let x6 : Int := x0.length
 let x7 := decide (x5 < x6)
 iteD x7 (
 rowD (.list x0) (.int .i64 x5) [(.int .i64), (.int .i64), (.int .i64), (.int .i64)] fun r8 =>
 let x8 := (getC r8 0).toInt
 let x9 := (getC r8 1).toInt
 let x10 := (getC r8 2).toInt
 let x11 := (getC r8 3).toInt
 rowD (.list x1) (.int .i64 x5) [(.int .i64), (.int .i64), (.int .i64), (.int .i64)] fun r12 =>
 let x12 := (getC r12 0).toInt
 let x13 := (getC r12 1).toInt
 let x14 := (getC r12 2).toInt
 let x15 := (getC r12 3).toInt
 let x16 := (!([x8, x9, x10, x11] == ([x12, x13, x14, x15] : List Int)))
 iteD x16 (
 upD <|
 some (.ret [C.bool false])) <|
 let x17 := IntKind.wrap .i64 (x5 + 1)
 some (.jump [C.int .i64 x17])) <|
 upD <|
 some (.ret [C.bool true])
def F_ea (x0 x1 : LL) : Option Out :=
 let x2 : Int := x0.length
 let x3 : Int := x1.length
 let x4 := (x2 != x3)
 iteD x4 (
 some (.ret [C.bool false])) <|
 iterD (fun ps => L_ea_0 x0 x1 ((getC ps 0).toInt)) [C.int .i64 0]
def t_fj : Tree :=
.letp .eqB [vB 0, vB 4] <|
.ite (.v 8) (
 .call 0 [vL 1, vI 2, vL 5, vI 6] [.bool] <|
 .ite (.v 9) (
 .call 1 [vL 3, vL 7] [.bool] <|
 .ret [vB 10]) <|
 .ret [⟨.bool, (.b false)⟩]) <|
.ret [⟨.bool, (.b false)⟩]
def Φ_fj : Phi := ph [φ_fm, φ_ea]
def φ_fj := mir Φ_fj t_fj
def F_fj (x0 : Bool) (x1 : LL) (x2 : Int) (x3 : LL) (x4 : Bool) (x5 : LL) (x6 : Int) (x7 : LL) : Option Out :=
 let x8 := (x0 == x4)
 iteD x8 (
 callD (φ_fm [C.list x1, C.int .i64 x2, C.list x5, C.int .i64 x6]) [.bool] fun r9 =>
 let x9 := (getC r9 0).toBool
 iteD x9 (
 callD (φ_ea [C.list x3, C.list x7]) [.bool] fun r10 =>
 let x10 := (getC r10 0).toBool
 some (.ret [C.bool x10])) <|
 some (.ret [C.bool false])) <|
 some (.ret [C.bool false])
def t_ds : Tree :=
.letp .eqI [vI 0, vI 5] <|
.ite (.v 10) (
 .letp .eqB [vB 1, vB 6] <|
 .ite (.v 11) (
 .letp .eqI [vI 2, vI 7] <|
 .ite (.v 12) (
 .call 0 [vL 3, vI 4, vL 8, vI 9] [.bool] <|
 .ret [vB 13]) <|
 .ret [⟨.bool, (.b false)⟩]) <|
 .ret [⟨.bool, (.b false)⟩]) <|
.ret [⟨.bool, (.b false)⟩]
def Φ_ds : Phi := ph [φ_fm]
def φ_ds := mir Φ_ds t_ds
def F_ds (x0 : Int) (x1 : Bool) (x2 : Int) (x3 : LL) (x4 x5 : Int) (x6 : Bool) (x7 : Int) (x8 : LL) (x9 : Int) : Option Out :=
 let x10 := (x0 == x5)
 iteD x10 (
 let x11 := (x1 == x6)
 iteD x11 (
 let x12 := (x2 == x7)
 iteD x12 (
 callD (φ_fm [C.list x3, C.int .i64 x4, C.list x8, C.int .i64 x9]) [.bool] fun r13 =>
 let x13 := (getC r13 0).toBool
 some (.ret [C.bool x13])) <|
 some (.ret [C.bool false])) <|
 some (.ret [C.bool false])) <|
 some (.ret [C.bool false])
def t_dk : Tree :=
.call 0 [vB 0, vL 1, vI 2, vL 3, vB 6, vL 7, vI 8, vL 9] [.bool] <|
.letp .not [vB 12] <|
.ite (.v 13) (
 .ret [⟨.bool, (.b false)⟩]) <|
.call 1 [vL 5, vL 11] [.bool] <|
.letp .not [vB 14] <|
.ite (.v 15) (
 .ret [⟨.bool, (.b false)⟩]) <|
.letp .len [vL 4] <|
.letp .len [vL 10] <|
.letp .neI [vI 16, vI 17] <|
.ite (.v 18) (
 .ret [⟨.bool, (.b false)⟩]) <|
.iter [nI 0] <|
.letp .len [vL 4] <|
.letp .ltI [vI 19, vI 20] <|
.ite (.v 21) (
 .row (.v 4) (.v 19) [kI, .bool, kI, .list, kI] <|
 .row (.v 10) (.v 19) [kI, .bool, kI, .list, kI] <|
 .call 2 [vI 22, vB 23, vI 24, vL 25, vI 26, vI 27, vB 28, vI 29, vL 30, vI 31] [.bool] <|
 .letp .not [vB 32] <|
 .ite (.v 33) (
 .up <|
 .ret [⟨.bool, (.b false)⟩]) <|
 .letp (.add .i64) [vI 19, nI 1] <|
 .jump [vI 34]) <|
.up <|
.ret [⟨.bool, (.b true)⟩]
def Φ_dk : Phi := ph [φ_fj, φ_ea, φ_ds]
def φ_dk := mir Φ_dk t_dk
def L_dk_0 (x4 x10 : LL) (x19 : Int) : Option Out :=
 let x20 : Int := x4.length
 let x21 := decide (x19 < x20)
 iteD x21 (
 rowD (.list x4) (.int .i64 x19) [(.int .i64), .bool, (.int .i64), .list, (.int .i64)] fun r22 =>
 let x22 := (getC r22 0).toInt
 let x23 := (getC r22 1).toBool
 let x24 := (getC r22 2).toInt
 let x25 := (getC r22 3).toList
 let x26 := (getC r22 4).toInt
 rowD (.list x10) (.int .i64 x19) [(.int .i64), .bool, (.int .i64), .list, (.int .i64)] fun r27 =>
 let x27 := (getC r27 0).toInt
 let x28 := (getC r27 1).toBool
 let x29 := (getC r27 2).toInt
 let x30 := (getC r27 3).toList
 let x31 := (getC r27 4).toInt
 callD (φ_ds [C.int .i64 x22, C.bool x23, C.int .i64 x24, C.list x25, C.int .i64 x26, C.int .i64 x27, C.bool x28, C.int .i64 x29, C.list x30, C.int .i64 x31]) [.bool] fun r32 =>
 let x32 := (getC r32 0).toBool
 let x33 := (!x32)
 iteD x33 (
 upD <|
 some (.ret [C.bool false])) <|
 let x34 := IntKind.wrap .i64 (x19 + 1)
 some (.jump [C.int .i64 x34])) <|
 upD <|
 some (.ret [C.bool true])
def F_dk (x0 : Bool) (x1 : LL) (x2 : Int) (x3 x4 x5 : LL) (x6 : Bool) (x7 : LL) (x8 : Int) (x9 x10 x11 : LL) : Option Out :=
 callD (φ_fj [C.bool x0, C.list x1, C.int .i64 x2, C.list x3, C.bool x6, C.list x7, C.int .i64 x8, C.list x9]) [.bool] fun r12 =>
 let x12 := (getC r12 0).toBool
 let x13 := (!x12)
 iteD x13 (
 some (.ret [C.bool false])) <|
 callD (φ_ea [C.list x5, C.list x11]) [.bool] fun r14 =>
 let x14 := (getC r14 0).toBool
 let x15 := (!x14)
 iteD x15 (
 some (.ret [C.bool false])) <|
 let x16 : Int := x4.length
 let x17 : Int := x10.length
 let x18 := (x16 != x17)
 iteD x18 (
 some (.ret [C.bool false])) <|
 iterD (fun ps => L_dk_0 x4 x10 ((getC ps 0).toInt)) [C.int .i64 0]
def t_ce : Tree :=
.call 0 [vB 0, vL 1, vI 2, vL 3] [.bool] <|
.letp .not [vB 4] <|
.ite (.v 5) (
 .ret [⟨.list, .e⟩]) <|
.call 1 [vB 0, vL 1, vI 2, vL 3] [.list] <|
.ret [vL 6]
def Φ_ce : Phi := ph [φ_ez, φ_bo]
def φ_ce := mir Φ_ce t_ce
def F_ce (x0 : Bool) (x1 : LL) (x2 : Int) (x3 : LL) : Option Out :=
 callD (φ_ez [C.bool x0, C.list x1, C.int .i64 x2, C.list x3]) [.bool] fun r4 =>
 let x4 := (getC r4 0).toBool
 let x5 := (!x4)
 iteD x5 (
 some (.ret [C.list ([] : LL)])) <|
 callD (φ_bo [C.bool x0, C.list x1, C.int .i64 x2, C.list x3]) [.list] fun r6 =>
 let x6 := (getC r6 0).toList
 some (.ret [C.list x6])
def t_ca : Tree :=
.call 0 [vB 0, vL 1, vI 2, vL 3] [.bool] <|
.letp .not [vB 5] <|
.ite (.v 6) (
 .ret [⟨.list, .e⟩]) <|
.call 1 [vB 0, vL 1, vI 2, vL 3, vB 4] [.list] <|
.ret [vL 7]
def Φ_ca : Phi := ph [φ_ez, φ_bl]
def φ_ca := mir Φ_ca t_ca
def F_ca (x0 : Bool) (x1 : LL) (x2 : Int) (x3 : LL) (x4 : Bool) : Option Out :=
 callD (φ_ez [C.bool x0, C.list x1, C.int .i64 x2, C.list x3]) [.bool] fun r5 =>
 let x5 := (getC r5 0).toBool
 let x6 := (!x5)
 iteD x6 (
 some (.ret [C.list ([] : LL)])) <|
 callD (φ_bl [C.bool x0, C.list x1, C.int .i64 x2, C.list x3, C.bool x4]) [.list] fun r7 =>
 let x7 := (getC r7 0).toList
 some (.ret [C.list x7])
def t_dl : Tree :=
.letp .len [vL 0] <|
.letp .len [vL 1] <|
.letp .neI [vI 2, vI 3] <|
.ite (.v 4) (
 .ret [⟨.bool, (.b false)⟩]) <|
.iter [nI 0] <|
.letp .len [vL 0] <|
.letp .ltI [vI 5, vI 6] <|
.ite (.v 7) (
 .row (.v 0) (.v 5) [.list, kI] <|
 .row (.v 1) (.v 5) [.list, kI] <|
 .letp .neI [vI 9, vI 11] <|
 .ite (.v 12) (
 .up <|
 .ret [⟨.bool, (.b false)⟩]) <|
 .row (.v 0) (.v 5) [.list, kI] <|
 .row (.v 1) (.v 5) [.list, kI] <|
 .call 0 [vL 13, vL 15] [.bool] <|
 .letp .not [vB 17] <|
 .ite (.v 18) (
 .up <|
 .ret [⟨.bool, (.b false)⟩]) <|
 .letp (.add .i64) [vI 5, nI 1] <|
 .jump [vI 19]) <|
.up <|
.ret [⟨.bool, (.b true)⟩]
def Φ_dl : Phi := ph [φ_fh]
def φ_dl := mir Φ_dl t_dl
def L_dl_0 (x0 x1 : LL) (x5 : Int) : Option Out :=
 let x6 : Int := x0.length
 let x7 := decide (x5 < x6)
 iteD x7 (
 rowD (.list x0) (.int .i64 x5) [.list, (.int .i64)] fun r8 =>
 let x8 := (getC r8 0).toList
 let x9 := (getC r8 1).toInt
 rowD (.list x1) (.int .i64 x5) [.list, (.int .i64)] fun r10 =>
 let x10 := (getC r10 0).toList
 let x11 := (getC r10 1).toInt
 let x12 := (x9 != x11)
 iteD x12 (
 upD <|
 some (.ret [C.bool false])) <|
 rowD (.list x0) (.int .i64 x5) [.list, (.int .i64)] fun r13 =>
 let x13 := (getC r13 0).toList
 let x14 := (getC r13 1).toInt
 rowD (.list x1) (.int .i64 x5) [.list, (.int .i64)] fun r15 =>
 let x15 := (getC r15 0).toList
 let x16 := (getC r15 1).toInt
 callD (φ_fh [C.list x13, C.list x15]) [.bool] fun r17 =>
 let x17 := (getC r17 0).toBool
 let x18 := (!x17)
 iteD x18 (
 upD <|
 some (.ret [C.bool false])) <|
 let x19 := IntKind.wrap .i64 (x5 + 1)
 some (.jump [C.int .i64 x19])) <|
 upD <|
 some (.ret [C.bool true])
def F_dl (x0 x1 : LL) : Option Out :=
 let x2 : Int := x0.length
 let x3 : Int := x1.length
 let x4 := (x2 != x3)
 iteD x4 (
 some (.ret [C.bool false])) <|
 iterD (fun ps => L_dl_0 x0 x1 ((getC ps 0).toInt)) [C.int .i64 0]
end
end Dx
