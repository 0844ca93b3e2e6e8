/- More of them. -/
import Derived.Test.YtcgenclbnnigeaaGreatYa
set_option linter.all false
set_option linter.unusedVariables false
set_option linter.unusedSimpArgs false
set_option linter.unnecessarySimpa false
namespace Dx
open Go
noncomputable section
def F_ak (x0 : LL) : Option Out :=
 callD (φ_an [C.list x0]) [(.int .i64)] fun r1 =>
 let x1 := (getC r1 0).toInt
 let x2 := decide (x1 >= 0)
 some (.ret [C.bool x2])
def t_cg : Tree :=
.letp .len [vL 0] <|
.letp .eqI [vI 1, nI 3] <|
.ite (.v 2) (
 .call 0 [vL 0] [.bool] <|
 .letp .not [vB 3] <|
 .ite (.v 4) (
 .call 1 [vL 0] [.bool] <|
 .ret [vB 5]) <|
 .ret [⟨.bool, (.b false)⟩]) <|
.ret [⟨.bool, (.b false)⟩]
def Φ_cg : Phi := ph [φ_aj, φ_ak]
def φ_cg := mir Φ_cg t_cg
def F_cg (x0 : LL) : Option Out :=
 let x1 : Int := x0.length
 let x2 := (x1 == 3)
 iteD x2 (
 callD (φ_aj [C.list x0]) [.bool] fun r3 =>
 let x3 := (getC r3 0).toBool
 let x4 := (!x3)
 iteD x4 (
 callD (φ_ak [C.list x0]) [.bool] fun r5 =>
 let x5 := (getC r5 0).toBool
 some (.ret [C.bool x5])) <|
 some (.ret [C.bool false])) <|
 some (.ret [C.bool false])
def t_eq : Tree :=
.call 0 [vI 0, nI 1, nI 6] [.bool] <|
.ret [vB 1]
def Φ_eq : Phi := ph [φ_fj]
def φ_eq := mir Φ_eq t_eq
def F_eq (x0 : Int) : Option Out :=
 callD (φ_fj [C.int .i64 x0, C.int .i64 1, C.int .i64 6]) [.bool] fun r1 =>
 let x1 := (getC r1 0).toBool
 some (.ret [C.bool x1])
def t_fg : Tree :=
.letp .len [vL 2] <|
.letp .eqI [vI 3, nI 0] <|
.letp .eqI [vI 0, nI 1] <|
.ite (.v 5) (
 .letp .len [vL 2] <|
 .letp .eqI [vI 6, nI 1] <|
 .ite (.v 7) (
 .row (.v 2) (.n 0) [kI] <|
 .call 0 [vI 8, nI 1, nI 3] [.bool] <|
 .call 0 [vI 0, nI 1, nI 7] [.bool] <|
 .ite (.v 10) (
 .call 2 [vI 1] [.bool] <|
 .ite (.v 11) (
 .ret [vB 9]) <|
 .ret [⟨.bool, (.b false)⟩]) <|
 .ret [⟨.bool, (.b false)⟩]) <|
 .call 0 [vI 0, nI 1, nI 7] [.bool] <|
 .ite (.v 8) (
 .call 2 [vI 1] [.bool] <|
 .ite (.v 9) (
 .ret [⟨.bool, (.b false)⟩]) <|
 .ret [⟨.bool, (.b false)⟩]) <|
 .ret [⟨.bool, (.b false)⟩]) <|
.letp .eqI [vI 0, nI 4] <|
.ite (.v 6) (
 .call 1 [vL 2] [.bool] <|
 .call 0 [vI 0, nI 1, nI 7] [.bool] <|
 .ite (.v 8) (
 .call 2 [vI 1] [.bool] <|
 .ite (.v 9) (
 .ret [vB 7]) <|
 .ret [⟨.bool, (.b false)⟩]) <|
 .ret [⟨.bool, (.b false)⟩]) <|
.call 0 [vI 0, nI 1, nI 7] [.bool] <|
.ite (.v 7) (
 .call 2 [vI 1] [.bool] <|
 .ite (.v 8) (
 .ret [vB 4]) <|
 .ret [⟨.bool, (.b false)⟩]) <|
.ret [⟨.bool, (.b false)⟩]
def Φ_fg : Phi := ph [φ_fj, φ_cg, φ_eq]
def φ_fg := mir Φ_fg t_fg
def F_fg (x0 x1 : Int) (x2 : LL) : Option Out :=
 let x3 : Int := x2.length
 let x4 := (x3 == 0)
 let x5 := (x0 == 1)
 iteD x5 (
 let x6 : Int := x2.length
 let x7 := (x6 == 1)
 iteD x7 (
 rowD (.list x2) (.int .i64 0) [(.int .i64)] fun r8 =>
 let x8 := (getC r8 0).toInt
 callD (φ_fj [C.int .i64 x8, C.int .i64 1, C.int .i64 3]) [.bool] fun r9 =>
 let x9 := (getC r9 0).toBool
 callD (φ_fj [C.int .i64 x0, C.int .i64 1, C.int .i64 7]) [.bool] fun r10 =>
 let x10 := (getC r10 0).toBool
 iteD x10 (
 callD (φ_eq [C.int .i64 x1]) [.bool] fun r11 =>
 let x11 := (getC r11 0).toBool
 iteD x11 (
 some (.ret [C.bool x9])) <|
 some (.ret [C.bool false])) <|
 some (.ret [C.bool false])) <|
 callD (φ_fj [C.int .i64 x0, C.int .i64 1, C.int .i64 7]) [.bool] fun r8 =>
 let x8 := (getC r8 0).toBool
 iteD x8 (
 callD (φ_eq [C.int .i64 x1]) [.bool] fun r9 =>
 let x9 := (getC r9 0).toBool
 iteD x9 (
 some (.ret [C.bool false])) <|
 some (.ret [C.bool false])) <|
 some (.ret [C.bool false])) <|
 let x6 := (x0 == 4)
 iteD x6 (
 callD (φ_cg [C.list x2]) [.bool] fun r7 =>
 let x7 := (getC r7 0).toBool
 callD (φ_fj [C.int .i64 x0, C.int .i64 1, C.int .i64 7]) [.bool] fun r8 =>
 let x8 := (getC r8 0).toBool
 iteD x8 (
 callD (φ_eq [C.int .i64 x1]) [.bool] fun r9 =>
 let x9 := (getC r9 0).toBool
 iteD x9 (
 some (.ret [C.bool x7])) <|
 some (.ret [C.bool false])) <|
 some (.ret [C.bool false])) <|
 callD (φ_fj [C.int .i64 x0, C.int .i64 1, C.int .i64 7]) [.bool] fun r7 =>
 let x7 := (getC r7 0).toBool
 iteD x7 (
 callD (φ_eq [C.int .i64 x1]) [.bool] fun r8 =>
 let x8 := (getC r8 0).toBool
 iteD x8 (
 some (.ret [C.bool x4])) <|
 some (.ret [C.bool false])) <|
 some (.ret [C.bool false])
def t_dy : Tree :=
.call 0 [vI 0, vI 1, vL 2] [.bool] <|
.letp .not [vB 3] <|
.ret [vB 4]
def Φ_dy : Phi := ph [φ_fg]
def φ_dy := mir Φ_dy t_dy
def F_dy (x0 x1 : Int) (x2 : LL) : Option Out :=
 callD (φ_fg [C.int .i64 x0, C.int .i64 x1, C.list x2]) [.bool] fun r3 =>
 let x3 := (getC r3 0).toBool
 let x4 := (!x3)
 some (.ret [C.bool x4])
def t_al : Tree :=
.letp .len [vL 0] <|
.iter [nI 0] <|
.letp .ltI [vI 2, vI 1] <|
.ite (.v 3) (
 .row (.v 0) (.v 2) [kI, kI, .list] <|
 .call 0 [vI 4, vI 5, vL 6] [.bool] <|
 .ite (.v 7) (
 .up <|
 .ret [vI 2]) <|
 .letp (.add .i64) [vI 2, nI 1] <|
 .jump [vI 8]) <|
.up <|
.ret [⟨kI, (.n (-1))⟩]
def Φ_al : Phi := ph [φ_dy]
def φ_al := mir Φ_al t_al
def L_al_0 (x0 : LL) (x1 x2 : Int) : Option Out :=
 let x3 := decide (x2 < x1)
 iteD x3 (
 rowD (.list x0) (.int .i64 x2) [(.int .i64), (.int .i64), .list] fun r4 =>
 let x4 := (getC r4 0).toInt
 let x5 := (getC r4 1).toInt
 let x6 := (getC r4 2).toList
 callD (φ_dy [C.int .i64 x4, C.int .i64 x5, C.list x6]) [.bool] fun r7 =>
 let x7 := (getC r7 0).toBool
 iteD x7 (
 upD <|
 some (.ret [C.int .i64 x2])) <|
 let x8 := IntKind.wrap .i64 (x2 + 1)
 some (.jump [C.int .i64 x8])) <|
 upD <|
 some (.ret [C.int .i64 (-1)])
def F_al (x0 : LL) : Option Out :=
 let x1 : Int := x0.length
 iterD (fun ps => L_al_0 x0 x1 ((getC ps 0).toInt)) [C.int .i64 0]
def t_ah : Tree :=
.call 0 [vL 0] [kI] <|
.letp .geI [vI 1, nI 0] <|
.ret [vB 2]
def Φ_ah : Phi := ph [φ_al]
def φ_ah := mir Φ_ah t_ah
def F_ah (x0 : LL) : Option Out :=
 callD (φ_al [C.list x0]) [(.int .i64)] fun r1 =>
 let x1 := (getC r1 0).toInt
 let x2 := decide (x1 >= 0)
 some (.ret [C.bool x2])
def t_ey : Tree :=
.letp .len [vL 0] <|
.letp .leI [vI 2, nI 40] <|
.ite (.v 3) (
 .letp .len [vL 0] <|
 .call 0 [vI 1, nI 0, vI 4] [.bool] <|
 .ite (.v 5) (
 .call 1 [vL 0] [.bool] <|
 .letp .not [vB 6] <|
 .ret [vB 7]) <|
 .ret [⟨.bool, (.b false)⟩]) <|
.ret [⟨.bool, (.b false)⟩]
def Φ_ey : Phi := ph [φ_fj, φ_ah]
def φ_ey := mir Φ_ey t_ey
def F_ey (x0 : LL) (x1 : Int) : Option Out :=
 let x2 : Int := x0.length
 let x3 := decide (x2 <= 40)
 iteD x3 (
 let x4 : Int := x0.length
 callD (φ_fj [C.int .i64 x1, C.int .i64 0, C.int .i64 x4]) [.bool] fun r5 =>
 let x5 := (getC r5 0).toBool
 iteD x5 (
 callD (φ_ah [C.list x0]) [.bool] fun r6 =>
 let x6 := (getC r6 0).toBool
 let x7 := (!x6)
 some (.ret [C.bool x7])) <|
 some (.ret [C.bool false])) <|
 some (.ret [C.bool false])
def t_bv : Tree :=
.call 0 [vL 0] [.bool] <|
.letp .not [vB 2] <|
.ite (.v 3) (
 .ret [⟨.bool, (.b true)⟩]) <|
.call 1 [vI 1, nI 1, nI 5] [.bool] <|
.letp .not [vB 4] <|
.ret [vB 5]
def Φ_bv : Phi := ph [φ_cg, φ_fj]
def φ_bv := mir Φ_bv t_bv
def F_bv (x0 : LL) (x1 : Int) : Option Out :=
 callD (φ_cg [C.list x0]) [.bool] fun r2 =>
 let x2 := (getC r2 0).toBool
 let x3 := (!x2)
 iteD x3 (
 some (.ret [C.bool true])) <|
 callD (φ_fj [C.int .i64 x1, C.int .i64 1, C.int .i64 5]) [.bool] fun r4 =>
 let x4 := (getC r4 0).toBool
 let x5 := (!x4)
 some (.ret [C.bool x5])
def t_af : Tree :=
.letp .len [vL 0] <|
.iter [nI 0] <|
.letp .ltI [vI 2, vI 1] <|
.ite (.v 3) (
 .row (.v 0) (.v 2) [.list, kI] <|
 .call 0 [vL 4, vI 5] [.bool] <|
 .ite (.v 6) (
 .up <|
 .ret [vI 2]) <|
 .letp (.add .i64) [vI 2, nI 1] <|
 .jump [vI 7]) <|
.up <|
.ret [⟨kI, (.n (-1))⟩]
def Φ_af : Phi := ph [φ_bv]
def φ_af := mir Φ_af t_af
def L_af_0 (x0 : LL) (x1 x2 : Int) : Option Out :=
 let x3 := decide (x2 < x1)
 iteD x3 (
 rowD (.list x0) (.int .i64 x2) [.list, (.int .i64)] fun r4 =>
 let x4 := (getC r4 0).toList
 let x5 := (getC r4 1).toInt
 callD (φ_bv [C.list x4, C.int .i64 x5]) [.bool] fun r6 =>
 let x6 := (getC r6 0).toBool
 iteD x6 (
 upD <|
 some (.ret [C.int .i64 x2])) <|
 let x7 := IntKind.wrap .i64 (x2 + 1)
 some (.jump [C.int .i64 x7])) <|
 upD <|
 some (.ret [C.int .i64 (-1)])
def F_af (x0 : LL) : Option Out :=
 let x1 : Int := x0.length
 iterD (fun ps => L_af_0 x0 x1 ((getC ps 0).toInt)) [C.int .i64 0]
def t_ae : Tree :=
.call 0 [vL 0] [kI] <|
.letp .geI [vI 1, nI 0] <|
.ret [vB 2]
def Φ_ae : Phi := ph [φ_af]
def φ_ae := mir Φ_ae t_ae
def F_ae (x0 : LL) : Option Out :=
 callD (φ_af [C.list x0]) [(.int .i64)] fun r1 =>
 let x1 := (getC r1 0).toInt
 let x2 := decide (x1 >= 0)
 some (.ret [C.bool x2])
def t_dj : Tree :=
.letp .len [vL 0] <|
.letp .leI [vI 1, nI 6] <|
.ite (.v 2) (
 .call 0 [vL 0] [.bool] <|
 .letp .not [vB 3] <|
 .ret [vB 4]) <|
.ret [⟨.bool, (.b false)⟩]
def Φ_dj : Phi := ph [φ_ae]
def φ_dj := mir Φ_dj t_dj
def F_dj (x0 : LL) : Option Out :=
 let x1 : Int := x0.length
 let x2 := decide (x1 <= 6)
 iteD x2 (
 callD (φ_ae [C.list x0]) [.bool] fun r3 =>
 let x3 := (getC r3 0).toBool
 let x4 := (!x3)
 some (.ret [C.bool x4])) <|
 some (.ret [C.bool false])
def t_df : Tree :=
.letp .len [vL 0] <|
.call 0 [vI 1, nI 1, vI 2] [.bool] <|
.letp .not [vB 3] <|
.ite (.v 4) (
 .ret [nI 0]) <|
.letp (.sub .i64) [vI 1, nI 1] <|
.row (.v 0) (.v 5) [.list, kI] <|
.ret [vI 7]
def Φ_df : Phi := ph [φ_fj]
def φ_df := mir Φ_df t_df
def F_df (x0 : LL) (x1 : Int) : Option Out :=
 let x2 : Int := x0.length
 callD (φ_fj [C.int .i64 x1, C.int .i64 1, C.int .i64 x2]) [.bool] fun r3 =>
 let x3 := (getC r3 0).toBool
 let x4 := (!x3)
 iteD x4 (
 some (.ret [C.int .i64 0])) <|
 let x5 := IntKind.wrap .i64 (x1 - 1)
 rowD (.list x0) (.int .i64 x5) [.list, (.int .i64)] fun r6 =>
 let x6 := (getC r6 0).toList
 let x7 := (getC r6 1).toInt
 some (.ret [C.int .i64 x7])
def t_cu : Tree :=
.call 0 [vL 0] [.bool] <|
.letp .not [vB 4] <|
.ite (.v 5) (
 .ret [⟨.bool, (.b false)⟩]) <|
.call 1 [vI 1, vI 2, vL 3] [.bool] <|
.letp .not [vB 6] <|
.ite (.v 7) (
 .ret [⟨.bool, (.b false)⟩]) <|
.call 2 [vL 0, vI 2] [kI] <|
.letp .eqI [vI 1, nI 4] <|
.ite (.v 9) (
 .letp .len [vL 0] <|
 .letp (.add .i64) [vI 10, nI 1] <|
 .letp .eqI [vI 2, vI 11] <|
 .ret [vB 12]) <|
.letp .eqI [vI 1, nI 5] <|
.ite (.v 10) (
 .letp .eqI [vI 8, nI 1] <|
 .ret [vB 11]) <|
.letp .eqI [vI 1, nI 6] <|
.ite (.v 11) (
 .letp .eqI [vI 8, nI 1] <|
 .ret [vB 12]) <|
.letp .eqI [vI 1, nI 7] <|
.ite (.v 12) (
 .letp .eqI [vI 8, nI 2] <|
 .ite (.v 13) (
 .ret [⟨.bool, (.b true)⟩]) <|
 .letp .eqI [vI 8, nI 3] <|
 .ret [vB 14]) <|
.ret [⟨.bool, (.b false)⟩]
def Φ_cu : Phi := ph [φ_dj, φ_fg, φ_df]
def φ_cu := mir Φ_cu t_cu
def F_cu (x0 : LL) (x1 x2 : Int) (x3 : LL) : Option Out :=
 callD (φ_dj [C.list x0]) [.bool] fun r4 =>
 let x4 := (getC r4 0).toBool
 let x5 := (!x4)
 iteD x5 (
 some (.ret [C.bool false])) <|
 callD (φ_fg [C.int .i64 x1, C.int .i64 x2, C.list x3]) [.bool] fun r6 =>
 let x6 := (getC r6 0).toBool
 let x7 := (!x6)
 iteD x7 (
 some (.ret [C.bool false])) <|
 callD (φ_df [C.list x0, C.int .i64 x2]) [(.int .i64)] fun r8 =>
 let x8 := (getC r8 0).toInt
 let x9 := (x1 == 4)
 iteD x9 (
 let x10 : Int := x0.length
 let x11 := IntKind.wrap .i64 (x10 + 1)
 let x12 := (x2 == x11)
 some (.ret [C.bool x12])) <|
 let x10 := (x1 == 5)
 iteD x10 (
 let x11 := (x8 == 1)
 some (.ret [C.bool x11])) <|
 let x11 := (x1 == 6)
 iteD x11 (
 let x12 := (x8 == 1)
 some (.ret [C.bool x12])) <|
 let x12 := (x1 == 7)
 iteD x12 (
 let x13 := (x8 == 2)
 iteD x13 (
 some (.ret [C.bool true])) <|
 let x14 := (x8 == 3)
 some (.ret [C.bool x14])) <|
 some (.ret [C.bool false])
def t_bc : Tree :=
.letp .isNil [vL 0] <|
.ite (.v 1) (
 .both (
 .ret [⟨.list, .e⟩]) <|
 .chk (.rowsk [kI]) [vL 0] <|
 .chk .fits [⟨.list, .e⟩, vL 0] <|
 .letp .app [⟨.list, .e⟩, vL 0] <|
 .ret [vL 2]) <|
.chk (.rowsk [kI]) [vL 0] <|
.chk .fits [⟨.list, .e⟩, vL 0] <|
.letp .app [⟨.list, .e⟩, vL 0] <|
.ret [vL 2]
def φ_bc := mir (ph []) t_bc
def F_bc (x0 : LL) : Option Out :=
 let x1 := x0.isEmpty
 iteD x1 (
 bothD (
 some (.ret [C.list ([] : LL)])) <|
 whenD ((x0.all (kindsB [(.int .i64)]))) <|
 whenD (decide (([] : LL).length + x0.length <= LMAX)) <|
 let x2 := (([] : LL) ++ x0)
 some (.ret [C.list x2])) <|
 whenD ((x0.all (kindsB [(.int .i64)]))) <|
 whenD (decide (([] : LL).length + x0.length <= LMAX)) <|
 let x2 := (([] : LL) ++ x0)
 some (.ret [C.list x2])
def t_dw : Tree :=
.call 0 [vL 0, vI 1, vI 2, vL 3] [.bool] <|
.letp .not [vB 4] <|
.ite (.v 5) (
 .ret [⟨.list, .e⟩, ⟨.bool, (.b false)⟩]) <|
.letp .len [vL 0] <|
.iter [nI 0, ⟨.list, .e⟩] <|
.letp .ltI [vI 7, vI 6] <|
.ite (.v 9) (
 .row (.v 0) (.v 7) [.list, kI] <|
 .call 1 [vL 10] [.list] <|
 .letp (.mkl 2) [vL 12, vI 11] <|
 .chk .fits [vL 8, vL 13] <|
 .letp .app [vL 8, vL 13] <|
 .letp (.add .i64) [vI 7, nI 1] <|
 .jump [vI 15, vL 14]) <|
.up <|
.letp .eqI [vI 1, nI 4] <|
.ite (.v 10) (
 .call 1 [vL 3] [.list] <|
 .letp (.mkl 2) [vL 11, nI 1] <|
 .chk .fits [vL 8, vL 12] <|
 .letp .app [vL 8, vL 12] <|
 .ret [vL 13, ⟨.bool, (.b true)⟩]) <|
.letp (.sub .i64) [vI 2, nI 1] <|
.chk .idx [vI 11, vL 8] <|
.letp .eqI [vI 1, nI 5] <|
.ite (.v 12) (
 .letp (.setr 1) [vL 8, vI 11, nI 2] <|
 .ret [vL 13, ⟨.bool, (.b true)⟩]) <|
.letp .eqI [vI 1, nI 6] <|
.ite (.v 13) (
 .letp (.setr 1) [vL 8, vI 11, nI 3] <|
 .ret [vL 14, ⟨.bool, (.b true)⟩]) <|
.row (.v 8) (.v 11) [.list, kI] <|
.letp .eqI [vI 15, nI 2] <|
.ite (.v 16) (
 .letp (.setr 1) [vL 8, vI 11, nI 4] <|
 .ret [vL 17, ⟨.bool, (.b true)⟩]) <|
.letp (.setr 1) [vL 8, vI 11, nI 5] <|
.ret [vL 17, ⟨.bool, (.b true)⟩]
def Φ_dw : Phi := ph [φ_cu, φ_bc]
def φ_dw := mir Φ_dw t_dw
def L_dw_0 (x0 : LL) (x1 x2 : Int) (x3 : LL) (x6 x7 : Int) (x8 : LL) : Option Out :=
 let x9 := decide (x7 < x6)
 iteD x9 (
 rowD (.list x0) (.int .i64 x7) [.list, (.int .i64)] fun r10 =>
 let x10 := (getC r10 0).toList
 let x11 := (getC r10 1).toInt
 callD (φ_bc [C.list x10]) [.list] fun r12 =>
 let x12 := (getC r12 0).toList
 let x13 := [[C.list x12, C.int .i64 x11]]
 whenD (decide (x8.length + x13.length <= LMAX)) <|
 let x14 := (x8 ++ x13)
 let x15 := IntKind.wrap .i64 (x7 + 1)
 some (.jump [C.int .i64 x15, C.list x14])) <|
 upD <|
 let x10 := (x1 == 4)
 iteD x10 (
 callD (φ_bc [C.list x3]) [.list] fun r11 =>
 let x11 := (getC r11 0).toList
 let x12 := [[C.list x11, C.int .i64 1]]
 whenD (decide (x8.length + x12.length <= LMAX)) <|
 let x13 := (x8 ++ x12)
 some (.ret [C.list x13, C.bool true])) <|
 let x11 := IntKind.wrap .i64 (x2 - 1)
 whenD ((decide ((0 : Int) <= x11) && decide (x11 < (x8.length : Nat)))) <|
 let x12 := (x1 == 5)
 iteD x12 (
 let x13 := (setRow 1 x8 (Int.toNat x11) [C.int .i64 2])
 some (.ret [C.list x13, C.bool true])) <|
 let x13 := (x1 == 6)
 iteD x13 (
 let x14 := (setRow 1 x8 (Int.toNat x11) [C.int .i64 3])
 some (.ret [C.list x14, C.bool true])) <|
 rowD (.list x8) (.int .i64 x11) [.list, (.int .i64)] fun r14 =>
 let x14 := (getC r14 0).toList
 let x15 := (getC r14 1).toInt
 let x16 := (x15 == 2)
 iteD x16 (
 let x17 := (setRow 1 x8 (Int.toNat x11) [C.int .i64 4])
 some (.ret [C.list x17, C.bool true])) <|
 let x17 := (setRow 1 x8 (Int.toNat x11) [C.int .i64 5])
 some (.ret [C.list x17, C.bool true])
def F_dw (x0 : LL) (x1 x2 : Int) (x3 : LL) : Option Out :=
 callD (φ_cu [C.list x0, C.int .i64 x1, C.int .i64 x2, C.list x3]) [.bool] fun r4 =>
 let x4 := (getC r4 0).toBool
 let x5 := (!x4)
 iteD x5 (
 some (.ret [C.list ([] : LL), C.bool false])) <|
 let x6 : Int := x0.length
 iterD (fun ps => L_dw_0 x0 x1 x2 x3 x6 ((getC ps 0).toInt) ((getC ps 1).toList)) [C.int .i64 0, C.list ([] : LL)]
def t_eb : Tree :=
.iter [⟨.list, .e⟩, ⟨.bool, (.b true)⟩, nI 0] <|
.ite (.v 2) (
 .letp .len [vL 0] <|
 .letp .ltI [vI 3, vI 4] <|
 .ite (.v 5) (
 .row (.v 0) (.v 3) [kI, kI, .list] <|
 .call 0 [vL 1, vI 6, vI 7, vL 8] [.list, .bool] <|
 .letp (.add .i64) [vI 3, nI 1] <|
 .jump [vL 9, vB 10, vI 11]) <|
 .up <|
 .ret [vL 1, vB 2]) <|
.up <|
.ret [vL 1, vB 2]
def Φ_eb : Phi := ph [φ_dw]
def φ_eb := mir Φ_eb t_eb
def L_eb_0 (x0 x1 : LL) (x2 : Bool) (x3 : Int) : Option Out :=
 iteD x2 (
 let x4 : Int := x0.length
 let x5 := decide (x3 < x4)
 iteD x5 (
 rowD (.list x0) (.int .i64 x3) [(.int .i64), (.int .i64), .list] fun r6 =>
 let x6 := (getC r6 0).toInt
 let x7 := (getC r6 1).toInt
 let x8 := (getC r6 2).toList
 callD (φ_dw [C.list x1, C.int .i64 x6, C.int .i64 x7, C.list x8]) [.list, .bool] fun r9 =>
 let x9 := (getC r9 0).toList
 let x10 := (getC r9 1).toBool
 let x11 := IntKind.wrap .i64 (x3 + 1)
 some (.jump [C.list x9, C.bool x10, C.int .i64 x11])) <|
 upD <|
 some (.ret [C.list x1, C.bool x2])) <|
 upD <|
 some (.ret [C.list x1, C.bool x2])
def F_eb (x0 : LL) : Option Out :=
 iterD (fun ps => L_eb_0 x0 ((getC ps 0).toList) ((getC ps 1).toBool) ((getC ps 2).toInt)) [C.list ([] : LL), C.bool true, C.int .i64 0]
def t_dv : Tree :=
.call 0 [vI 0, nI 1, nI 3] [.bool] <|
.ret [vB 1]
def Φ_dv : Phi := ph [φ_fj]
def φ_dv := mir Φ_dv t_dv
def F_dv (x0 : Int) : Option Out :=
 callD (φ_fj [C.int .i64 x0, C.int .i64 1, C.int .i64 3]) [.bool] fun r1 =>
 let x1 := (getC r1 0).toBool
 some (.ret [C.bool x1])
def t_er : Tree :=
.letp .eqI [vI 3, nI 0] <|
.letp .eqI [vI 0, nI 1] <|
.ite (.v 5) (
 .call 0 [vI 3, nI 1, nI 3] [.bool] <|
 .call 0 [vI 0, nI 1, nI 7] [.bool] <|
 .ite (.v 7) (
 .call 1 [vI 1] [.bool] <|
 .ite (.v 8) (
 .call 2 [vI 2] [.bool] <|
 .ite (.v 9) (
 .ret [vB 6]) <|
 .ret [⟨.bool, (.b false)⟩]) <|
 .ret [⟨.bool, (.b false)⟩]) <|
 .ret [⟨.bool, (.b false)⟩]) <|
.call 0 [vI 0, nI 1, nI 7] [.bool] <|
.ite (.v 6) (
 .call 1 [vI 1] [.bool] <|
 .ite (.v 7) (
 .call 2 [vI 2] [.bool] <|
 .ite (.v 8) (
 .ret [vB 4]) <|
 .ret [⟨.bool, (.b false)⟩]) <|
 .ret [⟨.bool, (.b false)⟩]) <|
.ret [⟨.bool, (.b false)⟩]
def Φ_er : Phi := ph [φ_fj, φ_dv, φ_eq]
def φ_er := mir Φ_er t_er
def F_er (x0 x1 : Int) (x2 x3 : Int) : Option Out :=
 let x4 := (x3 == 0)
 let x5 := (x0 == 1)
 iteD x5 (
 callD (φ_fj [C.int .i64 x3, C.int .i64 1, C.int .i64 3]) [.bool] fun r6 =>
 let x6 := (getC r6 0).toBool
 callD (φ_fj [C.int .i64 x0, C.int .i64 1, C.int .i64 7]) [.bool] fun r7 =>
 let x7 := (getC r7 0).toBool
 iteD x7 (
 callD (φ_dv [C.int .i64 x1]) [.bool] fun r8 =>
 let x8 := (getC r8 0).toBool
 iteD x8 (
 callD (φ_eq [C.int .i64 x2]) [.bool] fun r9 =>
 let x9 := (getC r9 0).toBool
 iteD x9 (
 some (.ret [C.bool x6])) <|
 some (.ret [C.bool false])) <|
 some (.ret [C.bool false])) <|
 some (.ret [C.bool false])) <|
 callD (φ_fj [C.int .i64 x0, C.int .i64 1, C.int .i64 7]) [.bool] fun r6 =>
 let x6 := (getC r6 0).toBool
 iteD x6 (
 callD (φ_dv [C.int .i64 x1]) [.bool] fun r7 =>
 let x7 := (getC r7 0).toBool
 iteD x7 (
 callD (φ_eq [C.int .i64 x2]) [.bool] fun r8 =>
 let x8 := (getC r8 0).toBool
 iteD x8 (
 some (.ret [C.bool x4])) <|
 some (.ret [C.bool false])) <|
 some (.ret [C.bool false])) <|
 some (.ret [C.bool false])
def t_bd : Tree :=
.letp .geI [vI 0, nI 4] <|
.ret [vB 4]
def φ_bd := mir (ph []) t_bd
def F_bd (x0 x1 : Int) (x2 x3 : Int) : Option Out :=
 let x4 := decide (x0 >= 4)
 some (.ret [C.bool x4])
def t_ar : Tree :=
.letp .len [vL 0] <|
.iter [nI 0] <|
.letp .ltI [vI 6, vI 5] <|
.ite (.v 7) (
 .row (.v 0) (.v 6) [kI, kI, kI, kI] <|
 .letp (.eqs 4) [vI 1, vI 2, vI 3, vI 4, vI 8, vI 9, vI 10, vI 11] <|
 .ite (.v 12) (
 .up <|
 .ret [vI 6]) <|
 .letp (.add .i64) [vI 6, nI 1] <|
 .jump [vI 13]) <|
.up <|
.ret [⟨kI, (.n (-1))⟩]
def φ_ar := mir (ph []) t_ar
def L_ar_0 (x0 : LL) (x1 x2 : Int) (x3 x4 : Int) (x5 x6 : Int) : Option Out :=
 let x7 := decide (x6 < x5)
 iteD x7 (
 rowD (.list x0) (.int .i64 x6) [(.int .i64), (.int .i64), (.int .i64), (.int .i64)] fun r8 =>
 let x8 := (getC r8 0).toInt
 let x9 := (getC r8 1).toInt
 let x10 := (getC r8 2).toInt
 let x11 := (getC r8 3).toInt
 let x12 := ([x1, x2, x3, x4] == ([x8, x9, x10, x11] : List Int))
 iteD x12 (
 upD <|
 some (.ret [C.int .i64 x6])) <|
 let x13 := IntKind.wrap .i64 (x6 + 1)
 some (.jump [C.int .i64 x13])) <|
 upD <|
 some (.ret [C.int .i64 (-1)])
def F_ar (x0 : LL) (x1 x2 : Int) (x3 x4 : Int) : Option Out :=
 let x5 : Int := x0.length
 iterD (fun ps => L_ar_0 x0 x1 x2 x3 x4 x5 ((getC ps 0).toInt)) [C.int .i64 0]
def t_ao : Tree :=
.call 0 [vL 0, vI 1, vI 2, vI 3, vI 4] [kI] <|
.letp .geI [vI 5, nI 0] <|
.ret [vB 6]
def Φ_ao : Phi := ph [φ_ar]
def φ_ao := mir Φ_ao t_ao
def F_ao (x0 : LL) (x1 x2 : Int) (x3 x4 : Int) : Option Out :=
 callD (φ_ar [C.list x0, C.int .i64 x1, C.int .i64 x2, C.int .i64 x3, C.int .i64 x4]) [(.int .i64)] fun r5 =>
 let x5 := (getC r5 0).toInt
 let x6 := decide (x5 >= 0)
 some (.ret [C.bool x6])
def t_es : Tree :=
.join [] (
 .call 0 [vL 1, vI 2] [.bool] <|
 .letp .not [vB 4] <|
 .ite (.v 5) (
 .up <|
 .ret [⟨.bool, (.b false)⟩]) <|
 .letp .not [vB 0] <|
 .ite (.v 6) (
 .letp .len [vL 3] <|
 .letp .gtI [vI 7, nI 0] <|
 .ite (.v 8) (
 .up <|
 .ret [⟨.bool, (.b false)⟩]) <|
 .jump []) <|
 .jump []) <|
.call 1 [vL 1] [.list, .bool] <|
.letp .len [vL 3] <|
.iter [nI 0] <|
.letp .ltI [vI 7, vI 6] <|
.ite (.v 8) (
 .row (.v 3) (.v 7) [kI, kI, kI, kI] <|
 .call 2 [vI 9, vI 10, vI 11, vI 12] [.bool] <|
 .letp .not [vB 13] <|
 .ite (.v 14) (
 .up <|
 .ret [⟨.bool, (.b false)⟩]) <|
 .call 3 [vI 9, vI 10, vI 11, vI 12] [.bool] <|
 .letp .not [vB 15] <|
 .ite (.v 16) (
 .up <|
 .ret [⟨.bool, (.b false)⟩]) <|
 .letp .len [vL 4] <|
 .letp .gtI [vI 11, vI 17] <|
 .ite (.v 18) (
 .up <|
 .ret [⟨.bool, (.b false)⟩]) <|
 .chk .upto [vI 7, vL 3] <|
 .letp .take [vL 3, vI 7] <|
 .call 4 [vL 19, vI 9, vI 10, vI 11, vI 12] [.bool] <|
 .ite (.v 20) (
 .up <|
 .ret [⟨.bool, (.b false)⟩]) <|
 .letp (.add .i64) [vI 7, nI 1] <|
 .jump [vI 21]) <|
.up <|
.ret [vB 5]
def Φ_es : Phi := ph [φ_ey, φ_eb, φ_er, φ_bd, φ_ao]
def φ_es := mir Φ_es t_es
def L_es_0 (x3 x4 : LL) (x5 : Bool) (x6 x7 : Int) : Option Out :=
 let x8 := decide (x7 < x6)
 iteD x8 (
 rowD (.list x3) (.int .i64 x7) [(.int .i64), (.int .i64), (.int .i64), (.int .i64)] fun r9 =>
 let x9 := (getC r9 0).toInt
 let x10 := (getC r9 1).toInt
 let x11 := (getC r9 2).toInt
 let x12 := (getC r9 3).toInt
 callD (φ_er [C.int .i64 x9, C.int .i64 x10, C.int .i64 x11, C.int .i64 x12]) [.bool] fun r13 =>
 let x13 := (getC r13 0).toBool
 let x14 := (!x13)
 iteD x14 (
 upD <|
 some (.ret [C.bool false])) <|
 callD (φ_bd [C.int .i64 x9, C.int .i64 x10, C.int .i64 x11, C.int .i64 x12]) [.bool] fun r15 =>
 let x15 := (getC r15 0).toBool
 let x16 := (!x15)
 iteD x16 (
 upD <|
 some (.ret [C.bool false])) <|
 let x17 : Int := x4.length
 let x18 := decide (x11 > x17)
 iteD x18 (
 upD <|
 some (.ret [C.bool false])) <|
 whenD ((decide ((0 : Int) <= x7) && decide (x7 <= (x3.length : Nat)))) <|
 let x19 := (x3.take (Int.toNat x7))
 callD (φ_ao [C.list x19, C.int .i64 x9, C.int .i64 x10, C.int .i64 x11, C.int .i64 x12]) [.bool] fun r20 =>
 let x20 := (getC r20 0).toBool
 iteD x20 (
 upD <|
 some (.ret [C.bool false])) <|
 let x21 := IntKind.wrap .i64 (x7 + 1)
 some (.jump [C.int .i64 x21])) <|
 upD <|
 some (.ret [C.bool x5])
def J_es_1 (x1 x3 : LL) : Option Out :=
 callD (φ_eb [C.list x1]) [.list, .bool] fun r4 =>
 let x4 := (getC r4 0).toList
 let x5 := (getC r4 1).toBool
 let x6 : Int := x3.length
 iterD (fun ps => L_es_0 x3 x4 x5 x6 ((getC ps 0).toInt)) [C.int .i64 0]
def F_es (x0 : Bool) (x1 : LL) (x2 : Int) (x3 : LL) : Option Out :=
 joinD (
 callD (φ_ey [C.list x1, C.int .i64 x2]) [.bool] fun r4 =>
 let x4 := (getC r4 0).toBool
 let x5 := (!x4)
 iteD x5 (
 upD <|
 some (.ret [C.bool false])) <|
 let x6 := (!x0)
 iteD x6 (
 let x7 : Int := x3.length
 let x8 := decide (x7 > 0)
 iteD x8 (
 upD <|
 some (.ret [C.bool false])) <|
 some (.jump [])) <|
 some (.jump [])) fun ps => J_es_1 x1 x3
def t_ck : Tree :=
.call 0 [vI 0, nI 0, nI 9] [.bool] <|
.letp .not [vB 1] <|
.ite (.v 2) (
 .ret [nI 0, ⟨.list, .e⟩, ⟨.bool, (.b false)⟩]) <|
.letp .rep [nI 6, nI 0, nI 0] <|
.ret [vI 0, vL 3, ⟨.bool, (.b true)⟩]
def Φ_ck : Phi := ph [φ_fj]
def φ_ck := mir Φ_ck t_ck
def F_ck (x0 : Int) : Option Out :=
 callD (φ_fj [C.int .i64 x0, C.int .i64 0, C.int .i64 9]) [.bool] fun r1 =>
 let x1 := (getC r1 0).toBool
 let x2 := (!x1)
 iteD x2 (
 some (.ret [C.int .i64 0, C.list ([] : LL), C.bool false])) <|
 let x3 := (List.replicate (Int.toNat 6) [C.int .i64 0, C.int .i64 0])
 some (.ret [C.int .i64 x0, C.list x3, C.bool true])
def t_dc : Tree :=
.letp .eqI [vI 1, nI 0] <|
.ite (.v 2) (
 .letp .eqI [vI 0, nI 0] <|
 .ret [vB 3]) <|
.letp .eqI [vI 1, nI 1] <|
.ite (.v 3) (
 .call 0 [vI 0, nI 1, nI 3] [.bool] <|
 .ret [vB 4]) <|
.letp .eqI [vI 1, nI 2] <|
.ite (.v 4) (
 .call 0 [vI 0, nI 1, nI 3] [.bool] <|
 .ret [vB 5]) <|
.letp .eqI [vI 1, nI 3] <|
.ite (.v 5) (
 .call 0 [vI 0, nI 0, nI 3] [.bool] <|
 .ret [vB 6]) <|
.ret [⟨.bool, (.b false)⟩]
def Φ_dc : Phi := ph [φ_fj]
def φ_dc := mir Φ_dc t_dc
def F_dc (x0 x1 : Int) : Option Out :=
 let x2 := (x1 == 0)
 iteD x2 (
 let x3 := (x0 == 0)
 some (.ret [C.bool x3])) <|
 let x3 := (x1 == 1)
 iteD x3 (
 callD (φ_fj [C.int .i64 x0, C.int .i64 1, C.int .i64 3]) [.bool] fun r4 =>
 let x4 := (getC r4 0).toBool
 some (.ret [C.bool x4])) <|
 let x4 := (x1 == 2)
 iteD x4 (
 callD (φ_fj [C.int .i64 x0, C.int .i64 1, C.int .i64 3]) [.bool] fun r5 =>
 let x5 := (getC r5 0).toBool
 some (.ret [C.bool x5])) <|
 let x5 := (x1 == 3)
 iteD x5 (
 callD (φ_fj [C.int .i64 x0, C.int .i64 0, C.int .i64 3]) [.bool] fun r6 =>
 let x6 := (getC r6 0).toBool
 some (.ret [C.bool x6])) <|
 some (.ret [C.bool false])
def t_by : Tree :=
.call 0 [vI 0, vI 1] [.bool] <|
.letp .not [vB 2] <|
.ret [vB 3]
def Φ_by : Phi := ph [φ_dc]
def φ_by := mir Φ_by t_by
def F_by (x0 x1 : Int) : Option Out :=
 callD (φ_dc [C.int .i64 x0, C.int .i64 x1]) [.bool] fun r2 =>
 let x2 := (getC r2 0).toBool
 let x3 := (!x2)
 some (.ret [C.bool x3])
def t_ag : Tree :=
.letp .len [vL 0] <|
.iter [nI 0] <|
.letp .ltI [vI 2, vI 1] <|
.ite (.v 3) (
 .row (.v 0) (.v 2) [kI, kI] <|
 .call 0 [vI 4, vI 5] [.bool] <|
 .ite (.v 6) (
 .up <|
 .ret [vI 2]) <|
 .letp (.add .i64) [vI 2, nI 1] <|
 .jump [vI 7]) <|
.up <|
.ret [⟨kI, (.n (-1))⟩]
def Φ_ag : Phi := ph [φ_by]
def φ_ag := mir Φ_ag t_ag
def L_ag_0 (x0 : LL) (x1 x2 : Int) : Option Out :=
 let x3 := decide (x2 < x1)
 iteD x3 (
 rowD (.list x0) (.int .i64 x2) [(.int .i64), (.int .i64)] fun r4 =>
 let x4 := (getC r4 0).toInt
 let x5 := (getC r4 1).toInt
 callD (φ_by [C.int .i64 x4, C.int .i64 x5]) [.bool] fun r6 =>
 let x6 := (getC r6 0).toBool
 iteD x6 (
 upD <|
 some (.ret [C.int .i64 x2])) <|
 let x7 := IntKind.wrap .i64 (x2 + 1)
 some (.jump [C.int .i64 x7])) <|
 upD <|
 some (.ret [C.int .i64 (-1)])
def F_ag (x0 : LL) : Option Out :=
 let x1 : Int := x0.length
 iterD (fun ps => L_ag_0 x0 x1 ((getC ps 0).toInt)) [C.int .i64 0]
def t_ab : Tree :=
.call 0 [vL 0] [kI] <|
.letp .geI [vI 1, nI 0] <|
.ret [vB 2]
def Φ_ab : Phi := ph [φ_ag]
def φ_ab := mir Φ_ab t_ab
def F_ab (x0 : LL) : Option Out :=
 callD (φ_ag [C.list x0]) [(.int .i64)] fun r1 =>
 let x1 := (getC r1 0).toInt
 let x2 := decide (x1 >= 0)
 some (.ret [C.bool x2])
def t_bh : Tree :=
.letp .len [vL 1] <|
.iter [vI 0, nI 0] <|
.letp .ltI [vI 4, vI 2] <|
.ite (.v 5) (
 .row (.v 1) (.v 4) [kI, kI] <|
 .letp .eqI [vI 7, nI 1] <|
 .ite (.v 8) (
 .letp (.sub .i64) [vI 3, vI 6] <|
 .letp (.add .i64) [vI 4, nI 1] <|
 .jump [vI 9, vI 10]) <|
 .letp .eqI [vI 7, nI 2] <|
 .ite (.v 9) (
 .letp (.sub .i64) [vI 3, vI 6] <|
 .letp (.add .i64) [vI 4, nI 1] <|
 .jump [vI 10, vI 11]) <|
 .letp (.add .i64) [vI 4, nI 1] <|
 .jump [vI 3, vI 10]) <|
.up <|
.ret [vI 3]
def φ_bh := mir (ph []) t_bh
def L_bh_0 (x1 : LL) (x2 x3 x4 : Int) : Option Out :=
 let x5 := decide (x4 < x2)
 iteD x5 (
 rowD (.list x1) (.int .i64 x4) [(.int .i64), (.int .i64)] fun r6 =>
 let x6 := (getC r6 0).toInt
 let x7 := (getC r6 1).toInt
 let x8 := (x7 == 1)
 iteD x8 (
 let x9 := IntKind.wrap .i64 (x3 - x6)
 let x10 := IntKind.wrap .i64 (x4 + 1)
 some (.jump [C.int .i64 x9, C.int .i64 x10])) <|
 let x9 := (x7 == 2)
 iteD x9 (
 let x10 := IntKind.wrap .i64 (x3 - x6)
 let x11 := IntKind.wrap .i64 (x4 + 1)
 some (.jump [C.int .i64 x10, C.int .i64 x11])) <|
 let x10 := IntKind.wrap .i64 (x4 + 1)
 some (.jump [C.int .i64 x3, C.int .i64 x10])) <|
 upD <|
 some (.ret [C.int .i64 x3])
def F_bh (x0 : Int) (x1 : LL) : Option Out :=
 let x2 : Int := x1.length
 iterD (fun ps => L_bh_0 x1 x2 ((getC ps 0).toInt) ((getC ps 1).toInt)) [C.int .i64 x0, C.int .i64 0]
def t_dn : Tree :=
.call 0 [vI 0, nI 0, nI 9] [.bool] <|
.ite (.v 2) (
 .letp .len [vL 1] <|
 .letp .eqI [vI 3, nI 6] <|
 .ite (.v 4) (
 .call 1 [vL 1] [.bool] <|
 .letp .not [vB 5] <|
 .ite (.v 6) (
 .call 2 [vI 0, vL 1] [kI] <|
 .letp .geI [vI 7, nI 0] <|
 .ret [vB 8]) <|
 .ret [⟨.bool, (.b false)⟩]) <|
 .ret [⟨.bool, (.b false)⟩]) <|
.ret [⟨.bool, (.b false)⟩]
def Φ_dn : Phi := ph [φ_fj, φ_ab, φ_bh]
def φ_dn := mir Φ_dn t_dn
def F_dn (x0 : Int) (x1 : LL) : Option Out :=
 callD (φ_fj [C.int .i64 x0, C.int .i64 0, C.int .i64 9]) [.bool] fun r2 =>
 let x2 := (getC r2 0).toBool
 iteD x2 (
 let x3 : Int := x1.length
 let x4 := (x3 == 6)
 iteD x4 (
 callD (φ_ab [C.list x1]) [.bool] fun r5 =>
 let x5 := (getC r5 0).toBool
 let x6 := (!x5)
 iteD x6 (
 callD (φ_bh [C.int .i64 x0, C.list x1]) [(.int .i64)] fun r7 =>
 let x7 := (getC r7 0).toInt
 let x8 := decide (x7 >= 0)
 some (.ret [C.bool x8])) <|
 some (.ret [C.bool false])) <|
 some (.ret [C.bool false])) <|
 some (.ret [C.bool false])
def t_ci : Tree :=
.call 0 [vI 0, vL 1] [.bool] <|
.letp .not [vB 5] <|
.ite (.v 6) (
 .ret [⟨.bool, (.b false)⟩]) <|
.call 1 [vI 2, vI 3, vL 4] [.bool] <|
.letp .not [vB 7] <|
.ite (.v 8) (
 .ret [⟨.bool, (.b false)⟩]) <|
.letp (.sub .i64) [vI 3, nI 1] <|
.row (.v 1) (.v 9) [kI, kI] <|
.letp .eqI [vI 2, nI 1] <|
.ite (.v 12) (
 .letp .eqI [vI 11, nI 0] <|
 .ite (.v 13) (
 .row (.v 4) (.n 0) [kI] <|
 .call 2 [vI 0, vL 1] [kI] <|
 .letp .leI [vI 14, vI 15] <|
 .ret [vB 16]) <|
 .ret [⟨.bool, (.b false)⟩]) <|
.letp .eqI [vI 2, nI 2] <|
.ite (.v 13) (
 .letp .eqI [vI 11, nI 1] <|
 .ret [vB 14]) <|
.letp .eqI [vI 2, nI 3] <|
.ite (.v 14) (
 .letp .eqI [vI 11, nI 1] <|
 .ite (.v 15) (
 .ret [⟨.bool, (.b true)⟩]) <|
 .letp .eqI [vI 11, nI 0] <|
 .ret [vB 16]) <|
.ret [⟨.bool, (.b false)⟩]
def Φ_ci : Phi := ph [φ_dn, φ_fg, φ_bh]
def φ_ci := mir Φ_ci t_ci
def F_ci (x0 : Int) (x1 : LL) (x2 x3 : Int) (x4 : LL) : Option Out :=
 callD (φ_dn [C.int .i64 x0, C.list x1]) [.bool] fun r5 =>
 let x5 := (getC r5 0).toBool
 let x6 := (!x5)
 iteD x6 (
 some (.ret [C.bool false])) <|
 callD (φ_fg [C.int .i64 x2, C.int .i64 x3, C.list x4]) [.bool] fun r7 =>
 let x7 := (getC r7 0).toBool
 let x8 := (!x7)
 iteD x8 (
 some (.ret [C.bool false])) <|
 let x9 := IntKind.wrap .i64 (x3 - 1)
 rowD (.list x1) (.int .i64 x9) [(.int .i64), (.int .i64)] fun r10 =>
 let x10 := (getC r10 0).toInt
 let x11 := (getC r10 1).toInt
 let x12 := (x2 == 1)
 iteD x12 (
 let x13 := (x11 == 0)
 iteD x13 (
 rowD (.list x4) (.int .i64 0) [(.int .i64)] fun r14 =>
 let x14 := (getC r14 0).toInt
 callD (φ_bh [C.int .i64 x0, C.list x1]) [(.int .i64)] fun r15 =>
 let x15 := (getC r15 0).toInt
 let x16 := decide (x14 <= x15)
 some (.ret [C.bool x16])) <|
 some (.ret [C.bool false])) <|
 let x13 := (x2 == 2)
 iteD x13 (
 let x14 := (x11 == 1)
 some (.ret [C.bool x14])) <|
 let x14 := (x2 == 3)
 iteD x14 (
 let x15 := (x11 == 1)
 iteD x15 (
 some (.ret [C.bool true])) <|
 let x16 := (x11 == 0)
 some (.ret [C.bool x16])) <|
 some (.ret [C.bool false])
def t_aq : Tree :=
.letp .isNil [vL 0] <|
.ite (.v 1) (
 .both (
 .ret [⟨.list, .e⟩]) <|
 .chk (.rowsk [kI, kI]) [vL 0] <|
 .chk .fits [⟨.list, .e⟩, vL 0] <|
 .letp .app [⟨.list, .e⟩, vL 0] <|
 .ret [vL 2]) <|
.chk (.rowsk [kI, kI]) [vL 0] <|
.chk .fits [⟨.list, .e⟩, vL 0] <|
.letp .app [⟨.list, .e⟩, vL 0] <|
.ret [vL 2]
def φ_aq := mir (ph []) t_aq
def F_aq (x0 : LL) : Option Out :=
 let x1 := x0.isEmpty
 iteD x1 (
 bothD (
 some (.ret [C.list ([] : LL)])) <|
 whenD ((x0.all (kindsB [(.int .i64), (.int .i64)]))) <|
 whenD (decide (([] : LL).length + x0.length <= LMAX)) <|
 let x2 := (([] : LL) ++ x0)
 some (.ret [C.list x2])) <|
 whenD ((x0.all (kindsB [(.int .i64), (.int .i64)]))) <|
 whenD (decide (([] : LL).length + x0.length <= LMAX)) <|
 let x2 := (([] : LL) ++ x0)
 some (.ret [C.list x2])
def t_ds : Tree :=
.call 0 [vI 0, vL 1, vI 2, vI 3, vL 4] [.bool] <|
.letp .not [vB 5] <|
.ite (.v 6) (
 .ret [nI 0, ⟨.list, .e⟩, ⟨.bool, (.b false)⟩]) <|
.join [.list] (
 .call 1 [vL 1] [.list] <|
 .jump [vL 7]) <|
.letp (.sub .i64) [vI 3, nI 1] <|
.chk .idx [vI 8, vL 7] <|
.letp .eqI [vI 2, nI 1] <|
.ite (.v 9) (
 .row (.v 4) (.n 0) [kI] <|
 .letp (.setr 0) [vL 7, vI 8, vI 10, nI 1] <|
 .ret [vI 0, vL 11, ⟨.bool, (.b true)⟩]) <|
.letp .eqI [vI 2, nI 2] <|
.ite (.v 10) (
 .letp (.setr 1) [vL 7, vI 8, nI 2] <|
 .ret [vI 0, vL 11, ⟨.bool, (.b true)⟩]) <|
.letp .eqI [vI 2, nI 3] <|
.ite (.v 11) (
 .letp (.setr 1) [vL 7, vI 8, nI 3] <|
 .ret [vI 0, vL 12, ⟨.bool, (.b true)⟩]) <|
.ret [vI 0, vL 7, ⟨.bool, (.b true)⟩]
def Φ_ds : Phi := ph [φ_ci, φ_aq]
def φ_ds := mir Φ_ds t_ds
def J_ds_0 (x0 x2 x3 : Int) (x4 x7 : LL) : Option Out :=
 let x8 := IntKind.wrap .i64 (x3 - 1)
 whenD ((decide ((0 : Int) <= x8) && decide (x8 < (x7.length : Nat)))) <|
 let x9 := (x2 == 1)
 iteD x9 (
 rowD (.list x4) (.int .i64 0) [(.int .i64)] fun r10 =>
 let x10 := (getC r10 0).toInt
 let x11 := (setRow 0 x7 (Int.toNat x8) [C.int .i64 x10, C.int .i64 1])
 some (.ret [C.int .i64 x0, C.list x11, C.bool true])) <|
 let x10 := (x2 == 2)
 iteD x10 (
 let x11 := (setRow 1 x7 (Int.toNat x8) [C.int .i64 2])
 some (.ret [C.int .i64 x0, C.list x11, C.bool true])) <|
 let x11 := (x2 == 3)
 iteD x11 (
 let x12 := (setRow 1 x7 (Int.toNat x8) [C.int .i64 3])
 some (.ret [C.int .i64 x0, C.list x12, C.bool true])) <|
 some (.ret [C.int .i64 x0, C.list x7, C.bool true])
def F_ds (x0 : Int) (x1 : LL) (x2 x3 : Int) (x4 : LL) : Option Out :=
 callD (φ_ci [C.int .i64 x0, C.list x1, C.int .i64 x2, C.int .i64 x3, C.list x4]) [.bool] fun r5 =>
 let x5 := (getC r5 0).toBool
 let x6 := (!x5)
 iteD x6 (
 some (.ret [C.int .i64 0, C.list ([] : LL), C.bool false])) <|
 joinD (
 callD (φ_aq [C.list x1]) [.list] fun r7 =>
 let x7 := (getC r7 0).toList
 some (.jump [C.list x7])) fun ps => J_ds_0 x0 x2 x3 x4 ((getC ps 0).toList)
def t_du : Tree :=
.call 0 [vI 0] [kI, .list, .bool] <|
.iter [vB 4, nI 0, vI 2, vL 3] <|
.ite (.v 5) (
 .letp .len [vL 1] <|
 .letp .ltI [vI 6, vI 9] <|
 .ite (.v 10) (
 .row (.v 1) (.v 6) [kI, kI, .list] <|
 .call 1 [vI 7, vL 8, vI 11, vI 12, vL 13] [kI, .list, .bool] <|
 .letp (.add .i64) [vI 6, nI 1] <|
 .jump [vB 16, vI 17, vI 14, vL 15]) <|
 .up <|
 .ret [vI 7, vL 8, vB 5]) <|
.up <|
.ret [vI 7, vL 8, vB 5]
def Φ_du : Phi := ph [φ_ck, φ_ds]
def φ_du := mir Φ_du t_du
def L_du_0 (x1 : LL) (x5 : Bool) (x6 x7 : Int) (x8 : LL) : Option Out :=
 iteD x5 (
 let x9 : Int := x1.length
 let x10 := decide (x6 < x9)
 iteD x10 (
 rowD (.list x1) (.int .i64 x6) [(.int .i64), (.int .i64), .list] fun r11 =>
 let x11 := (getC r11 0).toInt
 let x12 := (getC r11 1).toInt
 let x13 := (getC r11 2).toList
 callD (φ_ds [C.int .i64 x7, C.list x8, C.int .i64 x11, C.int .i64 x12, C.list x13]) [(.int .i64), .list, .bool] fun r14 =>
 let x14 := (getC r14 0).toInt
 let x15 := (getC r14 1).toList
 let x16 := (getC r14 2).toBool
 let x17 := IntKind.wrap .i64 (x6 + 1)
 some (.jump [C.bool x16, C.int .i64 x17, C.int .i64 x14, C.list x15])) <|
 upD <|
 some (.ret [C.int .i64 x7, C.list x8, C.bool x5])) <|
 upD <|
 some (.ret [C.int .i64 x7, C.list x8, C.bool x5])
def F_du (x0 : Int) (x1 : LL) : Option Out :=
 callD (φ_ck [C.int .i64 x0]) [(.int .i64), .list, .bool] fun r2 =>
 let x2 := (getC r2 0).toInt
 let x3 := (getC r2 1).toList
 let x4 := (getC r2 2).toBool
 iterD (fun ps => L_du_0 x1 ((getC ps 0).toBool) ((getC ps 1).toInt) ((getC ps 2).toInt) ((getC ps 3).toList)) [C.bool x4, C.int .i64 0, C.int .i64 x2, C.list x3]
def t_dg : Tree :=
.call 0 [vI 0] [.bool] <|
.letp .not [vB 5] <|
.ite (.v 6) (
 .ret [⟨.bool, (.b false)⟩]) <|
.call 1 [vL 3, vI 4] [.bool] <|
.letp .not [vB 7] <|
.ite (.v 8) (
 .ret [⟨.bool, (.b false)⟩]) <|
.call 2 [vI 2, vL 3] [kI, .list, .bool] <|
.ret [vB 11]
def Φ_dg : Phi := ph [φ_dv, φ_ey, φ_du]
def φ_dg := mir Φ_dg t_dg
def F_dg (x0 : Int) (x1 : Bool) (x2 : Int) (x3 : LL) (x4 : Int) : Option Out :=
 callD (φ_dv [C.int .i64 x0]) [.bool] fun r5 =>
 let x5 := (getC r5 0).toBool
 let x6 := (!x5)
 iteD x6 (
 some (.ret [C.bool false])) <|
 callD (φ_ey [C.list x3, C.int .i64 x4]) [.bool] fun r7 =>
 let x7 := (getC r7 0).toBool
 let x8 := (!x7)
 iteD x8 (
 some (.ret [C.bool false])) <|
 callD (φ_du [C.int .i64 x2, C.list x3]) [(.int .i64), .list, .bool] fun r9 =>
 let x9 := (getC r9 0).toInt
 let x10 := (getC r9 1).toList
 let x11 := (getC r9 2).toBool
 some (.ret [C.bool x11])
def t_cc : Tree :=
.call 0 [vI 0, vI 1, vI 2, vI 3] [.bool] <|
.letp .not [vB 4] <|
.ret [vB 5]
def Φ_cc : Phi := ph [φ_er]
def φ_cc := mir Φ_cc t_cc
def F_cc (x0 x1 : Int) (x2 x3 : Int) : Option Out :=
 callD (φ_er [C.int .i64 x0, C.int .i64 x1, C.int .i64 x2, C.int .i64 x3]) [.bool] fun r4 =>
 let x4 := (getC r4 0).toBool
 let x5 := (!x4)
 some (.ret [C.bool x5])
def t_ai : Tree :=
.letp .len [vL 0] <|
.iter [nI 0] <|
.letp .ltI [vI 2, vI 1] <|
.ite (.v 3) (
 .row (.v 0) (.v 2) [kI, kI, kI, kI] <|
 .call 0 [vI 4, vI 5, vI 6, vI 7] [.bool] <|
 .ite (.v 8) (
 .up <|
 .ret [vI 2]) <|
 .letp (.add .i64) [vI 2, nI 1] <|
 .jump [vI 9]) <|
.up <|
.ret [⟨kI, (.n (-1))⟩]
def Φ_ai : Phi := ph [φ_cc]
def φ_ai := mir Φ_ai t_ai
def L_ai_0 (x0 : LL) (x1 x2 : Int) : Option Out :=
 let x3 := decide (x2 < x1)
 iteD x3 (
 rowD (.list x0) (.int .i64 x2) [(.int .i64), (.int .i64), (.int .i64), (.int .i64)] fun r4 =>
 let x4 := (getC r4 0).toInt
 let x5 := (getC r4 1).toInt
 let x6 := (getC r4 2).toInt
 let x7 := (getC r4 3).toInt
 callD (φ_cc [C.int .i64 x4, C.int .i64 x5, C.int .i64 x6, C.int .i64 x7]) [.bool] fun r8 =>
 let x8 := (getC r8 0).toBool
 iteD x8 (
 upD <|
 some (.ret [C.int .i64 x2])) <|
 let x9 := IntKind.wrap .i64 (x2 + 1)
 some (.jump [C.int .i64 x9])) <|
 upD <|
 some (.ret [C.int .i64 (-1)])
def F_ai (x0 : LL) : Option Out :=
 let x1 : Int := x0.length
 iterD (fun ps => L_ai_0 x0 x1 ((getC ps 0).toInt)) [C.int .i64 0]
def t_ad : Tree :=
.call 0 [vL 0] [kI] <|
.letp .geI [vI 1, nI 0] <|
.ret [vB 2]
def Φ_ad : Phi := ph [φ_ai]
def φ_ad := mir Φ_ad t_ad
def F_ad (x0 : LL) : Option Out :=
 callD (φ_ai [C.list x0]) [(.int .i64)] fun r1 =>
 let x1 := (getC r1 0).toInt
 let x2 := decide (x1 >= 0)
 some (.ret [C.bool x2])
def t_cy : Tree :=
.call 0 [vB 0, vL 1, vI 2, vL 3] [.bool] <|
.letp .not [vB 6] <|
.ite (.v 7) (
 .ret [⟨.bool, (.b false)⟩]) <|
.letp .len [vL 4] <|
.letp .neI [vI 8, nI 3] <|
.ite (.v 9) (
 .ret [⟨.bool, (.b false)⟩]) <|
.letp .len [vL 5] <|
.letp .gtI [vI 10, nI 14] <|
.ite (.v 11) (
 .ret [⟨.bool, (.b false)⟩]) <|
.letp .len [vL 4] <|
.iter [nI 0] <|
.letp .ltI [vI 13, vI 12] <|
.ite (.v 14) (
 .row (.v 4) (.v 13) [kI, .bool, kI, .list, kI] <|
 .call 1 [vI 15, vB 16, vI 17, vL 18, vI 19] [.bool] <|
 .letp .not [vB 20] <|
 .ite (.v 21) (
 .up <|
 .ret [⟨.bool, (.b false)⟩]) <|
 .letp (.add .i64) [vI 13, nI 1] <|
 .letp .neI [vI 15, vI 22] <|
 .ite (.v 23) (
 .up <|
 .ret [⟨.bool, (.b false)⟩]) <|
 .letp (.add .i64) [vI 13, nI 1] <|
 .jump [vI 24]) <|
.up <|
.call 2 [vL 5] [.bool] <|
.letp .not [vB 15] <|
.ret [vB 16]
def Φ_cy : Phi := ph [φ_es, φ_dg, φ_ad]
def φ_cy := mir Φ_cy t_cy
def L_cy_0 (x4 x5 : LL) (x12 x13 : Int) : Option Out :=
 let x14 := decide (x13 < x12)
 iteD x14 (
 rowD (.list x4) (.int .i64 x13) [(.int .i64), .bool, (.int .i64), .list, (.int .i64)] fun r15 =>
 let x15 := (getC r15 0).toInt
 let x16 := (getC r15 1).toBool
 let x17 := (getC r15 2).toInt
 let x18 := (getC r15 3).toList
 let x19 := (getC r15 4).toInt
 callD (φ_dg [C.int .i64 x15, C.bool x16, C.int .i64 x17, C.list x18, C.int .i64 x19]) [.bool] fun r20 =>
 let x20 := (getC r20 0).toBool
 let x21 := (!x20)
 iteD x21 (
 upD <|
 some (.ret [C.bool false])) <|
 let x22 := IntKind.wrap .i64 (x13 + 1)
 let x23 := (x15 != x22)
 iteD x23 (
 upD <|
 some (.ret [C.bool false])) <|
 let x24 := IntKind.wrap .i64 (x13 + 1)
 some (.jump [C.int .i64 x24])) <|
 upD <|
 callD (φ_ad [C.list x5]) [.bool] fun r15 =>
 let x15 := (getC r15 0).toBool
 let x16 := (!x15)
 some (.ret [C.bool x16])
def F_cy (x0 : Bool) (x1 : LL) (x2 : Int) (x3 x4 x5 : LL) : Option Out :=
 callD (φ_es [C.bool x0, C.list x1, C.int .i64 x2, C.list x3]) [.bool] fun r6 =>
 let x6 := (getC r6 0).toBool
 let x7 := (!x6)
 iteD x7 (
 some (.ret [C.bool false])) <|
 let x8 : Int := x4.length
 let x9 := (x8 != 3)
 iteD x9 (
 some (.ret [C.bool false])) <|
 let x10 : Int := x5.length
 let x11 := decide (x10 > 14)
 iteD x11 (
 some (.ret [C.bool false])) <|
 let x12 : Int := x4.length
 iterD (fun ps => L_cy_0 x4 x5 x12 ((getC ps 0).toInt)) [C.int .i64 0]
def t_bi : Tree :=
.call 0 [vL 2] [.list] <|
.ret [vI 0, vI 1, vL 3]
def Φ_bi : Phi := ph [φ_bc]
def φ_bi := mir Φ_bi t_bi
def F_bi (x0 x1 : Int) (x2 : LL) : Option Out :=
 callD (φ_bc [C.list x2]) [.list] fun r3 =>
 let x3 := (getC r3 0).toList
 some (.ret [C.int .i64 x0, C.int .i64 x1, C.list x3])
def t_bw : Tree :=
.chk .upto [vI 2, vL 0] <|
.letp .take [vL 0, vI 2] <|
.letp .len [vL 4] <|
.iter [nI 0, ⟨.list, .e⟩] <|
.letp .ltI [vI 6, vI 5] <|
.ite (.v 8) (
 .row (.v 4) (.v 6) [kI, kI, .list] <|
 .call 0 [vI 9, vI 10, vL 11] [kI, kI, .list] <|
 .letp (.mkl 3) [vI 12, vI 13, vL 14] <|
 .chk .fits [vL 7, vL 15] <|
 .letp .app [vL 7, vL 15] <|
 .letp (.add .i64) [vI 6, nI 1] <|
 .jump [vI 17, vL 16]) <|
.up <|
.ret [vL 7, vI 3]
def Φ_bw : Phi := ph [φ_bi]
def φ_bw := mir Φ_bw t_bw
def L_bw_0 (x3 : Int) (x4 : LL) (x5 x6 : Int) (x7 : LL) : Option Out :=
 let x8 := decide (x6 < x5)
 iteD x8 (
 rowD (.list x4) (.int .i64 x6) [(.int .i64), (.int .i64), .list] fun r9 =>
 let x9 := (getC r9 0).toInt
 let x10 := (getC r9 1).toInt
 let x11 := (getC r9 2).toList
 callD (φ_bi [C.int .i64 x9, C.int .i64 x10, C.list x11]) [(.int .i64), (.int .i64), .list] fun r12 =>
 let x12 := (getC r12 0).toInt
 let x13 := (getC r12 1).toInt
 let x14 := (getC r12 2).toList
 let x15 := [[C.int .i64 x12, C.int .i64 x13, C.list x14]]
 whenD (decide (x7.length + x15.length <= LMAX)) <|
 let x16 := (x7 ++ x15)
 let x17 := IntKind.wrap .i64 (x6 + 1)
 some (.jump [C.int .i64 x17, C.list x16])) <|
 upD <|
 some (.ret [C.list x7, C.int .i64 x3])
def F_bw (x0 : LL) (x1 x2 x3 : Int) : Option Out :=
 whenD ((decide ((0 : Int) <= x2) && decide (x2 <= (x0.length : Nat)))) <|
 let x4 := (x0.take (Int.toNat x2))
 let x5 : Int := x4.length
 iterD (fun ps => L_bw_0 x3 x4 x5 ((getC ps 0).toInt) ((getC ps 1).toList)) [C.int .i64 0, C.list ([] : LL)]
def t_bn : Tree :=
.letp .len [vL 0] <|
.call 0 [vL 0, vI 1, vI 2, vI 1] [.list, kI] <|
.ret [vL 3, vI 4]
def Φ_bn : Phi := ph [φ_bw]
def φ_bn := mir Φ_bn t_bn
def F_bn (x0 : LL) (x1 : Int) : Option Out :=
 let x2 : Int := x0.length
 callD (φ_bw [C.list x0, C.int .i64 x1, C.int .i64 x2, C.int .i64 x1]) [.list, (.int .i64)] fun r3 =>
 let x3 := (getC r3 0).toList
 let x4 := (getC r3 1).toInt
 some (.ret [C.list x3, C.int .i64 x4])
def t_as : Tree :=
.letp .isNil [vL 0] <|
.ite (.v 1) (
 .both (
 .ret [⟨.list, .e⟩]) <|
 .chk (.rowsk [kI, kI, kI, kI]) [vL 0] <|
 .chk .fits [⟨.list, .e⟩, vL 0] <|
 .letp .app [⟨.list, .e⟩, vL 0] <|
 .ret [vL 2]) <|
.chk (.rowsk [kI, kI, kI, kI]) [vL 0] <|
.chk .fits [⟨.list, .e⟩, vL 0] <|
.letp .app [⟨.list, .e⟩, vL 0] <|
.ret [vL 2]
def φ_as := mir (ph []) t_as
def F_as (x0 : LL) : Option Out :=
 let x1 := x0.isEmpty
 iteD x1 (
 bothD (
 some (.ret [C.list ([] : LL)])) <|
 whenD ((x0.all (kindsB [(.int .i64), (.int .i64), (.int .i64), (.int .i64)]))) <|
 whenD (decide (([] : LL).length + x0.length <= LMAX)) <|
 let x2 := (([] : LL) ++ x0)
 some (.ret [C.list x2])) <|
 whenD ((x0.all (kindsB [(.int .i64), (.int .i64), (.int .i64), (.int .i64)]))) <|
 whenD (decide (([] : LL).length + x0.length <= LMAX)) <|
 let x2 := (([] : LL) ++ x0)
 some (.ret [C.list x2])
def t_bb : Tree :=
.call 0 [vL 1, vI 2] [.list, kI] <|
.call 1 [vL 3] [.list] <|
.ret [vB 0, vL 4, vI 5, vL 6]
def Φ_bb : Phi := ph [φ_bn, φ_as]
def φ_bb := mir Φ_bb t_bb
def F_bb (x0 : Bool) (x1 : LL) (x2 : Int) (x3 : LL) : Option Out :=
 callD (φ_bn [C.list x1, C.int .i64 x2]) [.list, (.int .i64)] fun r4 =>
 let x4 := (getC r4 0).toList
 let x5 := (getC r4 1).toInt
 callD (φ_as [C.list x3]) [.list] fun r6 =>
 let x6 := (getC r6 0).toList
 some (.ret [C.bool x0, C.list x4, C.int .i64 x5, C.list x6])
def t_az : Tree :=
.call 0 [vL 3, vI 4] [.list, kI] <|
.ret [vI 0, vB 1, vI 2, vL 5, vI 6]
def Φ_az : Phi := ph [φ_bn]
def φ_az := mir Φ_az t_az
def F_az (x0 : Int) (x1 : Bool) (x2 : Int) (x3 : LL) (x4 : Int) : Option Out :=
 callD (φ_bn [C.list x3, C.int .i64 x4]) [.list, (.int .i64)] fun r5 =>
 let x5 := (getC r5 0).toList
 let x6 := (getC r5 1).toInt
 some (.ret [C.int .i64 x0, C.bool x1, C.int .i64 x2, C.list x5, C.int .i64 x6])
def t_ay : Tree :=
.join [.bool, .list, kI, .list, .list] (
 .call 0 [vB 0, vL 1, vI 2, vL 3] [.bool, .list, kI, .list] <|
 .call 1 [vL 5] [.list] <|
 .jump [vB 6, vL 7, vI 8, vL 9, vL 10]) <|
.letp .len [vL 4] <|
.iter [nI 0, ⟨.list, .e⟩] <|
.letp .ltI [vI 12, vI 11] <|
.ite (.v 14) (
 .row (.v 4) (.v 12) [kI, .bool, kI, .list, kI] <|
 .call 2 [vI 15, vB 16, vI 17, vL 18, vI 19] [kI, .bool, kI, .list, kI] <|
 .letp (.mkl 5) [vI 20, vB 21, vI 22, vL 23, vI 24] <|
 .chk .fits [vL 13, vL 25] <|
 .letp .app [vL 13, vL 25] <|
 .letp (.add .i64) [vI 12, nI 1] <|
 .jump [vI 27, vL 26]) <|
.up <|
.ret [vB 6, vL 7, vI 8, vL 9, vL 13, vL 10]
def Φ_ay : Phi := ph [φ_bb, φ_as, φ_az]
def φ_ay := mir Φ_ay t_ay
def L_ay_0 (x4 : LL) (x6 : Bool) (x7 : LL) (x8 : Int) (x9 x10 : LL) (x11 x12 : Int) (x13 : LL) : Option Out :=
 let x14 := decide (x12 < x11)
 iteD x14 (
 rowD (.list x4) (.int .i64 x12) [(.int .i64), .bool, (.int .i64), .list, (.int .i64)] fun r15 =>
 let x15 := (getC r15 0).toInt
 let x16 := (getC r15 1).toBool
 let x17 := (getC r15 2).toInt
 let x18 := (getC r15 3).toList
 let x19 := (getC r15 4).toInt
 callD (φ_az [C.int .i64 x15, C.bool x16, C.int .i64 x17, C.list x18, C.int .i64 x19]) [(.int .i64), .bool, (.int .i64), .list, (.int .i64)] fun r20 =>
 let x20 := (getC r20 0).toInt
 let x21 := (getC r20 1).toBool
 let x22 := (getC r20 2).toInt
 let x23 := (getC r20 3).toList
 let x24 := (getC r20 4).toInt
 let x25 := [[C.int .i64 x20, C.bool x21, C.int .i64 x22, C.list x23, C.int .i64 x24]]
 whenD (decide (x13.length + x25.length <= LMAX)) <|
 let x26 := (x13 ++ x25)
 let x27 := IntKind.wrap .i64 (x12 + 1)
 some (.jump [C.int .i64 x27, C.list x26])) <|
 upD <|
 some (.ret [C.bool x6, C.list x7, C.int .i64 x8, C.list x9, C.list x13, C.list x10])
def J_ay_1 (x4 : LL) (x6 : Bool) (x7 : LL) (x8 : Int) (x9 x10 : LL) : Option Out :=
 let x11 : Int := x4.length
 iterD (fun ps => L_ay_0 x4 x6 x7 x8 x9 x10 x11 ((getC ps 0).toInt) ((getC ps 1).toList)) [C.int .i64 0, C.list ([] : LL)]
def F_ay (x0 : Bool) (x1 : LL) (x2 : Int) (x3 x4 x5 : LL) : Option Out :=
 joinD (
 callD (φ_bb [C.bool x0, C.list x1, C.int .i64 x2, C.list x3]) [.bool, .list, (.int .i64), .list] fun r6 =>
 let x6 := (getC r6 0).toBool
 let x7 := (getC r6 1).toList
 let x8 := (getC r6 2).toInt
 let x9 := (getC r6 3).toList
 callD (φ_as [C.list x5]) [.list] fun r10 =>
 let x10 := (getC r10 0).toList
 some (.jump [C.bool x6, C.list x7, C.int .i64 x8, C.list x9, C.list x10])) fun ps => J_ay_1 x4 ((getC ps 0).toBool) ((getC ps 1).toList) ((getC ps 2).toInt) ((getC ps 3).toList) ((getC ps 4).toList)
def t_ch : Tree :=
.call 0 [vL 0, vI 1] [.bool] <|
.letp .not [vB 2] <|
.ite (.v 3) (
 .ret [⟨.list, .e⟩, nI 0]) <|
.letp .len [vL 0] <|
.letp .len [vL 0] <|
.call 1 [vL 0, vI 1, vI 4, vI 5] [.list, kI] <|
.ret [vL 6, vI 7]
def Φ_ch : Phi := ph [φ_ey, φ_bw]
def φ_ch := mir Φ_ch t_ch
def F_ch (x0 : LL) (x1 : Int) : Option Out :=
 callD (φ_ey [C.list x0, C.int .i64 x1]) [.bool] fun r2 =>
 let x2 := (getC r2 0).toBool
 let x3 := (!x2)
 iteD x3 (
 some (.ret [C.list ([] : LL), C.int .i64 0])) <|
 let x4 : Int := x0.length
 let x5 : Int := x0.length
 callD (φ_bw [C.list x0, C.int .i64 x1, C.int .i64 x4, C.int .i64 x5]) [.list, (.int .i64)] fun r6 =>
 let x6 := (getC r6 0).toList
 let x7 := (getC r6 1).toInt
 some (.ret [C.list x6, C.int .i64 x7])
def t_bs : Tree :=
.call 0 [vB 0, vL 1, vI 2, vL 3] [.bool] <|
.letp .not [vB 4] <|
.ite (.v 5) (
 .ret [⟨.bool, (.b false)⟩, ⟨.list, .e⟩, nI 0, ⟨.list, .e⟩]) <|
.call 1 [vB 0, vL 1, vI 2, vL 3] [.bool, .list, kI, .list] <|
.ite (.v 6) (
 .call 2 [vL 7, vI 8] [.list, kI] <|
 .ret [vB 6, vL 10, vI 11, vL 9]) <|
.ret [vB 6, vL 7, vI 8, vL 9]
def Φ_bs : Phi := ph [φ_es, φ_bb, φ_ch]
def φ_bs := mir Φ_bs t_bs
def F_bs (x0 : Bool) (x1 : LL) (x2 : Int) (x3 : LL) : Option Out :=
 callD (φ_es [C.bool x0, C.list x1, C.int .i64 x2, C.list x3]) [.bool] fun r4 =>
 let x4 := (getC r4 0).toBool
 let x5 := (!x4)
 iteD x5 (
 some (.ret [C.bool false, C.list ([] : LL), C.int .i64 0, C.list ([] : LL)])) <|
 callD (φ_bb [C.bool x0, C.list x1, C.int .i64 x2, C.list x3]) [.bool, .list, (.int .i64), .list] fun r6 =>
 let x6 := (getC r6 0).toBool
 let x7 := (getC r6 1).toList
 let x8 := (getC r6 2).toInt
 let x9 := (getC r6 3).toList
 iteD x6 (
 callD (φ_ch [C.list x7, C.int .i64 x8]) [.list, (.int .i64)] fun r10 =>
 let x10 := (getC r10 0).toList
 let x11 := (getC r10 1).toInt
 some (.ret [C.bool x6, C.list x10, C.int .i64 x11, C.list x9])) <|
 some (.ret [C.bool x6, C.list x7, C.int .i64 x8, C.list x9])
def t_bk : Tree :=
.call 0 [vI 0, vB 1, vI 2, vL 3, vI 4] [.bool] <|
.letp .not [vB 5] <|
.ite (.v 6) (
 .ret [nI 0, ⟨.bool, (.b false)⟩, nI 0, ⟨.list, .e⟩, nI 0]) <|
.call 1 [vI 0, vB 1, vI 2, vL 3, vI 4] [kI, .bool, kI, .list, kI] <|
.ite (.v 8) (
 .call 2 [vL 10, vI 11] [.list, kI] <|
 .ret [vI 7, vB 8, vI 9, vL 12, vI 13]) <|
.ret [vI 7, vB 8, vI 9, vL 10, vI 11]
def Φ_bk : Phi := ph [φ_dg, φ_az, φ_ch]
def φ_bk := mir Φ_bk t_bk
def F_bk (x0 : Int) (x1 : Bool) (x2 : Int) (x3 : LL) (x4 : Int) : Option Out :=
 callD (φ_dg [C.int .i64 x0, C.bool x1, C.int .i64 x2, C.list x3, C.int .i64 x4]) [.bool] fun r5 =>
 let x5 := (getC r5 0).toBool
 let x6 := (!x5)
 iteD x6 (
 some (.ret [C.int .i64 0, C.bool false, C.int .i64 0, C.list ([] : LL), C.int .i64 0])) <|
 callD (φ_az [C.int .i64 x0, C.bool x1, C.int .i64 x2, C.list x3, C.int .i64 x4]) [(.int .i64), .bool, (.int .i64), .list, (.int .i64)] fun r7 =>
 let x7 := (getC r7 0).toInt
 let x8 := (getC r7 1).toBool
 let x9 := (getC r7 2).toInt
 let x10 := (getC r7 3).toList
 let x11 := (getC r7 4).toInt
 iteD x8 (
 callD (φ_ch [C.list x10, C.int .i64 x11]) [.list, (.int .i64)] fun r12 =>
 let x12 := (getC r12 0).toList
 let x13 := (getC r12 1).toInt
 some (.ret [C.int .i64 x7, C.bool x8, C.int .i64 x9, C.list x12, C.int .i64 x13])) <|
 some (.ret [C.int .i64 x7, C.bool x8, C.int .i64 x9, C.list x10, C.int .i64 x11])
def t_aa : Tree :=
.letp .eqI [vI 6, nI 0] <|
.ite (.v 7) (
 .call 1 [vB 0, vL 1, vI 2, vL 3] [.bool, .list, kI, .list] <|
 .ret [vB 8, vL 9, vI 10, vL 11, vL 4, vL 5]) <|
.call 0 [vI 6] [.bool] <|
.ite (.v 8) (
 .letp (.sub .i64) [vI 6, nI 1] <|
 .letp (.sub .i64) [vI 6, nI 1] <|
 .chk .idx [vI 10, vL 4] <|
 .row (.v 4) (.v 10) [kI, .bool, kI, .list, kI] <|
 .call 2 [vI 11, vB 12, vI 13, vL 14, vI 15] [kI, .bool, kI, .list, kI] <|
 .chk .idx [vI 9, vL 4] <|
 .letp (.setr 0) [vL 4, vI 9, vI 16, vB 17, vI 18, vL 19, vI 20] <|
 .ret [vB 0, vL 1, vI 2, vL 3, vL 21, vL 5]) <|
.ret [vB 0, vL 1, vI 2, vL 3, vL 4, vL 5]
def Φ_aa : Phi := ph [φ_dv, φ_bs, φ_bk]
def φ_aa := mir Φ_aa t_aa
def F_aa (x0 : Bool) (x1 : LL) (x2 : Int) (x3 x4 x5 : LL) (x6 : Int) : Option Out :=
 let x7 := (x6 == 0)
 iteD x7 (
 callD (φ_bs [C.bool x0, C.list x1, C.int .i64 x2, C.list x3]) [.bool, .list, (.int .i64), .list] fun r8 =>
 let x8 := (getC r8 0).toBool
 let x9 := (getC r8 1).toList
 let x10 := (getC r8 2).toInt
 let x11 := (getC r8 3).toList
 some (.ret [C.bool x8, C.list x9, C.int .i64 x10, C.list x11, C.list x4, C.list x5])) <|
 callD (φ_dv [C.int .i64 x6]) [.bool] fun r8 =>
 let x8 := (getC r8 0).toBool
 iteD x8 (
 let x9 := IntKind.wrap .i64 (x6 - 1)
 let x10 := IntKind.wrap .i64 (x6 - 1)
 whenD ((decide ((0 : Int) <= x10) && decide (x10 < (x4.length : Nat)))) <|
 rowD (.list x4) (.int .i64 x10) [(.int .i64), .bool, (.int .i64), .list, (.int .i64)] fun r11 =>
 let x11 := (getC r11 0).toInt
 let x12 := (getC r11 1).toBool
 let x13 := (getC r11 2).toInt
 let x14 := (getC r11 3).toList
 let x15 := (getC r11 4).toInt
 callD (φ_bk [C.int .i64 x11, C.bool x12, C.int .i64 x13, C.list x14, C.int .i64 x15]) [(.int .i64), .bool, (.int .i64), .list, (.int .i64)] fun r16 =>
 let x16 := (getC r16 0).toInt
 let x17 := (getC r16 1).toBool
 let x18 := (getC r16 2).toInt
 let x19 := (getC r16 3).toList
 let x20 := (getC r16 4).toInt
 whenD ((decide ((0 : Int) <= x9) && decide (x9 < (x4.length : Nat)))) <|
 let x21 := (setRow 0 x4 (Int.toNat x9) [C.int .i64 x16, C.bool x17, C.int .i64 x18, C.list x19, C.int .i64 x20])
 some (.ret [C.bool x0, C.list x1, C.int .i64 x2, C.list x3, C.list x21, C.list x5])) <|
 some (.ret [C.bool x0, C.list x1, C.int .i64 x2, C.list x3, C.list x4, C.list x5])
def t_cw : Tree :=
.call 0 [vB 0, vL 1, vI 2, vL 3] [.bool] <|
.letp .not [vB 4] <|
.ite (.v 5) (
 .ret [⟨.bool, (.b false)⟩, ⟨.list, .e⟩, nI 0, ⟨.list, .e⟩]) <|
.call 1 [vB 0, vL 1, vI 2, vL 3] [.bool, .list, kI, .list] <|
.ret [⟨.bool, (.b true)⟩, vL 7, vI 8, vL 9]
def Φ_cw : Phi := ph [φ_es, φ_bb]
def φ_cw := mir Φ_cw t_cw
def F_cw (x0 : Bool) (x1 : LL) (x2 : Int) (x3 : LL) : Option Out :=
 callD (φ_es [C.bool x0, C.list x1, C.int .i64 x2, C.list x3]) [.bool] fun r4 =>
 let x4 := (getC r4 0).toBool
 let x5 := (!x4)
 iteD x5 (
 some (.ret [C.bool false, C.list ([] : LL), C.int .i64 0, C.list ([] : LL)])) <|
 callD (φ_bb [C.bool x0, C.list x1, C.int .i64 x2, C.list x3]) [.bool, .list, (.int .i64), .list] fun r6 =>
 let x6 := (getC r6 0).toBool
 let x7 := (getC r6 1).toList
 let x8 := (getC r6 2).toInt
 let x9 := (getC r6 3).toList
 some (.ret [C.bool true, C.list x7, C.int .i64 x8, C.list x9])
def t_bu : Tree :=
.call 0 [vI 0, vB 1, vI 2, vL 3, vI 4] [.bool] <|
.letp .not [vB 5] <|
.ite (.v 6) (
 .ret [nI 0, ⟨.bool, (.b false)⟩, nI 0, ⟨.list, .e⟩, nI 0]) <|
.call 1 [vI 0, vB 1, vI 2, vL 3, vI 4] [kI, .bool, kI, .list, kI] <|
.ret [vI 7, ⟨.bool, (.b true)⟩, vI 9, vL 10, vI 11]
def Φ_bu : Phi := ph [φ_dg, φ_az]
def φ_bu := mir Φ_bu t_bu
def F_bu (x0 : Int) (x1 : Bool) (x2 : Int) (x3 : LL) (x4 : Int) : Option Out :=
 callD (φ_dg [C.int .i64 x0, C.bool x1, C.int .i64 x2, C.list x3, C.int .i64 x4]) [.bool] fun r5 =>
 let x5 := (getC r5 0).toBool
 let x6 := (!x5)
 iteD x6 (
 some (.ret [C.int .i64 0, C.bool false, C.int .i64 0, C.list ([] : LL), C.int .i64 0])) <|
 callD (φ_az [C.int .i64 x0, C.bool x1, C.int .i64 x2, C.list x3, C.int .i64 x4]) [(.int .i64), .bool, (.int .i64), .list, (.int .i64)] fun r7 =>
 let x7 := (getC r7 0).toInt
 let x8 := (getC r7 1).toBool
 let x9 := (getC r7 2).toInt
 let x10 := (getC r7 3).toList
 let x11 := (getC r7 4).toInt
 some (.ret [C.int .i64 x7, C.bool true, C.int .i64 x9, C.list x10, C.int .i64 x11])
def t_ac : Tree :=
.letp .eqI [vI 6, nI 0] <|
.ite (.v 7) (
 .call 1 [vB 0, vL 1, vI 2, vL 3] [.bool, .list, kI, .list] <|
 .ret [vB 8, vL 9, vI 10, vL 11, vL 4, vL 5]) <|
.call 0 [vI 6] [.bool] <|
.ite (.v 8) (
 .letp (.sub .i64) [vI 6, nI 1] <|
 .letp (.sub .i64) [vI 6, nI 1] <|
 .chk .idx [vI 10, vL 4] <|
 .row (.v 4) (.v 10) [kI, .bool, kI, .list, kI] <|
 .call 2 [vI 11, vB 12, vI 13, vL 14, vI 15] [kI, .bool, kI, .list, kI] <|
 .chk .idx [vI 9, vL 4] <|
 .letp (.setr 0) [vL 4, vI 9, vI 16, vB 17, vI 18, vL 19, vI 20] <|
 .ret [vB 0, vL 1, vI 2, vL 3, vL 21, vL 5]) <|
.ret [vB 0, vL 1, vI 2, vL 3, vL 4, vL 5]
def Φ_ac : Phi := ph [φ_dv, φ_cw, φ_bu]
def φ_ac := mir Φ_ac t_ac
def F_ac (x0 : Bool) (x1 : LL) (x2 : Int) (x3 x4 x5 : LL) (x6 : Int) : Option Out :=
 let x7 := (x6 == 0)
 iteD x7 (
 callD (φ_cw [C.bool x0, C.list x1, C.int .i64 x2, C.list x3]) [.bool, .list, (.int .i64), .list] fun r8 =>
 let x8 := (getC r8 0).toBool
 let x9 := (getC r8 1).toList
 let x10 := (getC r8 2).toInt
 let x11 := (getC r8 3).toList
 some (.ret [C.bool x8, C.list x9, C.int .i64 x10, C.list x11, C.list x4, C.list x5])) <|
 callD (φ_dv [C.int .i64 x6]) [.bool] fun r8 =>
 let x8 := (getC r8 0).toBool
 iteD x8 (
 let x9 := IntKind.wrap .i64 (x6 - 1)
 let x10 := IntKind.wrap .i64 (x6 - 1)
 whenD ((decide ((0 : Int) <= x10) && decide (x10 < (x4.length : Nat)))) <|
 rowD (.list x4) (.int .i64 x10) [(.int .i64), .bool, (.int .i64), .list, (.int .i64)] fun r11 =>
 let x11 := (getC r11 0).toInt
 let x12 := (getC r11 1).toBool
 let x13 := (getC r11 2).toInt
 let x14 := (getC r11 3).toList
 let x15 := (getC r11 4).toInt
 callD (φ_bu [C.int .i64 x11, C.bool x12, C.int .i64 x13, C.list x14, C.int .i64 x15]) [(.int .i64), .bool, (.int .i64), .list, (.int .i64)] fun r16 =>
 let x16 := (getC r16 0).toInt
 let x17 := (getC r16 1).toBool
 let x18 := (getC r16 2).toInt
 let x19 := (getC r16 3).toList
 let x20 := (getC r16 4).toInt
 whenD ((decide ((0 : Int) <= x9) && decide (x9 < (x4.length : Nat)))) <|
 let x21 := (setRow 0 x4 (Int.toNat x9) [C.int .i64 x16, C.bool x17, C.int .i64 x18, C.list x19, C.int .i64 x20])
 some (.ret [C.bool x0, C.list x1, C.int .i64 x2, C.list x3, C.list x21, C.list x5])) <|
 some (.ret [C.bool x0, C.list x1, C.int .i64 x2, C.list x3, C.list x4, C.list x5])
def t_cb : Tree :=
.ite (.v 2) (
 .chk .upto [vI 1, vL 0] <|
 .letp .take [vL 0, vI 1] <|
 .ret [vL 3]) <|
.ret [vL 0]
def φ_cb := mir (ph []) t_cb
def F_cb (x0 : LL) (x1 : Int) (x2 : Bool) : Option Out :=
 iteD x2 (
 whenD ((decide ((0 : Int) <= x1) && decide (x1 <= (x0.length : Nat)))) <|
 let x3 := (x0.take (Int.toNat x1))
 some (.ret [C.list x3])) <|
 some (.ret [C.list x0])
def t_bp : Tree :=
.call 0 [vL 1, vI 2, vB 4] [.list] <|
.call 1 [vL 5] [.list, .bool] <|
.ret [vL 6]
def Φ_bp : Phi := ph [φ_cb, φ_eb]
def φ_bp := mir Φ_bp t_bp
def F_bp (x0 : Bool) (x1 : LL) (x2 : Int) (x3 : LL) (x4 : Bool) : Option Out :=
 callD (φ_cb [C.list x1, C.int .i64 x2, C.bool x4]) [.list] fun r5 =>
 let x5 := (getC r5 0).toList
 callD (φ_eb [C.list x5]) [.list, .bool] fun r6 =>
 let x6 := (getC r6 0).toList
 let x7 := (getC r6 1).toBool
 some (.ret [C.list x6])
def t_ce : Tree :=
.call 0 [vL 3, vI 4, vI 5, vI 6, nI 0] [.bool] <|
.ret [vB 7]
def Φ_ce : Phi := ph [φ_ao]
def φ_ce := mir Φ_ce t_ce
def F_ce (x0 : Bool) (x1 : LL) (x2 : Int) (x3 : LL) (x4 x5 x6 : Int) : Option Out :=
 callD (φ_ao [C.list x3, C.int .i64 x4, C.int .i64 x5, C.int .i64 x6, C.int .i64 0]) [.bool] fun r7 =>
 let x7 := (getC r7 0).toBool
 some (.ret [C.bool x7])
def t_bg : Tree :=
.letp .not [vB 0] <|
.ite (.v 4) (
 .ret [⟨.list, .e⟩]) <|
.call 0 [vB 0, vL 1, vI 2, vL 3, ⟨.bool, (.b true)⟩] [.list] <|
.letp .len [vL 5] <|
.iter [nI 0, ⟨.list, .e⟩] <|
.letp .ltI [vI 7, vI 6] <|
.ite (.v 9) (
 .row (.v 5) (.v 7) [.list, kI] <|
 .letp (.tab [(1, 1), (2, 2), (3, 3)]) [vI 11] <|
 .letp (.tab [(1, 4), (2, 6), (3, 7)]) [vI 11] <|
 .letp (.has [1, 2, 3]) [vI 11] <|
 .letp .len [vL 10] <|
 .iter [nI 0, vL 8] <|
 .letp .ltI [vI 16, vI 15] <|
 .ite (.v 18) (
 .row (.v 10) (.v 16) [kI] <|
 .letp .not [vB 14] <|
 .ite (.v 20) (
 .letp (.add .i64) [vI 16, nI 1] <|
 .jump [vI 21, vL 17]) <|
 .letp .eqI [vI 19, nI 0] <|
 .ite (.v 21) (
 .letp (.add .i64) [vI 16, nI 1] <|
 .jump [vI 22, vL 17]) <|
 .letp (.add .i64) [vI 16, nI 1] <|
 .letp (.add .i64) [vI 7, nI 1] <|
 .call 1 [vB 0, vL 1, vI 2, vL 3, vI 13, vI 22, vI 23] [.bool] <|
 .ite (.v 24) (
 .letp (.add .i64) [vI 16, nI 1] <|
 .jump [vI 25, vL 17]) <|
 .letp (.add .i64) [vI 16, nI 1] <|
 .letp (.add .i64) [vI 7, nI 1] <|
 .letp .eqI [vI 12, nI 1] <|
 .ite (.v 27) (
 .letp (.mkl 4) [vI 12, vI 25, vI 26, vI 19] <|
 .chk .fits [vL 17, vL 28] <|
 .letp .app [vL 17, vL 28] <|
 .letp (.add .i64) [vI 16, nI 1] <|
 .jump [vI 30, vL 29]) <|
 .letp (.mkl 4) [vI 12, vI 25, vI 26, nI 0] <|
 .chk .fits [vL 17, vL 28] <|
 .letp .app [vL 17, vL 28] <|
 .letp (.add .i64) [vI 16, nI 1] <|
 .jump [vI 30, vL 29]) <|
 .up <|
 .letp (.add .i64) [vI 7, nI 1] <|
 .jump [vI 19, vL 17]) <|
.up <|
.ret [vL 8]
def Φ_bg : Phi := ph [φ_bp, φ_ce]
def φ_bg := mir Φ_bg t_bg
def L_bg_0 (x0 : Bool) (x1 : LL) (x2 : Int) (x3 : LL) (x7 : Int) (x10 : LL) (x12 x13 : Int) (x14 : Bool) (x15 x16 : Int) (x17 : LL) : Option Out :=
 let x18 := decide (x16 < x15)
 iteD x18 (
 rowD (.list x10) (.int .i64 x16) [(.int .i64)] fun r19 =>
 let x19 := (getC r19 0).toInt
 let x20 := (!x14)
 iteD x20 (
 let x21 := IntKind.wrap .i64 (x16 + 1)
 some (.jump [C.int .i64 x21, C.list x17])) <|
 let x21 := (x19 == 0)
 iteD x21 (
 let x22 := IntKind.wrap .i64 (x16 + 1)
 some (.jump [C.int .i64 x22, C.list x17])) <|
 let x22 := IntKind.wrap .i64 (x16 + 1)
 let x23 := IntKind.wrap .i64 (x7 + 1)
 callD (φ_ce [C.bool x0, C.list x1, C.int .i64 x2, C.list x3, C.int .i64 x13, C.int .i64 x22, C.int .i64 x23]) [.bool] fun r24 =>
 let x24 := (getC r24 0).toBool
 iteD x24 (
 let x25 := IntKind.wrap .i64 (x16 + 1)
 some (.jump [C.int .i64 x25, C.list x17])) <|
 let x25 := IntKind.wrap .i64 (x16 + 1)
 let x26 := IntKind.wrap .i64 (x7 + 1)
 let x27 := (x12 == 1)
 iteD x27 (
 let x28 := [[C.int .i64 x12, C.int .i64 x25, C.int .i64 x26, C.int .i64 x19]]
 whenD (decide (x17.length + x28.length <= LMAX)) <|
 let x29 := (x17 ++ x28)
 let x30 := IntKind.wrap .i64 (x16 + 1)
 some (.jump [C.int .i64 x30, C.list x29])) <|
 let x28 := [[C.int .i64 x12, C.int .i64 x25, C.int .i64 x26, C.int .i64 0]]
 whenD (decide (x17.length + x28.length <= LMAX)) <|
 let x29 := (x17 ++ x28)
 let x30 := IntKind.wrap .i64 (x16 + 1)
 some (.jump [C.int .i64 x30, C.list x29])) <|
 upD <|
 let x19 := IntKind.wrap .i64 (x7 + 1)
 some (.jump [C.int .i64 x19, C.list x17])
def L_bg_1 (x0 : Bool) (x1 : LL) (x2 : Int) (x3 x5 : LL) (x6 x7 : Int) (x8 : LL) : Option Out :=
 let x9 := decide (x7 < x6)
 iteD x9 (
 rowD (.list x5) (.int .i64 x7) [.list, (.int .i64)] fun r10 =>
 let x10 := (getC r10 0).toList
 let x11 := (getC r10 1).toInt
 let x12 : Int := (lookI [(1, 1), (2, 2), (3, 3)] x11)
 let x13 : Int := (lookI [(1, 4), (2, 6), (3, 7)] x11)
 let x14 := (([1, 2, 3] : List Int).any fun k => x11 == k)
 let x15 : Int := x10.length
 iterD (fun ps => L_bg_0 x0 x1 x2 x3 x7 x10 x12 x13 x14 x15 ((getC ps 0).toInt) ((getC ps 1).toList)) [C.int .i64 0, C.list x8]) <|
 upD <|
 some (.ret [C.list x8])
def F_bg (x0 : Bool) (x1 : LL) (x2 : Int) (x3 : LL) : Option Out :=
 let x4 := (!x0)
 iteD x4 (
 some (.ret [C.list ([] : LL)])) <|
 callD (φ_bp [C.bool x0, C.list x1, C.int .i64 x2, C.list x3, C.bool true]) [.list] fun r5 =>
 let x5 := (getC r5 0).toList
 let x6 : Int := x5.length
 iterD (fun ps => L_bg_1 x0 x1 x2 x3 x5 x6 ((getC ps 0).toInt) ((getC ps 1).toList)) [C.int .i64 0, C.list ([] : LL)]
def t_ap : Tree :=
.letp .len [vL 0] <|
.iter [nI 0, nI 0] <|
.letp .ltI [vI 3, vI 1] <|
.ite (.v 4) (
 .row (.v 0) (.v 3) [.list] <|
 .letp .len [vL 5] <|
 .letp (.add .i64) [vI 2, vI 6] <|
 .letp .ltI [vI 7, nI 0] <|
 .ite (.v 8) (
 .fail) <|
 .letp (.add .i64) [vI 3, nI 1] <|
 .jump [vI 7, vI 9]) <|
.up <|
.call 0 [⟨.list, .e⟩, vI 2] [.list] <|
.letp .len [vL 0] <|
.iter [nI 0, vL 5] <|
.letp .ltI [vI 7, vI 6] <|
.ite (.v 9) (
 .row (.v 0) (.v 7) [.list] <|
 .chk (.rowsk [kI, kI, kI, kI]) [vL 10] <|
 .chk .fits [vL 8, vL 10] <|
 .letp .app [vL 8, vL 10] <|
 .letp (.add .i64) [vI 7, nI 1] <|
 .jump [vI 12, vL 11]) <|
.up <|
.ret [vL 8]
def Φ_ap : Phi := ph [φ_at]
def φ_ap := mir Φ_ap t_ap
def L_ap_0 (x0 : LL) (x6 x7 : Int) (x8 : LL) : Option Out :=
 let x9 := decide (x7 < x6)
 iteD x9 (
 rowD (.list x0) (.int .i64 x7) [.list] fun r10 =>
 let x10 := (getC r10 0).toList
 whenD ((x10.all (kindsB [(.int .i64), (.int .i64), (.int .i64), (.int .i64)]))) <|
 whenD (decide (x8.length + x10.length <= LMAX)) <|
 let x11 := (x8 ++ x10)
 let x12 := IntKind.wrap .i64 (x7 + 1)
 some (.jump [C.int .i64 x12, C.list x11])) <|
 upD <|
 some (.ret [C.list x8])
def L_ap_1 (x0 : LL) (x1 x2 x3 : Int) : Option Out :=
 let x4 := decide (x3 < x1)
 iteD x4 (
 rowD (.list x0) (.int .i64 x3) [.list] fun r5 =>
 let x5 := (getC r5 0).toList
 let x6 : Int := x5.length
 let x7 := IntKind.wrap .i64 (x2 + x6)
 let x8 := decide (x7 < 0)
 iteD x8 (
 none) <|
 let x9 := IntKind.wrap .i64 (x3 + 1)
 some (.jump [C.int .i64 x7, C.int .i64 x9])) <|
 upD <|
 callD (φ_at [C.list ([] : LL), C.int .i64 x2]) [.list] fun r5 =>
 let x5 := (getC r5 0).toList
 let x6 : Int := x0.length
 iterD (fun ps => L_ap_0 x0 x6 ((getC ps 0).toInt) ((getC ps 1).toList)) [C.int .i64 0, C.list x5]
def F_ap (x0 : LL) : Option Out :=
 let x1 : Int := x0.length
 iterD (fun ps => L_ap_1 x0 x1 ((getC ps 0).toInt) ((getC ps 1).toInt)) [C.int .i64 0, C.int .i64 0]
def t_bm : Tree :=
.letp .len [vL 6] <|
.iter [⟨.bool, (.b false)⟩, ⟨.bool, (.b true)⟩, nI 0] <|
.letp .ltI [vI 10, vI 7] <|
.ite (.v 11) (
 .row (.v 6) (.v 10) [kI] <|
 .letp .eqI [vI 12, nI 0] <|
 .ite (.v 13) (
 .letp (.add .i64) [vI 10, nI 1] <|
 .jump [vB 8, vB 9, vI 14]) <|
 .letp (.add .i64) [vI 10, nI 1] <|
 .call 0 [vB 0, vL 1, vI 2, vL 3, vI 4, vI 14, vI 5] [.bool] <|
 .ite (.v 8) (
 .ite (.v 9) (
 .letp (.add .i64) [vI 10, nI 1] <|
 .jump [⟨.bool, (.b true)⟩, vB 15, vI 16]) <|
 .letp (.add .i64) [vI 10, nI 1] <|
 .jump [⟨.bool, (.b true)⟩, ⟨.bool, (.b false)⟩, vI 16]) <|
 .ite (.v 9) (
 .letp (.add .i64) [vI 10, nI 1] <|
 .jump [vB 15, vB 15, vI 16]) <|
 .letp (.add .i64) [vI 10, nI 1] <|
 .jump [vB 15, ⟨.bool, (.b false)⟩, vI 16]) <|
.up <|
.ret [vB 8, vB 9]
def Φ_bm : Phi := ph [φ_ce]
def φ_bm := mir Φ_bm t_bm
def L_bm_0 (x0 : Bool) (x1 : LL) (x2 : Int) (x3 : LL) (x4 x5 : Int) (x6 : LL) (x7 : Int) (x8 x9 : Bool) (x10 : Int) : Option Out :=
 let x11 := decide (x10 < x7)
 iteD x11 (
 rowD (.list x6) (.int .i64 x10) [(.int .i64)] fun r12 =>
 let x12 := (getC r12 0).toInt
 let x13 := (x12 == 0)
 iteD x13 (
 let x14 := IntKind.wrap .i64 (x10 + 1)
 some (.jump [C.bool x8, C.bool x9, C.int .i64 x14])) <|
 let x14 := IntKind.wrap .i64 (x10 + 1)
 callD (φ_ce [C.bool x0, C.list x1, C.int .i64 x2, C.list x3, C.int .i64 x4, C.int .i64 x14, C.int .i64 x5]) [.bool] fun r15 =>
 let x15 := (getC r15 0).toBool
 iteD x8 (
 iteD x9 (
 let x16 := IntKind.wrap .i64 (x10 + 1)
 some (.jump [C.bool true, C.bool x15, C.int .i64 x16])) <|
 let x16 := IntKind.wrap .i64 (x10 + 1)
 some (.jump [C.bool true, C.bool false, C.int .i64 x16])) <|
 iteD x9 (
 let x16 := IntKind.wrap .i64 (x10 + 1)
 some (.jump [C.bool x15, C.bool x15, C.int .i64 x16])) <|
 let x16 := IntKind.wrap .i64 (x10 + 1)
 some (.jump [C.bool x15, C.bool false, C.int .i64 x16])) <|
 upD <|
 some (.ret [C.bool x8, C.bool x9])
def F_bm (x0 : Bool) (x1 : LL) (x2 : Int) (x3 : LL) (x4 x5 : Int) (x6 : LL) : Option Out :=
 let x7 : Int := x6.length
 iterD (fun ps => L_bm_0 x0 x1 x2 x3 x4 x5 x6 x7 ((getC ps 0).toBool) ((getC ps 1).toBool) ((getC ps 2).toInt)) [C.bool false, C.bool true, C.int .i64 0]
def t_ei : Tree :=
.call 0 [vL 0, vI 1] [.bool] <|
.letp .not [vB 5] <|
.ite (.v 6) (
 .ret [⟨.list, .e⟩, nI 0, ⟨.bool, (.b false)⟩]) <|
.call 1 [vI 2, vI 3, vL 4] [.bool] <|
.letp .not [vB 7] <|
.ite (.v 8) (
 .ret [⟨.list, .e⟩, nI 0, ⟨.bool, (.b false)⟩]) <|
.call 2 [vL 0, vI 1] [.list, kI] <|
.letp .len [vL 9] <|
.letp .eqI [vI 11, nI 40] <|
.ite (.v 12) (
 .ret [vL 9, vI 10, ⟨.bool, (.b false)⟩]) <|
.call 3 [vI 2, vI 3, vL 4] [kI, kI, .list] <|
.letp (.mkl 3) [vI 13, vI 14, vL 15] <|
.chk .fits [vL 9, vL 16] <|
.letp .app [vL 9, vL 16] <|
.ret [vL 17, vI 10, ⟨.bool, (.b true)⟩]
def Φ_ei : Phi := ph [φ_ey, φ_fg, φ_bn, φ_bi]
def φ_ei := mir Φ_ei t_ei
def F_ei (x0 : LL) (x1 x2 x3 : Int) (x4 : LL) : Option Out :=
 callD (φ_ey [C.list x0, C.int .i64 x1]) [.bool] fun r5 =>
 let x5 := (getC r5 0).toBool
 let x6 := (!x5)
 iteD x6 (
 some (.ret [C.list ([] : LL), C.int .i64 0, C.bool false])) <|
 callD (φ_fg [C.int .i64 x2, C.int .i64 x3, C.list x4]) [.bool] fun r7 =>
 let x7 := (getC r7 0).toBool
 let x8 := (!x7)
 iteD x8 (
 some (.ret [C.list ([] : LL), C.int .i64 0, C.bool false])) <|
 callD (φ_bn [C.list x0, C.int .i64 x1]) [.list, (.int .i64)] fun r9 =>
 let x9 := (getC r9 0).toList
 let x10 := (getC r9 1).toInt
 let x11 : Int := x9.length
 let x12 := (x11 == 40)
 iteD x12 (
 some (.ret [C.list x9, C.int .i64 x10, C.bool false])) <|
 callD (φ_bi [C.int .i64 x2, C.int .i64 x3, C.list x4]) [(.int .i64), (.int .i64), .list] fun r13 =>
 let x13 := (getC r13 0).toInt
 let x14 := (getC r13 1).toInt
 let x15 := (getC r13 2).toList
 let x16 := [[C.int .i64 x13, C.int .i64 x14, C.list x15]]
 whenD (decide (x9.length + x16.length <= LMAX)) <|
 let x17 := (x9 ++ x16)
 some (.ret [C.list x17, C.int .i64 x10, C.bool true])
def t_bo : Tree :=
.letp .not [vB 0] <|
.ite (.v 7) (
 .ret [⟨.bool, (.b false)⟩, vB 0, vL 1, vI 2, vL 3]) <|
.call 0 [vB 0, vL 1, vI 2, vL 3, ⟨.bool, (.b false)⟩] [.list] <|
.call 1 [vL 8, vI 4, vI 5, vL 6] [.bool] <|
.letp .not [vB 9] <|
.ite (.v 10) (
 .ret [⟨.bool, (.b false)⟩, vB 0, vL 1, vI 2, vL 3]) <|
.call 2 [vL 1, vI 2, vI 4, vI 5, vL 6] [.list, kI, .bool] <|
.ret [vB 13, vB 0, vL 11, vI 12, vL 3]
def Φ_bo : Phi := ph [φ_bp, φ_cu, φ_ei]
def φ_bo := mir Φ_bo t_bo
def F_bo (x0 : Bool) (x1 : LL) (x2 : Int) (x3 : LL) (x4 x5 : Int) (x6 : LL) : Option Out :=
 let x7 := (!x0)
 iteD x7 (
 some (.ret [C.bool false, C.bool x0, C.list x1, C.int .i64 x2, C.list x3])) <|
 callD (φ_bp [C.bool x0, C.list x1, C.int .i64 x2, C.list x3, C.bool false]) [.list] fun r8 =>
 let x8 := (getC r8 0).toList
 callD (φ_cu [C.list x8, C.int .i64 x4, C.int .i64 x5, C.list x6]) [.bool] fun r9 =>
 let x9 := (getC r9 0).toBool
 let x10 := (!x9)
 iteD x10 (
 some (.ret [C.bool false, C.bool x0, C.list x1, C.int .i64 x2, C.list x3])) <|
 callD (φ_ei [C.list x1, C.int .i64 x2, C.int .i64 x4, C.int .i64 x5, C.list x6]) [.list, (.int .i64), .bool] fun r11 =>
 let x11 := (getC r11 0).toList
 let x12 := (getC r11 1).toInt
 let x13 := (getC r11 2).toBool
 some (.ret [C.bool x13, C.bool x0, C.list x11, C.int .i64 x12, C.list x3])
def t_be : Tree :=
.call 0 [⟨.bool, (.v 0)⟩, ⟨.list, (.v 1)⟩, ⟨(.int .i64), (.v 2)⟩, ⟨.list, (.v 3)⟩, ⟨.bool, (.b false)⟩] [.list] <|
.letp (.sub .i64) [⟨(.int .i64), (.v 4)⟩, ⟨(.int .i64), (.n 1)⟩] <|
.row (.v 5) (.v 6) [.list, (.int .i64)] <|
.call 1 [⟨.bool, (.v 0)⟩, ⟨.list, (.v 1)⟩, ⟨(.int .i64), (.v 2)⟩, ⟨.list, (.v 3)⟩, ⟨(.int .i64), (.n 5)⟩, ⟨(.int .i64), (.v 4)⟩, ⟨.list, (.v 7)⟩] [.bool, .bool] <|
.call 1 [⟨.bool, (.v 0)⟩, ⟨.list, (.v 1)⟩, ⟨(.int .i64), (.v 2)⟩, ⟨.list, (.v 3)⟩, ⟨(.int .i64), (.n 4)⟩, ⟨(.int .i64), (.v 4)⟩, ⟨.list, (.v 7)⟩] [.bool, .bool] <|
.call 1 [⟨.bool, (.v 0)⟩, ⟨.list, (.v 1)⟩, ⟨(.int .i64), (.v 2)⟩, ⟨.list, (.v 3)⟩, ⟨(.int .i64), (.n 6)⟩, ⟨(.int .i64), (.v 4)⟩, ⟨.list, (.v 7)⟩] [.bool, .bool] <|
.call 1 [⟨.bool, (.v 0)⟩, ⟨.list, (.v 1)⟩, ⟨(.int .i64), (.v 2)⟩, ⟨.list, (.v 3)⟩, ⟨(.int .i64), (.n 7)⟩, ⟨(.int .i64), (.v 4)⟩, ⟨.list, (.v 7)⟩] [.bool, .bool] <|
.call 0 [⟨.bool, (.v 0)⟩, ⟨.list, (.v 1)⟩, ⟨(.int .i64), (.v 2)⟩, ⟨.list, (.v 3)⟩, ⟨.bool, (.b true)⟩] [.list] <|
.call 2 [⟨.list, (.v 17)⟩, ⟨(.int .i64), (.v 4)⟩] [(.int .i64)] <|
.letp .eqI [⟨(.int .i64), (.v 18)⟩, ⟨(.int .i64), (.v 8)⟩] <|
.join [.bool] (
 .letp .eqI [⟨(.int .i64), (.v 8)⟩, ⟨(.int .i64), (.n 1)⟩] <|
 .ite (.v 20) (
 .jump [⟨.bool, (.v 9)⟩]) <|
 .jump [⟨.bool, (.b false)⟩]) <|
.ite (.v 20) (
 .call 3 [⟨.bool, (.v 0)⟩, ⟨.list, (.v 1)⟩, ⟨(.int .i64), (.v 2)⟩, ⟨.list, (.v 3)⟩, ⟨(.int .i64), (.n 6)⟩, ⟨(.int .i64), (.v 4)⟩, ⟨.list, .e⟩] [.bool, .bool, .list, (.int .i64), .list] <|
 .ret [⟨.bool, (.v 22)⟩, ⟨.list, (.v 23)⟩, ⟨(.int .i64), (.v 24)⟩, ⟨.list, (.v 25)⟩]) <|
.join [.bool] (
 .letp .eqI [⟨(.int .i64), (.v 8)⟩, ⟨(.int .i64), (.n 1)⟩] <|
 .ite (.v 21) (
 .jump [⟨.bool, (.v 12)⟩]) <|
 .jump [⟨.bool, (.b false)⟩]) <|
.ite (.v 21) (
 .call 3 [⟨.bool, (.v 0)⟩, ⟨.list, (.v 1)⟩, ⟨(.int .i64), (.v 2)⟩, ⟨.list, (.v 3)⟩, ⟨(.int .i64), (.n 5)⟩, ⟨(.int .i64), (.v 4)⟩, ⟨.list, .e⟩] [.bool, .bool, .list, (.int .i64), .list] <|
 .ret [⟨.bool, (.v 23)⟩, ⟨.list, (.v 24)⟩, ⟨(.int .i64), (.v 25)⟩, ⟨.list, (.v 26)⟩]) <|
.letp .eqI [⟨(.int .i64), (.v 8)⟩, ⟨(.int .i64), (.n 2)⟩] <|
.ite (.v 22) (
 .ite (.v 19) (
 .ite (.v 14) (
 .call 3 [⟨.bool, (.v 0)⟩, ⟨.list, (.v 1)⟩, ⟨(.int .i64), (.v 2)⟩, ⟨.list, (.v 3)⟩, ⟨(.int .i64), (.n 7)⟩, ⟨(.int .i64), (.v 4)⟩, ⟨.list, .e⟩] [.bool, .bool, .list, (.int .i64), .list] <|
 .ret [⟨.bool, (.v 24)⟩, ⟨.list, (.v 25)⟩, ⟨(.int .i64), (.v 26)⟩, ⟨.list, (.v 27)⟩]) <|
 .letp .eqI [⟨(.int .i64), (.v 8)⟩, ⟨(.int .i64), (.n 3)⟩] <|
 .ite (.v 23) (
 .ite (.v 19) (
 .ite (.v 16) (
 .call 3 [⟨.bool, (.v 0)⟩, ⟨.list, (.v 1)⟩, ⟨(.int .i64), (.v 2)⟩, ⟨.list, (.v 3)⟩, ⟨(.int .i64), (.n 7)⟩, ⟨(.int .i64), (.v 4)⟩, ⟨.list, .e⟩] [.bool, .bool, .list, (.int .i64), .list] <|
 .ret [⟨.bool, (.v 25)⟩, ⟨.list, (.v 26)⟩, ⟨(.int .i64), (.v 27)⟩, ⟨.list, (.v 28)⟩]) <|
 .ret [⟨.bool, (.v 0)⟩, ⟨.list, (.v 1)⟩, ⟨(.int .i64), (.v 2)⟩, ⟨.list, (.v 3)⟩]) <|
 .ret [⟨.bool, (.v 0)⟩, ⟨.list, (.v 1)⟩, ⟨(.int .i64), (.v 2)⟩, ⟨.list, (.v 3)⟩]) <|
 .ret [⟨.bool, (.v 0)⟩, ⟨.list, (.v 1)⟩, ⟨(.int .i64), (.v 2)⟩, ⟨.list, (.v 3)⟩]) <|
 .letp .eqI [⟨(.int .i64), (.v 8)⟩, ⟨(.int .i64), (.n 3)⟩] <|
 .ite (.v 23) (
 .ite (.v 19) (
 .ite (.v 16) (
 .call 3 [⟨.bool, (.v 0)⟩, ⟨.list, (.v 1)⟩, ⟨(.int .i64), (.v 2)⟩, ⟨.list, (.v 3)⟩, ⟨(.int .i64), (.n 7)⟩, ⟨(.int .i64), (.v 4)⟩, ⟨.list, .e⟩] [.bool, .bool, .list, (.int .i64), .list] <|
 .ret [⟨.bool, (.v 25)⟩, ⟨.list, (.v 26)⟩, ⟨(.int .i64), (.v 27)⟩, ⟨.list, (.v 28)⟩]) <|
 .ret [⟨.bool, (.v 0)⟩, ⟨.list, (.v 1)⟩, ⟨(.int .i64), (.v 2)⟩, ⟨.list, (.v 3)⟩]) <|
 .ret [⟨.bool, (.v 0)⟩, ⟨.list, (.v 1)⟩, ⟨(.int .i64), (.v 2)⟩, ⟨.list, (.v 3)⟩]) <|
 .ret [⟨.bool, (.v 0)⟩, ⟨.list, (.v 1)⟩, ⟨(.int .i64), (.v 2)⟩, ⟨.list, (.v 3)⟩]) <|
.letp .eqI [⟨(.int .i64), (.v 8)⟩, ⟨(.int .i64), (.n 3)⟩] <|
.ite (.v 23) (
 .ite (.v 19) (
 .ite (.v 16) (
 .call 3 [⟨.bool, (.v 0)⟩, ⟨.list, (.v 1)⟩, ⟨(.int .i64), (.v 2)⟩, ⟨.list, (.v 3)⟩, ⟨(.int .i64), (.n 7)⟩, ⟨(.int .i64), (.v 4)⟩, ⟨.list, .e⟩] [.bool, .bool, .list, (.int .i64), .list] <|
 .ret [⟨.bool, (.v 25)⟩, ⟨.list, (.v 26)⟩, ⟨(.int .i64), (.v 27)⟩, ⟨.list, (.v 28)⟩]) <|
 .ret [⟨.bool, (.v 0)⟩, ⟨.list, (.v 1)⟩, ⟨(.int .i64), (.v 2)⟩, ⟨.list, (.v 3)⟩]) <|
 .ret [⟨.bool, (.v 0)⟩, ⟨.list, (.v 1)⟩, ⟨(.int .i64), (.v 2)⟩, ⟨.list, (.v 3)⟩]) <|
.ret [⟨.bool, (.v 0)⟩, ⟨.list, (.v 1)⟩, ⟨(.int .i64), (.v 2)⟩, ⟨.list, (.v 3)⟩]
def Φ_be : Phi := fun n => match n with
  | 0 => φ_bp
  | 1 => φ_bm
  | 2 => φ_df
  | 3 => φ_bo
  | _ => fun _ => none
def φ_be (cs : List C) : Option (List C) := retOf (den Φ_be t_be cs)
def J_be_0 (x0 : Bool) (x1 : LL) (x2 : Int) (x3 : LL) (x4 x8 : Int) (x14 x16 : Bool) (x19 x21 : Bool) : Option Out :=
 iteD x21 (
 callD (φ_bo [C.bool x0, C.list x1, C.int .i64 x2, C.list x3, C.int .i64 5, C.int .i64 x4, C.list ([] : LL)]) [.bool, .bool, .list, (.int .i64), .list] fun r22 =>
 let x22 := (getC r22 0).toBool
 let x23 := (getC r22 1).toBool
 let x24 := (getC r22 2).toList
 let x25 := (getC r22 3).toInt
 let x26 := (getC r22 4).toList
 some (.ret [C.bool x23, C.list x24, C.int .i64 x25, C.list x26])) <|
 let x22 := (x8 == 2)
 iteD x22 (
 iteD x19 (
 iteD x14 (
 callD (φ_bo [C.bool x0, C.list x1, C.int .i64 x2, C.list x3, C.int .i64 7, C.int .i64 x4, C.list ([] : LL)]) [.bool, .bool, .list, (.int .i64), .list] fun r23 =>
 let x23 := (getC r23 0).toBool
 let x24 := (getC r23 1).toBool
 let x25 := (getC r23 2).toList
 let x26 := (getC r23 3).toInt
 let x27 := (getC r23 4).toList
 some (.ret [C.bool x24, C.list x25, C.int .i64 x26, C.list x27])) <|
 let x23 := (x8 == 3)
 iteD x23 (
 iteD x19 (
 iteD x16 (
 callD (φ_bo [C.bool x0, C.list x1, C.int .i64 x2, C.list x3, C.int .i64 7, C.int .i64 x4, C.list ([] : LL)]) [.bool, .bool, .list, (.int .i64), .list] fun r24 =>
 let x24 := (getC r24 0).toBool
 let x25 := (getC r24 1).toBool
 let x26 := (getC r24 2).toList
 let x27 := (getC r24 3).toInt
 let x28 := (getC r24 4).toList
 some (.ret [C.bool x25, C.list x26, C.int .i64 x27, C.list x28])) <|
 some (.ret [C.bool x0, C.list x1, C.int .i64 x2, C.list x3])) <|
 some (.ret [C.bool x0, C.list x1, C.int .i64 x2, C.list x3])) <|
 some (.ret [C.bool x0, C.list x1, C.int .i64 x2, C.list x3])) <|
 let x23 := (x8 == 3)
 iteD x23 (
 iteD x19 (
 iteD x16 (
 callD (φ_bo [C.bool x0, C.list x1, C.int .i64 x2, C.list x3, C.int .i64 7, C.int .i64 x4, C.list ([] : LL)]) [.bool, .bool, .list, (.int .i64), .list] fun r24 =>
 let x24 := (getC r24 0).toBool
 let x25 := (getC r24 1).toBool
 let x26 := (getC r24 2).toList
 let x27 := (getC r24 3).toInt
 let x28 := (getC r24 4).toList
 some (.ret [C.bool x25, C.list x26, C.int .i64 x27, C.list x28])) <|
 some (.ret [C.bool x0, C.list x1, C.int .i64 x2, C.list x3])) <|
 some (.ret [C.bool x0, C.list x1, C.int .i64 x2, C.list x3])) <|
 some (.ret [C.bool x0, C.list x1, C.int .i64 x2, C.list x3])) <|
 let x23 := (x8 == 3)
 iteD x23 (
 iteD x19 (
 iteD x16 (
 callD (φ_bo [C.bool x0, C.list x1, C.int .i64 x2, C.list x3, C.int .i64 7, C.int .i64 x4, C.list ([] : LL)]) [.bool, .bool, .list, (.int .i64), .list] fun r24 =>
 let x24 := (getC r24 0).toBool
 let x25 := (getC r24 1).toBool
 let x26 := (getC r24 2).toList
 let x27 := (getC r24 3).toInt
 let x28 := (getC r24 4).toList
 some (.ret [C.bool x25, C.list x26, C.int .i64 x27, C.list x28])) <|
 some (.ret [C.bool x0, C.list x1, C.int .i64 x2, C.list x3])) <|
 some (.ret [C.bool x0, C.list x1, C.int .i64 x2, C.list x3])) <|
 some (.ret [C.bool x0, C.list x1, C.int .i64 x2, C.list x3])
def J_be_1 (x0 : Bool) (x1 : LL) (x2 : Int) (x3 : LL) (x4 x8 : Int) (x12 x14 : Bool) (x16 x19 x20 : Bool) : Option Out :=
 iteD x20 (
 callD (φ_bo [C.bool x0, C.list x1, C.int .i64 x2, C.list x3, C.int .i64 6, C.int .i64 x4, C.list ([] : LL)]) [.bool, .bool, .list, (.int .i64), .list] fun r21 =>
 let x21 := (getC r21 0).toBool
 let x22 := (getC r21 1).toBool
 let x23 := (getC r21 2).toList
 let x24 := (getC r21 3).toInt
 let x25 := (getC r21 4).toList
 some (.ret [C.bool x22, C.list x23, C.int .i64 x24, C.list x25])) <|
 joinD (
 let x21 := (x8 == 1)
 iteD x21 (
 some (.jump [C.bool x12])) <|
 some (.jump [C.bool false])) fun ps => J_be_0 x0 x1 x2 x3 x4 x8 x14 x16 x19 ((getC ps 0).toBool)
def F_be (x0 : Bool) (x1 : LL) (x2 : Int) (x3 : LL) (x4 : Int) : Option Out :=
 callD (φ_bp [C.bool x0, C.list x1, C.int .i64 x2, C.list x3, C.bool false]) [.list] fun r5 =>
 let x5 := (getC r5 0).toList
 let x6 := IntKind.wrap .i64 (x4 - 1)
 rowD (.list x5) (.int .i64 x6) [.list, (.int .i64)] fun r7 =>
 let x7 := (getC r7 0).toList
 let x8 := (getC r7 1).toInt
 callD (φ_bm [C.bool x0, C.list x1, C.int .i64 x2, C.list x3, C.int .i64 5, C.int .i64 x4, C.list x7]) [.bool, .bool] fun r9 =>
 let x9 := (getC r9 0).toBool
 let x10 := (getC r9 1).toBool
 callD (φ_bm [C.bool x0, C.list x1, C.int .i64 x2, C.list x3, C.int .i64 4, C.int .i64 x4, C.list x7]) [.bool, .bool] fun r11 =>
 let x11 := (getC r11 0).toBool
 let x12 := (getC r11 1).toBool
 callD (φ_bm [C.bool x0, C.list x1, C.int .i64 x2, C.list x3, C.int .i64 6, C.int .i64 x4, C.list x7]) [.bool, .bool] fun r13 =>
 let x13 := (getC r13 0).toBool
 let x14 := (getC r13 1).toBool
 callD (φ_bm [C.bool x0, C.list x1, C.int .i64 x2, C.list x3, C.int .i64 7, C.int .i64 x4, C.list x7]) [.bool, .bool] fun r15 =>
 let x15 := (getC r15 0).toBool
 let x16 := (getC r15 1).toBool
 callD (φ_bp [C.bool x0, C.list x1, C.int .i64 x2, C.list x3, C.bool true]) [.list] fun r17 =>
 let x17 := (getC r17 0).toList
 callD (φ_df [C.list x17, C.int .i64 x4]) [(.int .i64)] fun r18 =>
 let x18 := (getC r18 0).toInt
 let x19 := (x18 == x8)
 joinD (
 let x20 := (x8 == 1)
 iteD x20 (
 some (.jump [C.bool x9])) <|
 some (.jump [C.bool false])) fun ps => J_be_1 x0 x1 x2 x3 x4 x8 x12 x14 x16 x19 ((getC ps 0).toBool)
def t_br : Tree :=
.letp .not [vB 0] <|
.ite (.v 8) (
 .ret [vB 0, vL 1, vI 2, vL 3]) <|
.call 0 [vI 4, vI 5, vI 6, vI 7] [.bool] <|
.letp .not [vB 9] <|
.ite (.v 10) (
 .ret [vB 0, vL 1, vI 2, vL 3]) <|
.call 1 [vI 4, vI 5, vI 6, vI 7] [.bool] <|
.letp .not [vB 11] <|
.ite (.v 12) (
 .ret [vB 0, vL 1, vI 2, vL 3]) <|
.call 2 [vB 0, vL 1, vI 2, vL 3, ⟨.bool, (.b false)⟩] [.list] <|
.letp .len [vL 13] <|
.letp .gtI [vI 6, vI 14] <|
.ite (.v 15) (
 .ret [vB 0, vL 1, vI 2, vL 3]) <|
.call 3 [vL 3, vI 4, vI 5, vI 6, vI 7] [.bool] <|
.letp .not [vB 16] <|
.ite (.v 17) (
 .letp (.mkl 4) [vI 4, vI 5, vI 6, vI 7] <|
 .chk .fits [vL 3, vL 18] <|
 .letp .app [vL 3, vL 18] <|
 .call 4 [vB 0, vL 1, vI 2, vL 19, vI 6] [.bool, .list, kI, .list] <|
 .ret [vB 20, vL 21, vI 22, vL 23]) <|
.call 4 [vB 0, vL 1, vI 2, vL 3, vI 6] [.bool, .list, kI, .list] <|
.ret [vB 18, vL 19, vI 20, vL 21]
def Φ_br : Phi := ph [φ_er, φ_bd, φ_bp, φ_ao, φ_be]
def φ_br := mir Φ_br t_br
def F_br (x0 : Bool) (x1 : LL) (x2 : Int) (x3 : LL) (x4 x5 : Int) (x6 x7 : Int) : Option Out :=
 let x8 := (!x0)
 iteD x8 (
 some (.ret [C.bool x0, C.list x1, C.int .i64 x2, C.list x3])) <|
 callD (φ_er [C.int .i64 x4, C.int .i64 x5, C.int .i64 x6, C.int .i64 x7]) [.bool] fun r9 =>
 let x9 := (getC r9 0).toBool
 let x10 := (!x9)
 iteD x10 (
 some (.ret [C.bool x0, C.list x1, C.int .i64 x2, C.list x3])) <|
 callD (φ_bd [C.int .i64 x4, C.int .i64 x5, C.int .i64 x6, C.int .i64 x7]) [.bool] fun r11 =>
 let x11 := (getC r11 0).toBool
 let x12 := (!x11)
 iteD x12 (
 some (.ret [C.bool x0, C.list x1, C.int .i64 x2, C.list x3])) <|
 callD (φ_bp [C.bool x0, C.list x1, C.int .i64 x2, C.list x3, C.bool false]) [.list] fun r13 =>
 let x13 := (getC r13 0).toList
 let x14 : Int := x13.length
 let x15 := decide (x6 > x14)
 iteD x15 (
 some (.ret [C.bool x0, C.list x1, C.int .i64 x2, C.list x3])) <|
 callD (φ_ao [C.list x3, C.int .i64 x4, C.int .i64 x5, C.int .i64 x6, C.int .i64 x7]) [.bool] fun r16 =>
 let x16 := (getC r16 0).toBool
 let x17 := (!x16)
 iteD x17 (
 let x18 := [[C.int .i64 x4, C.int .i64 x5, C.int .i64 x6, C.int .i64 x7]]
 whenD (decide (x3.length + x18.length <= LMAX)) <|
 let x19 := (x3 ++ x18)
 callD (φ_be [C.bool x0, C.list x1, C.int .i64 x2, C.list x19, C.int .i64 x6]) [.bool, .list, (.int .i64), .list] fun r20 =>
 let x20 := (getC r20 0).toBool
 let x21 := (getC r20 1).toList
 let x22 := (getC r20 2).toInt
 let x23 := (getC r20 3).toList
 some (.ret [C.bool x20, C.list x21, C.int .i64 x22, C.list x23])) <|
 callD (φ_be [C.bool x0, C.list x1, C.int .i64 x2, C.list x3, C.int .i64 x6]) [.bool, .list, (.int .i64), .list] fun r18 =>
 let x18 := (getC r18 0).toBool
 let x19 := (getC r18 1).toList
 let x20 := (getC r18 2).toInt
 let x21 := (getC r18 3).toList
 some (.ret [C.bool x18, C.list x19, C.int .i64 x20, C.list x21])
def t_ba : Tree :=
.call 0 [vL 3, vI 4, vB 5] [.list] <|
.call 1 [vI 2, vL 6] [kI, .list, .bool] <|
.ret [vI 7, vL 8]
def Φ_ba : Phi := ph [φ_cb, φ_du]
def φ_ba := mir Φ_ba t_ba
def F_ba (x0 : Int) (x1 : Bool) (x2 : Int) (x3 : LL) (x4 : Int) (x5 : Bool) : Option Out :=
 callD (φ_cb [C.list x3, C.int .i64 x4, C.bool x5]) [.list] fun r6 =>
 let x6 := (getC r6 0).toList
 callD (φ_du [C.int .i64 x2, C.list x6]) [(.int .i64), .list, .bool] fun r7 =>
 let x7 := (getC r7 0).toInt
 let x8 := (getC r7 1).toList
 let x9 := (getC r7 2).toBool
 some (.ret [C.int .i64 x7, C.list x8])
def t_au : Tree :=
.letp (.sub .i64) [vI 7, nI 1] <|
.letp (.sub .i64) [vI 7, nI 1] <|
.call 0 [vI 0, vB 1, vI 2, vL 3, vI 4, ⟨.bool, (.b false)⟩] [kI, .list] <|
.row (.v 12) (.v 9) [kI, kI] <|
.call 0 [vI 0, vB 1, vI 2, vL 3, vI 4, ⟨.bool, (.b true)⟩] [kI, .list] <|
.row (.v 16) (.v 10) [kI, kI] <|
.join [.bool] (
 .letp .eqI [vI 5, nI 1] <|
 .ite (.v 19) (
 .letp .eqI [vI 14, nI 0] <|
 .jump [vB 20]) <|
 .jump [⟨.bool, (.b false)⟩]) <|
.ite (.v 19) (
 .ret [nI 5]) <|
.join [.bool] (
 .letp .eqI [vI 5, nI 1] <|
 .ite (.v 20) (
 .letp .eqI [vI 18, nI 1] <|
 .ite (.v 21) (
 .jump [⟨.bool, (.b true)⟩]) <|
 .letp .eqI [vI 18, nI 2] <|
 .jump [vB 22]) <|
 .jump [⟨.bool, (.b false)⟩]) <|
.ite (.v 20) (
 .ret [nI 4]) <|
.letp .eqI [vI 5, nI 1] <|
.ite (.v 21) (
 .letp .eqI [vI 18, nI 3] <|
 .ite (.v 22) (
 .ret [nI 5]) <|
 .letp .eqI [vI 5, nI 2] <|
 .ite (.v 23) (
 .letp .eqI [vI 18, nI 2] <|
 .ite (.v 24) (
 .ret [nI 6]) <|
 .letp .eqI [vI 5, nI 3] <|
 .ite (.v 25) (
 .letp .eqI [vI 18, nI 3] <|
 .ite (.v 26) (
 .ret [nI 7]) <|
 .ret [nI 0]) <|
 .ret [nI 0]) <|
 .letp .eqI [vI 5, nI 3] <|
 .ite (.v 24) (
 .letp .eqI [vI 18, nI 3] <|
 .ite (.v 25) (
 .ret [nI 7]) <|
 .ret [nI 0]) <|
 .ret [nI 0]) <|
.letp .eqI [vI 5, nI 2] <|
.ite (.v 22) (
 .letp .eqI [vI 18, nI 2] <|
 .ite (.v 23) (
 .ret [nI 6]) <|
 .letp .eqI [vI 5, nI 3] <|
 .ite (.v 24) (
 .letp .eqI [vI 18, nI 3] <|
 .ite (.v 25) (
 .ret [nI 7]) <|
 .ret [nI 0]) <|
 .ret [nI 0]) <|
.letp .eqI [vI 5, nI 3] <|
.ite (.v 23) (
 .letp .eqI [vI 18, nI 3] <|
 .ite (.v 24) (
 .ret [nI 7]) <|
 .ret [nI 0]) <|
.ret [nI 0]
def Φ_au : Phi := ph [φ_ba]
def φ_au := mir Φ_au t_au
def J_au_0 (x5 x18 : Int) (x20 : Bool) : Option Out :=
 iteD x20 (
 some (.ret [C.int .i64 4])) <|
 let x21 := (x5 == 1)
 iteD x21 (
 let x22 := (x18 == 3)
 iteD x22 (
 some (.ret [C.int .i64 5])) <|
 let x23 := (x5 == 2)
 iteD x23 (
 let x24 := (x18 == 2)
 iteD x24 (
 some (.ret [C.int .i64 6])) <|
 let x25 := (x5 == 3)
 iteD x25 (
 let x26 := (x18 == 3)
 iteD x26 (
 some (.ret [C.int .i64 7])) <|
 some (.ret [C.int .i64 0])) <|
 some (.ret [C.int .i64 0])) <|
 let x24 := (x5 == 3)
 iteD x24 (
 let x25 := (x18 == 3)
 iteD x25 (
 some (.ret [C.int .i64 7])) <|
 some (.ret [C.int .i64 0])) <|
 some (.ret [C.int .i64 0])) <|
 let x22 := (x5 == 2)
 iteD x22 (
 let x23 := (x18 == 2)
 iteD x23 (
 some (.ret [C.int .i64 6])) <|
 let x24 := (x5 == 3)
 iteD x24 (
 let x25 := (x18 == 3)
 iteD x25 (
 some (.ret [C.int .i64 7])) <|
 some (.ret [C.int .i64 0])) <|
 some (.ret [C.int .i64 0])) <|
 let x23 := (x5 == 3)
 iteD x23 (
 let x24 := (x18 == 3)
 iteD x24 (
 some (.ret [C.int .i64 7])) <|
 some (.ret [C.int .i64 0])) <|
 some (.ret [C.int .i64 0])
def J_au_1 (x5 x18 : Int) (x19 : Bool) : Option Out :=
 iteD x19 (
 some (.ret [C.int .i64 5])) <|
 joinD (
 let x20 := (x5 == 1)
 iteD x20 (
 let x21 := (x18 == 1)
 iteD x21 (
 some (.jump [C.bool true])) <|
 let x22 := (x18 == 2)
 some (.jump [C.bool x22])) <|
 some (.jump [C.bool false])) fun ps => J_au_0 x5 x18 ((getC ps 0).toBool)
def F_au (x0 : Int) (x1 : Bool) (x2 : Int) (x3 : LL) (x4 x5 : Int) (x6 x7 x8 : Int) : Option Out :=
 let x9 := IntKind.wrap .i64 (x7 - 1)
 let x10 := IntKind.wrap .i64 (x7 - 1)
 callD (φ_ba [C.int .i64 x0, C.bool x1, C.int .i64 x2, C.list x3, C.int .i64 x4, C.bool false]) [(.int .i64), .list] fun r11 =>
 let x11 := (getC r11 0).toInt
 let x12 := (getC r11 1).toList
 rowD (.list x12) (.int .i64 x9) [(.int .i64), (.int .i64)] fun r13 =>
 let x13 := (getC r13 0).toInt
 let x14 := (getC r13 1).toInt
 callD (φ_ba [C.int .i64 x0, C.bool x1, C.int .i64 x2, C.list x3, C.int .i64 x4, C.bool true]) [(.int .i64), .list] fun r15 =>
 let x15 := (getC r15 0).toInt
 let x16 := (getC r15 1).toList
 rowD (.list x16) (.int .i64 x10) [(.int .i64), (.int .i64)] fun r17 =>
 let x17 := (getC r17 0).toInt
 let x18 := (getC r17 1).toInt
 joinD (
 let x19 := (x5 == 1)
 iteD x19 (
 let x20 := (x14 == 0)
 some (.jump [C.bool x20])) <|
 some (.jump [C.bool false])) fun ps => J_au_1 x5 x18 ((getC ps 0).toBool)
def t_ca : Tree :=
.call 0 [vI 0, vB 1, vI 2, vL 3, vI 4] [.bool] <|
.letp .not [vB 9] <|
.ite (.v 10) (
 .ret [nI 0, ⟨.bool, (.b false)⟩, nI 0, ⟨.list, .e⟩, nI 0, nI 0, nI 0, nI 0, nI 0, ⟨.bool, (.b false)⟩]) <|
.call 1 [vI 0, vB 1, vI 2, vL 3, vI 4] [kI, .bool, kI, .list, kI] <|
.letp .not [vB 12] <|
.ite (.v 16) (
 .ret [vI 11, vB 12, vI 13, vL 14, vI 15, nI 0, nI 0, nI 0, nI 0, ⟨.bool, (.b false)⟩]) <|
.call 2 [vI 5, vI 6, vI 7, vI 8] [.bool] <|
.letp .not [vB 17] <|
.ite (.v 18) (
 .ret [vI 11, vB 12, vI 13, vL 14, vI 15, nI 0, nI 0, nI 0, nI 0, ⟨.bool, (.b false)⟩]) <|
.call 3 [vI 5, vI 6, vI 7, vI 8] [.bool] <|
.ite (.v 19) (
 .ret [vI 11, vB 12, vI 13, vL 14, vI 15, nI 0, nI 0, nI 0, nI 0, ⟨.bool, (.b false)⟩]) <|
.letp .neI [vI 6, vI 11] <|
.ite (.v 20) (
 .ret [vI 11, vB 12, vI 13, vL 14, vI 15, nI 0, nI 0, nI 0, nI 0, ⟨.bool, (.b false)⟩]) <|
.join [.list] (
 .letp .eqI [vI 5, nI 1] <|
 .ite (.v 21) (
 .letp (.mkl 1) [vI 8] <|
 .jump [vL 22]) <|
 .jump [⟨.list, .e⟩]) <|
.call 4 [vI 11, vB 12, vI 13, vL 14, vI 15, ⟨.bool, (.b false)⟩] [kI, .list] <|
.call 5 [vI 22, vL 23, vI 5, vI 7, vL 21] [.bool] <|
.ite (.v 24) (
 .call 6 [vL 14, vI 15, vI 5, vI 7, vL 21] [.list, kI, .bool] <|
 .ret [vI 11, vB 12, vI 13, vL 25, vI 26, nI 0, nI 0, nI 0, nI 0, ⟨.bool, (.b false)⟩]) <|
.call 7 [vI 11, vB 12, vI 13, vL 14, vI 15, vI 5, vI 6, vI 7, vI 8] [kI] <|
.letp .eqI [vI 25, nI 0] <|
.ite (.v 26) (
 .ret [vI 11, vB 12, vI 13, vL 14, vI 15, nI 0, nI 0, nI 0, nI 0, ⟨.bool, (.b false)⟩]) <|
.ret [vI 11, vB 12, vI 13, vL 14, vI 15, vI 25, vI 11, vI 7, nI 0, ⟨.bool, (.b true)⟩]
def Φ_ca : Phi := ph [φ_dg, φ_az, φ_er, φ_bd, φ_ba, φ_ci, φ_ei, φ_au]
def φ_ca := mir Φ_ca t_ca
def J_ca_0 (x5 x6 : Int) (x7 x8 x11 : Int) (x12 : Bool) (x13 : Int) (x14 : LL) (x15 : Int) (x21 : LL) : Option Out :=
 callD (φ_ba [C.int .i64 x11, C.bool x12, C.int .i64 x13, C.list x14, C.int .i64 x15, C.bool false]) [(.int .i64), .list] fun r22 =>
 let x22 := (getC r22 0).toInt
 let x23 := (getC r22 1).toList
 callD (φ_ci [C.int .i64 x22, C.list x23, C.int .i64 x5, C.int .i64 x7, C.list x21]) [.bool] fun r24 =>
 let x24 := (getC r24 0).toBool
 iteD x24 (
 callD (φ_ei [C.list x14, C.int .i64 x15, C.int .i64 x5, C.int .i64 x7, C.list x21]) [.list, (.int .i64), .bool] fun r25 =>
 let x25 := (getC r25 0).toList
 let x26 := (getC r25 1).toInt
 let x27 := (getC r25 2).toBool
 some (.ret [C.int .i64 x11, C.bool x12, C.int .i64 x13, C.list x25, C.int .i64 x26, C.int .i64 0, C.int .i64 0, C.int .i64 0, C.int .i64 0, C.bool false])) <|
 callD (φ_au [C.int .i64 x11, C.bool x12, C.int .i64 x13, C.list x14, C.int .i64 x15, C.int .i64 x5, C.int .i64 x6, C.int .i64 x7, C.int .i64 x8]) [(.int .i64)] fun r25 =>
 let x25 := (getC r25 0).toInt
 let x26 := (x25 == 0)
 iteD x26 (
 some (.ret [C.int .i64 x11, C.bool x12, C.int .i64 x13, C.list x14, C.int .i64 x15, C.int .i64 0, C.int .i64 0, C.int .i64 0, C.int .i64 0, C.bool false])) <|
 some (.ret [C.int .i64 x11, C.bool x12, C.int .i64 x13, C.list x14, C.int .i64 x15, C.int .i64 x25, C.int .i64 x11, C.int .i64 x7, C.int .i64 0, C.bool true])
def F_ca (x0 : Int) (x1 : Bool) (x2 : Int) (x3 : LL) (x4 x5 : Int) (x6 x7 x8 : Int) : Option Out :=
 callD (φ_dg [C.int .i64 x0, C.bool x1, C.int .i64 x2, C.list x3, C.int .i64 x4]) [.bool] fun r9 =>
 let x9 := (getC r9 0).toBool
 let x10 := (!x9)
 iteD x10 (
 some (.ret [C.int .i64 0, C.bool false, C.int .i64 0, C.list ([] : LL), C.int .i64 0, C.int .i64 0, C.int .i64 0, C.int .i64 0, C.int .i64 0, C.bool false])) <|
 callD (φ_az [C.int .i64 x0, C.bool x1, C.int .i64 x2, C.list x3, C.int .i64 x4]) [(.int .i64), .bool, (.int .i64), .list, (.int .i64)] fun r11 =>
 let x11 := (getC r11 0).toInt
 let x12 := (getC r11 1).toBool
 let x13 := (getC r11 2).toInt
 let x14 := (getC r11 3).toList
 let x15 := (getC r11 4).toInt
 let x16 := (!x12)
 iteD x16 (
 some (.ret [C.int .i64 x11, C.bool x12, C.int .i64 x13, C.list x14, C.int .i64 x15, C.int .i64 0, C.int .i64 0, C.int .i64 0, C.int .i64 0, C.bool false])) <|
 callD (φ_er [C.int .i64 x5, C.int .i64 x6, C.int .i64 x7, C.int .i64 x8]) [.bool] fun r17 =>
 let x17 := (getC r17 0).toBool
 let x18 := (!x17)
 iteD x18 (
 some (.ret [C.int .i64 x11, C.bool x12, C.int .i64 x13, C.list x14, C.int .i64 x15, C.int .i64 0, C.int .i64 0, C.int .i64 0, C.int .i64 0, C.bool false])) <|
 callD (φ_bd [C.int .i64 x5, C.int .i64 x6, C.int .i64 x7, C.int .i64 x8]) [.bool] fun r19 =>
 let x19 := (getC r19 0).toBool
 iteD x19 (
 some (.ret [C.int .i64 x11, C.bool x12, C.int .i64 x13, C.list x14, C.int .i64 x15, C.int .i64 0, C.int .i64 0, C.int .i64 0, C.int .i64 0, C.bool false])) <|
 let x20 := (x6 != x11)
 iteD x20 (
 some (.ret [C.int .i64 x11, C.bool x12, C.int .i64 x13, C.list x14, C.int .i64 x15, C.int .i64 0, C.int .i64 0, C.int .i64 0, C.int .i64 0, C.bool false])) <|
 joinD (
 let x21 := (x5 == 1)
 iteD x21 (
 let x22 := [[C.int .i64 x8]]
 some (.jump [C.list x22])) <|
 some (.jump [C.list ([] : LL)])) fun ps => J_ca_0 x5 x6 x7 x8 x11 x12 x13 x14 x15 ((getC ps 0).toList)
def t_av : Tree :=
.call 0 [vI 6, vI 7, vI 8, vI 9] [.bool] <|
.ite (.v 10) (
 .call 1 [vB 0, vL 1, vI 2, vL 3, vI 6, vI 7, vI 8, vI 9] [.bool, .list, kI, .list] <|
 .ret [nI 0, nI 0, nI 0, nI 0, ⟨.bool, (.b false)⟩, vB 11, vL 12, vI 13, vL 14, vL 4, vL 5]) <|
.letp (.sub .i64) [vI 7, nI 1] <|
.chk .idx [vI 11, vL 4] <|
.row (.v 4) (.v 11) [kI, .bool, kI, .list, kI] <|
.call 2 [vI 12, vB 13, vI 14, vL 15, vI 16, vI 6, vI 7, vI 8, vI 9] [kI, .bool, kI, .list, kI, kI, kI, kI, kI, .bool] <|
.letp (.sub .i64) [vI 7, nI 1] <|
.chk .idx [vI 27, vL 4] <|
.letp (.setr 0) [vL 4, vI 27, vI 17, vB 18, vI 19, vL 20, vI 21] <|
.ret [vI 22, vI 23, vI 24, vI 25, vB 26, vB 0, vL 1, vI 2, vL 3, vL 28, vL 5]
def Φ_av : Phi := ph [φ_bd, φ_br, φ_ca]
def φ_av := mir Φ_av t_av
def F_av (x0 : Bool) (x1 : LL) (x2 : Int) (x3 x4 x5 : LL) (x6 x7 : Int) (x8 x9 : Int) : Option Out :=
 callD (φ_bd [C.int .i64 x6, C.int .i64 x7, C.int .i64 x8, C.int .i64 x9]) [.bool] fun r10 =>
 let x10 := (getC r10 0).toBool
 iteD x10 (
 callD (φ_br [C.bool x0, C.list x1, C.int .i64 x2, C.list x3, C.int .i64 x6, C.int .i64 x7, C.int .i64 x8, C.int .i64 x9]) [.bool, .list, (.int .i64), .list] fun r11 =>
 let x11 := (getC r11 0).toBool
 let x12 := (getC r11 1).toList
 let x13 := (getC r11 2).toInt
 let x14 := (getC r11 3).toList
 some (.ret [C.int .i64 0, C.int .i64 0, C.int .i64 0, C.int .i64 0, C.bool false, C.bool x11, C.list x12, C.int .i64 x13, C.list x14, C.list x4, C.list x5])) <|
 let x11 := IntKind.wrap .i64 (x7 - 1)
 whenD ((decide ((0 : Int) <= x11) && decide (x11 < (x4.length : Nat)))) <|
 rowD (.list x4) (.int .i64 x11) [(.int .i64), .bool, (.int .i64), .list, (.int .i64)] fun r12 =>
 let x12 := (getC r12 0).toInt
 let x13 := (getC r12 1).toBool
 let x14 := (getC r12 2).toInt
 let x15 := (getC r12 3).toList
 let x16 := (getC r12 4).toInt
 callD (φ_ca [C.int .i64 x12, C.bool x13, C.int .i64 x14, C.list x15, C.int .i64 x16, C.int .i64 x6, C.int .i64 x7, C.int .i64 x8, C.int .i64 x9]) [(.int .i64), .bool, (.int .i64), .list, (.int .i64), (.int .i64), (.int .i64), (.int .i64), (.int .i64), .bool] fun r17 =>
 let x17 := (getC r17 0).toInt
 let x18 := (getC r17 1).toBool
 let x19 := (getC r17 2).toInt
 let x20 := (getC r17 3).toList
 let x21 := (getC r17 4).toInt
 let x22 := (getC r17 5).toInt
 let x23 := (getC r17 6).toInt
 let x24 := (getC r17 7).toInt
 let x25 := (getC r17 8).toInt
 let x26 := (getC r17 9).toBool
 let x27 := IntKind.wrap .i64 (x7 - 1)
 whenD ((decide ((0 : Int) <= x27) && decide (x27 < (x4.length : Nat)))) <|
 let x28 := (setRow 0 x4 (Int.toNat x27) [C.int .i64 x17, C.bool x18, C.int .i64 x19, C.list x20, C.int .i64 x21])
 some (.ret [C.int .i64 x22, C.int .i64 x23, C.int .i64 x24, C.int .i64 x25, C.bool x26, C.bool x0, C.list x1, C.int .i64 x2, C.list x3, C.list x28, C.list x5])
def t_bj : Tree :=
.iter [nI 0, vB 0, vL 1, vI 2, vL 3, vL 4, vL 5] <|
.letp .ltI [vI 6, nI 4] <|
.ite (.v 13) (
 .call 1 [vB 7, vL 8, vI 9, vL 10, vL 11, vL 12, vI 6] [.bool, .list, kI, .list, .list, .list] <|
 .letp (.add .i64) [vI 6, nI 1] <|
 .jump [vI 20, vB 14, vL 15, vI 16, vL 17, vL 18, vL 19]) <|
.up <|
.call 2 [vB 7, vL 8, vI 9, vL 10] [.list] <|
.letp (.mkl 1) [vL 12, vL 14] <|
.call 3 [vL 15] [.list] <|
.letp .len [vL 16] <|
.iter [nI 0, vB 7, vL 8, vI 9, vL 12, vL 10, vL 11] <|
.letp .ltI [vI 18, vI 17] <|
.ite (.v 25) (
 .chk .idx [vI 18, vL 16] <|
 .row (.v 16) (.v 18) [kI, kI, kI, kI] <|
 .call 4 [vB 19, vL 20, vI 21, vL 23, vL 24, vL 22, vI 26, vI 27, vI 28, vI 29] [kI, kI, kI, kI, .bool, .bool, .list, kI, .list, .list, .list] <|
 .ite (.v 34) (
 .call 5 [vB 35, vL 36, vI 37, vL 38, vI 30, vI 31, vI 32, vI 33] [.bool, .list, kI, .list] <|
 .letp (.add .i64) [vI 18, nI 1] <|
 .jump [vI 45, vB 41, vL 42, vI 43, vL 40, vL 44, vL 39]) <|
 .letp (.add .i64) [vI 18, nI 1] <|
 .jump [vI 41, vB 35, vL 36, vI 37, vL 40, vL 38, vL 39]) <|
.up <|
.iter [nI 0, vB 19, vL 20, vI 21, vL 23, vL 24, ⟨.list, .e⟩] <|
.letp .ltI [vI 26, nI 4] <|
.ite (.v 33) (
 .call 0 [vB 27, vL 28, vI 29, vL 30, vL 31, vL 32, vI 26] [.bool, .list, kI, .list, .list, .list] <|
 .letp (.add .i64) [vI 26, nI 1] <|
 .jump [vI 40, vB 34, vL 35, vI 36, vL 37, vL 38, vL 39]) <|
.up <|
.ret [vB 27, vL 28, vI 29, vL 30, vL 31, vL 32]
def Φ_bj : Phi := ph [φ_aa, φ_ac, φ_bg, φ_ap, φ_av, φ_br]
def φ_bj := mir Φ_bj t_bj
def L_bj_0 (x26 : Int) (x27 : Bool) (x28 : LL) (x29 : Int) (x30 x31 x32 : LL) : Option Out :=
 let x33 := decide (x26 < 4)
 iteD x33 (
 callD (φ_aa [C.bool x27, C.list x28, C.int .i64 x29, C.list x30, C.list x31, C.list x32, C.int .i64 x26]) [.bool, .list, (.int .i64), .list, .list, .list] fun r34 =>
 let x34 := (getC r34 0).toBool
 let x35 := (getC r34 1).toList
 let x36 := (getC r34 2).toInt
 let x37 := (getC r34 3).toList
 let x38 := (getC r34 4).toList
 let x39 := (getC r34 5).toList
 let x40 := IntKind.wrap .i64 (x26 + 1)
 some (.jump [C.int .i64 x40, C.bool x34, C.list x35, C.int .i64 x36, C.list x37, C.list x38, C.list x39])) <|
 upD <|
 some (.ret [C.bool x27, C.list x28, C.int .i64 x29, C.list x30, C.list x31, C.list x32])
def L_bj_1 (x16 : LL) (x17 x18 : Int) (x19 : Bool) (x20 : LL) (x21 : Int) (x22 x23 x24 : LL) : Option Out :=
 let x25 := decide (x18 < x17)
 iteD x25 (
 whenD ((decide ((0 : Int) <= x18) && decide (x18 < (x16.length : Nat)))) <|
 rowD (.list x16) (.int .i64 x18) [(.int .i64), (.int .i64), (.int .i64), (.int .i64)] fun r26 =>
 let x26 := (getC r26 0).toInt
 let x27 := (getC r26 1).toInt
 let x28 := (getC r26 2).toInt
 let x29 := (getC r26 3).toInt
 callD (φ_av [C.bool x19, C.list x20, C.int .i64 x21, C.list x23, C.list x24, C.list x22, C.int .i64 x26, C.int .i64 x27, C.int .i64 x28, C.int .i64 x29]) [(.int .i64), (.int .i64), (.int .i64), (.int .i64), .bool, .bool, .list, (.int .i64), .list, .list, .list] fun r30 =>
 let x30 := (getC r30 0).toInt
 let x31 := (getC r30 1).toInt
 let x32 := (getC r30 2).toInt
 let x33 := (getC r30 3).toInt
 let x34 := (getC r30 4).toBool
 let x35 := (getC r30 5).toBool
 let x36 := (getC r30 6).toList
 let x37 := (getC r30 7).toInt
 let x38 := (getC r30 8).toList
 let x39 := (getC r30 9).toList
 let x40 := (getC r30 10).toList
 iteD x34 (
 callD (φ_br [C.bool x35, C.list x36, C.int .i64 x37, C.list x38, C.int .i64 x30, C.int .i64 x31, C.int .i64 x32, C.int .i64 x33]) [.bool, .list, (.int .i64), .list] fun r41 =>
 let x41 := (getC r41 0).toBool
 let x42 := (getC r41 1).toList
 let x43 := (getC r41 2).toInt
 let x44 := (getC r41 3).toList
 let x45 := IntKind.wrap .i64 (x18 + 1)
 some (.jump [C.int .i64 x45, C.bool x41, C.list x42, C.int .i64 x43, C.list x40, C.list x44, C.list x39])) <|
 let x41 := IntKind.wrap .i64 (x18 + 1)
 some (.jump [C.int .i64 x41, C.bool x35, C.list x36, C.int .i64 x37, C.list x40, C.list x38, C.list x39])) <|
 upD <|
 iterD (fun ps => L_bj_0 ((getC ps 0).toInt) ((getC ps 1).toBool) ((getC ps 2).toList) ((getC ps 3).toInt) ((getC ps 4).toList) ((getC ps 5).toList) ((getC ps 6).toList)) [C.int .i64 0, C.bool x19, C.list x20, C.int .i64 x21, C.list x23, C.list x24, C.list ([] : LL)]
def L_bj_2 (x6 : Int) (x7 : Bool) (x8 : LL) (x9 : Int) (x10 x11 x12 : LL) : Option Out :=
 let x13 := decide (x6 < 4)
 iteD x13 (
 callD (φ_ac [C.bool x7, C.list x8, C.int .i64 x9, C.list x10, C.list x11, C.list x12, C.int .i64 x6]) [.bool, .list, (.int .i64), .list, .list, .list] fun r14 =>
 let x14 := (getC r14 0).toBool
 let x15 := (getC r14 1).toList
 let x16 := (getC r14 2).toInt
 let x17 := (getC r14 3).toList
 let x18 := (getC r14 4).toList
 let x19 := (getC r14 5).toList
 let x20 := IntKind.wrap .i64 (x6 + 1)
 some (.jump [C.int .i64 x20, C.bool x14, C.list x15, C.int .i64 x16, C.list x17, C.list x18, C.list x19])) <|
 upD <|
 callD (φ_bg [C.bool x7, C.list x8, C.int .i64 x9, C.list x10]) [.list] fun r14 =>
 let x14 := (getC r14 0).toList
 let x15 := [[C.list x12], [C.list x14]]
 callD (φ_ap [C.list x15]) [.list] fun r16 =>
 let x16 := (getC r16 0).toList
 let x17 : Int := x16.length
 iterD (fun ps => L_bj_1 x16 x17 ((getC ps 0).toInt) ((getC ps 1).toBool) ((getC ps 2).toList) ((getC ps 3).toInt) ((getC ps 4).toList) ((getC ps 5).toList) ((getC ps 6).toList)) [C.int .i64 0, C.bool x7, C.list x8, C.int .i64 x9, C.list x12, C.list x10, C.list x11]
def F_bj (x0 : Bool) (x1 : LL) (x2 : Int) (x3 x4 x5 : LL) : Option Out :=
 iterD (fun ps => L_bj_2 ((getC ps 0).toInt) ((getC ps 1).toBool) ((getC ps 2).toList) ((getC ps 3).toInt) ((getC ps 4).toList) ((getC ps 5).toList) ((getC ps 6).toList)) [C.int .i64 0, C.bool x0, C.list x1, C.int .i64 x2, C.list x3, C.list x4, C.list x5]
def t_bz : Tree :=
.call 0 [vB 0, vL 1, vI 2, vL 3, vL 4, vL 5] [.bool] <|
.letp .not [vB 7] <|
.ite (.v 8) (
 .ret [⟨.bool, (.b false)⟩, ⟨.list, .e⟩, nI 0, ⟨.list, .e⟩, ⟨.list, .e⟩, ⟨.list, .e⟩]) <|
.call 1 [vI 6, nI 0, nI 9] [.bool] <|
.letp .not [vB 9] <|
.ite (.v 10) (
 .ret [⟨.bool, (.b false)⟩, ⟨.list, .e⟩, nI 0, ⟨.list, .e⟩, ⟨.list, .e⟩, ⟨.list, .e⟩]) <|
.call 2 [vB 0, vL 1, vI 2, vL 3, vL 4, vL 5] [.bool, .list, kI, .list, .list, .list] <|
.iter [nI 0, vB 11, vL 12, vI 13, vL 14, vL 15, vL 16] <|
.letp .ltI [vI 17, vI 6] <|
.ite (.v 24) (
 .call 3 [vB 18, vL 19, vI 20, vL 21, vL 22, vL 23] [.bool, .list, kI, .list, .list, .list] <|
 .letp (.add .i64) [vI 17, nI 1] <|
 .jump [vI 31, vB 25, vL 26, vI 27, vL 28, vL 29, vL 30]) <|
.up <|
.ret [vB 18, vL 19, vI 20, vL 21, vL 22, vL 23]
def Φ_bz : Phi := ph [φ_cy, φ_fj, φ_ay, φ_bj]
def φ_bz := mir Φ_bz t_bz
def L_bz_0 (x6 x17 : Int) (x18 : Bool) (x19 : LL) (x20 : Int) (x21 x22 x23 : LL) : Option Out :=
 let x24 := decide (x17 < x6)
 iteD x24 (
 callD (φ_bj [C.bool x18, C.list x19, C.int .i64 x20, C.list x21, C.list x22, C.list x23]) [.bool, .list, (.int .i64), .list, .list, .list] fun r25 =>
 let x25 := (getC r25 0).toBool
 let x26 := (getC r25 1).toList
 let x27 := (getC r25 2).toInt
 let x28 := (getC r25 3).toList
 let x29 := (getC r25 4).toList
 let x30 := (getC r25 5).toList
 let x31 := IntKind.wrap .i64 (x17 + 1)
 some (.jump [C.int .i64 x31, C.bool x25, C.list x26, C.int .i64 x27, C.list x28, C.list x29, C.list x30])) <|
 upD <|
 some (.ret [C.bool x18, C.list x19, C.int .i64 x20, C.list x21, C.list x22, C.list x23])
def F_bz (x0 : Bool) (x1 : LL) (x2 : Int) (x3 x4 x5 : LL) (x6 : Int) : Option Out :=
 callD (φ_cy [C.bool x0, C.list x1, C.int .i64 x2, C.list x3, C.list x4, C.list x5]) [.bool] fun r7 =>
 let x7 := (getC r7 0).toBool
 let x8 := (!x7)
 iteD x8 (
 some (.ret [C.bool false, C.list ([] : LL), C.int .i64 0, C.list ([] : LL), C.list ([] : LL), C.list ([] : LL)])) <|
 callD (φ_fj [C.int .i64 x6, C.int .i64 0, C.int .i64 9]) [.bool] fun r9 =>
 let x9 := (getC r9 0).toBool
 let x10 := (!x9)
 iteD x10 (
 some (.ret [C.bool false, C.list ([] : LL), C.int .i64 0, C.list ([] : LL), C.list ([] : LL), C.list ([] : LL)])) <|
 callD (φ_ay [C.bool x0, C.list x1, C.int .i64 x2, C.list x3, C.list x4, C.list x5]) [.bool, .list, (.int .i64), .list, .list, .list] fun r11 =>
 let x11 := (getC r11 0).toBool
 let x12 := (getC r11 1).toList
 let x13 := (getC r11 2).toInt
 let x14 := (getC r11 3).toList
 let x15 := (getC r11 4).toList
 let x16 := (getC r11 5).toList
 iterD (fun ps => L_bz_0 x6 ((getC ps 0).toInt) ((getC ps 1).toBool) ((getC ps 2).toList) ((getC ps 3).toInt) ((getC ps 4).toList) ((getC ps 5).toList) ((getC ps 6).toList)) [C.int .i64 0, C.bool x11, C.list x12, C.int .i64 x13, C.list x14, C.list x15, C.list x16]
def t_ff : Tree :=
.iter [nI 0] <|
.letp .len [vL 0] <|
.letp .ltI [vI 2, vI 3] <|
.ite (.v 4) (
 .row (.v 0) (.v 2) [kI, kI, .list] <|
 .call 0 [vI 5, vI 6, vL 7] [.bool] <|
 .letp .not [vB 8] <|
 .ite (.v 9) (
 .up <|
 .ret [⟨.bool, (.b false)⟩]) <|
 .letp (.add .i64) [vI 2, nI 1] <|
 .jump [vI 10]) <|
.up <|
.letp .len [vL 0] <|
.letp .leI [vI 5, nI 40] <|
.ite (.v 6) (
 .letp .len [vL 0] <|
 .call 1 [vI 1, nI 0, vI 7] [.bool] <|
 .ret [vB 8]) <|
.ret [⟨.bool, (.b false)⟩]
def Φ_ff : Phi := ph [φ_ez, φ_fi]
def φ_ff := mir Φ_ff t_ff
def L_ff_0 (x0 : LL) (x1 x2 : Int) : Option Out :=
 let x3 : Int := x0.length
 let x4 := decide (x2 < x3)
 iteD x4 (
 rowD (.list x0) (.int .i64 x2) [(.int .i64), (.int .i64), .list] fun r5 =>
 let x5 := (getC r5 0).toInt
 let x6 := (getC r5 1).toInt
 let x7 := (getC r5 2).toList
 callD (φ_ez [C.int .i64 x5, C.int .i64 x6, C.list x7]) [.bool] fun r8 =>
 let x8 := (getC r8 0).toBool
 let x9 := (!x8)
 iteD x9 (
 upD <|
 some (.ret [C.bool false])) <|
 let x10 := IntKind.wrap .i64 (x2 + 1)
 some (.jump [C.int .i64 x10])) <|
 upD <|
 let x5 : Int := x0.length
 let x6 := decide (x5 <= 40)
 iteD x6 (
 let x7 : Int := x0.length
 callD (φ_fi [C.int .i64 x1, C.int .i64 0, C.int .i64 x7]) [.bool] fun r8 =>
 let x8 := (getC r8 0).toBool
 some (.ret [C.bool x8])) <|
 some (.ret [C.bool false])
def F_ff (x0 : LL) (x1 : Int) : Option Out :=
 iterD (fun ps => L_ff_0 x0 x1 ((getC ps 0).toInt)) [C.int .i64 0]
def t_et : Tree :=
.call 0 [vL 1] [.list, .bool] <|
.call 1 [vL 1, vI 2] [.bool] <|
.letp .not [vB 6] <|
.ite (.v 7) (
 .ret [⟨.bool, (.b false)⟩]) <|
.letp .not [vB 5] <|
.ite (.v 8) (
 .ret [⟨.bool, (.b false)⟩]) <|
.iter [nI 0] <|
.letp .len [vL 3] <|
.letp .ltI [vI 9, vI 10] <|
.ite (.v 11) (
 .row (.v 3) (.v 9) [kI, kI, kI, kI] <|
 .call 2 [vI 12, vI 13, vI 14, vI 15] [.bool] <|
 .letp .not [vB 16] <|
 .ite (.v 17) (
 .up <|
 .ret [⟨.bool, (.b false)⟩]) <|
 .letp .ltI [vI 12, nI 4] <|
 .ite (.v 18) (
 .up <|
 .ret [⟨.bool, (.b false)⟩]) <|
 .letp .len [vL 4] <|
 .letp .gtI [vI 14, vI 19] <|
 .ite (.v 20) (
 .up <|
 .ret [⟨.bool, (.b false)⟩]) <|
 .chk .upto [vI 9, vL 3] <|
 .letp .take [vL 3, vI 9] <|
 .call 3 [vL 21, vI 12, vI 13, vI 14, vI 15] [.bool] <|
 .ite (.v 22) (
 .up <|
 .ret [⟨.bool, (.b false)⟩]) <|
 .letp (.add .i64) [vI 9, nI 1] <|
 .jump [vI 23]) <|
.up <|
.ite (.v 0) (
 .ret [⟨.bool, (.b true)⟩]) <|
.letp .len [vL 3] <|
.letp .eqI [vI 12, nI 0] <|
.ret [vB 13]
def Φ_et : Phi := ph [φ_fe, φ_ff, φ_en, φ_dk]
def φ_et := mir Φ_et t_et
def L_et_0 (x0 : Bool) (x3 x4 : LL) (x9 : Int) : Option Out :=
 let x10 : Int := x3.length
 let x11 := decide (x9 < x10)
 iteD x11 (
 rowD (.list x3) (.int .i64 x9) [(.int .i64), (.int .i64), (.int .i64), (.int .i64)] fun r12 =>
 let x12 := (getC r12 0).toInt
 let x13 := (getC r12 1).toInt
 let x14 := (getC r12 2).toInt
 let x15 := (getC r12 3).toInt
 callD (φ_en [C.int .i64 x12, C.int .i64 x13, C.int .i64 x14, C.int .i64 x15]) [.bool] fun r16 =>
 let x16 := (getC r16 0).toBool
 let x17 := (!x16)
 iteD x17 (
 upD <|
 some (.ret [C.bool false])) <|
 let x18 := decide (x12 < 4)
 iteD x18 (
 upD <|
 some (.ret [C.bool false])) <|
 let x19 : Int := x4.length
 let x20 := decide (x14 > x19)
 iteD x20 (
 upD <|
 some (.ret [C.bool false])) <|
 whenD ((decide ((0 : Int) <= x9) && decide (x9 <= (x3.length : Nat)))) <|
 let x21 := (x3.take (Int.toNat x9))
 callD (φ_dk [C.list x21, C.int .i64 x12, C.int .i64 x13, C.int .i64 x14, C.int .i64 x15]) [.bool] fun r22 =>
 let x22 := (getC r22 0).toBool
 iteD x22 (
 upD <|
 some (.ret [C.bool false])) <|
 let x23 := IntKind.wrap .i64 (x9 + 1)
 some (.jump [C.int .i64 x23])) <|
 upD <|
 iteD x0 (
 some (.ret [C.bool true])) <|
 let x12 : Int := x3.length
 let x13 := (x12 == 0)
 some (.ret [C.bool x13])
def F_et (x0 : Bool) (x1 : LL) (x2 : Int) (x3 : LL) : Option Out :=
 callD (φ_fe [C.list x1]) [.list, .bool] fun r4 =>
 let x4 := (getC r4 0).toList
 let x5 := (getC r4 1).toBool
 callD (φ_ff [C.list x1, C.int .i64 x2]) [.bool] fun r6 =>
 let x6 := (getC r6 0).toBool
 let x7 := (!x6)
 iteD x7 (
 some (.ret [C.bool false])) <|
 let x8 := (!x5)
 iteD x8 (
 some (.ret [C.bool false])) <|
 iterD (fun ps => L_et_0 x0 x3 x4 ((getC ps 0).toInt)) [C.int .i64 0]
def t_dq : Tree :=
.call 0 [vI 2, vL 3] [kI, .list, .bool] <|
.call 1 [vI 0, nI 1, nI 3] [.bool] <|
.ite (.v 8) (
 .call 2 [vL 3, vI 4] [.bool] <|
 .ite (.v 9) (
 .ret [vB 7]) <|
 .ret [⟨.bool, (.b false)⟩]) <|
.ret [⟨.bool, (.b false)⟩]
def Φ_dq : Phi := ph [φ_fh, φ_fi, φ_ff]
def φ_dq := mir Φ_dq t_dq
def F_dq (x0 : Int) (x1 : Bool) (x2 : Int) (x3 : LL) (x4 : Int) : Option Out :=
 callD (φ_fh [C.int .i64 x2, C.list x3]) [(.int .i64), .list, .bool] fun r5 =>
 let x5 := (getC r5 0).toInt
 let x6 := (getC r5 1).toList
 let x7 := (getC r5 2).toBool
 callD (φ_fi [C.int .i64 x0, C.int .i64 1, C.int .i64 3]) [.bool] fun r8 =>
 let x8 := (getC r8 0).toBool
 iteD x8 (
 callD (φ_ff [C.list x3, C.int .i64 x4]) [.bool] fun r9 =>
 let x9 := (getC r9 0).toBool
 iteD x9 (
 some (.ret [C.bool x7])) <|
 some (.ret [C.bool false])) <|
 some (.ret [C.bool false])
def t_dd : Tree :=
.call 0 [vB 0, vL 1, vI 2, vL 3] [.bool] <|
.letp .not [vB 6] <|
.ite (.v 7) (
 .ret [⟨.bool, (.b false)⟩]) <|
.letp .len [vL 4] <|
.letp .neI [vI 8, nI 3] <|
.ite (.v 9) (
 .ret [⟨.bool, (.b false)⟩]) <|
.letp .len [vL 5] <|
.letp .gtI [vI 10, nI 14] <|
.ite (.v 11) (
 .ret [⟨.bool, (.b false)⟩]) <|
.iter [nI 0] <|
.letp .len [vL 4] <|
.letp .ltI [vI 12, vI 13] <|
.ite (.v 14) (
 .row (.v 4) (.v 12) [kI, .bool, kI, .list, kI] <|
 .call 1 [vI 15, vB 16, vI 17, vL 18, vI 19] [.bool] <|
 .letp .not [vB 20] <|
 .ite (.v 21) (
 .up <|
 .ret [⟨.bool, (.b false)⟩]) <|
 .row (.v 4) (.v 12) [kI, .bool, kI, .list, kI] <|
 .letp (.add .i64) [vI 12, nI 1] <|
 .letp .neI [vI 22, vI 27] <|
 .ite (.v 28) (
 .up <|
 .ret [⟨.bool, (.b false)⟩]) <|
 .letp (.add .i64) [vI 12, nI 1] <|
 .jump [vI 29]) <|
.up <|
.iter [nI 0] <|
.letp .len [vL 5] <|
.letp .ltI [vI 15, vI 16] <|
.ite (.v 17) (
 .row (.v 5) (.v 15) [kI, kI, kI, kI] <|
 .call 2 [vI 18, vI 19, vI 20, vI 21] [.bool] <|
 .letp .not [vB 22] <|
 .ite (.v 23) (
 .up <|
 .ret [⟨.bool, (.b false)⟩]) <|
 .letp (.add .i64) [vI 15, nI 1] <|
 .jump [vI 24]) <|
.up <|
.ret [⟨.bool, (.b true)⟩]
def Φ_dd : Phi := ph [φ_et, φ_dq, φ_en]
def φ_dd := mir Φ_dd t_dd
def L_dd_0 (x5 : LL) (x15 : Int) : Option Out :=
 let x16 : Int := x5.length
 let x17 := decide (x15 < x16)
 iteD x17 (
 rowD (.list x5) (.int .i64 x15) [(.int .i64), (.int .i64), (.int .i64), (.int .i64)] fun r18 =>
 let x18 := (getC r18 0).toInt
 let x19 := (getC r18 1).toInt
 let x20 := (getC r18 2).toInt
 let x21 := (getC r18 3).toInt
 callD (φ_en [C.int .i64 x18, C.int .i64 x19, C.int .i64 x20, C.int .i64 x21]) [.bool] fun r22 =>
 let x22 := (getC r22 0).toBool
 let x23 := (!x22)
 iteD x23 (
 upD <|
 some (.ret [C.bool false])) <|
 let x24 := IntKind.wrap .i64 (x15 + 1)
 some (.jump [C.int .i64 x24])) <|
 upD <|
 some (.ret [C.bool true])
def L_dd_1 (x4 x5 : LL) (x12 : Int) : Option Out :=
 let x13 : Int := x4.length
 let x14 := decide (x12 < x13)
 iteD x14 (
 rowD (.list x4) (.int .i64 x12) [(.int .i64), .bool, (.int .i64), .list, (.int .i64)] fun r15 =>
 let x15 := (getC r15 0).toInt
 let x16 := (getC r15 1).toBool
 let x17 := (getC r15 2).toInt
 let x18 := (getC r15 3).toList
 let x19 := (getC r15 4).toInt
 callD (φ_dq [C.int .i64 x15, C.bool x16, C.int .i64 x17, C.list x18, C.int .i64 x19]) [.bool] fun r20 =>
 let x20 := (getC r20 0).toBool
 let x21 := (!x20)
 iteD x21 (
 upD <|
 some (.ret [C.bool false])) <|
 rowD (.list x4) (.int .i64 x12) [(.int .i64), .bool, (.int .i64), .list, (.int .i64)] fun r22 =>
 let x22 := (getC r22 0).toInt
 let x23 := (getC r22 1).toBool
 let x24 := (getC r22 2).toInt
 let x25 := (getC r22 3).toList
 let x26 := (getC r22 4).toInt
 let x27 := IntKind.wrap .i64 (x12 + 1)
 let x28 := (x22 != x27)
 iteD x28 (
 upD <|
 some (.ret [C.bool false])) <|
 let x29 := IntKind.wrap .i64 (x12 + 1)
 some (.jump [C.int .i64 x29])) <|
 upD <|
 iterD (fun ps => L_dd_0 x5 ((getC ps 0).toInt)) [C.int .i64 0]
def F_dd (x0 : Bool) (x1 : LL) (x2 : Int) (x3 x4 x5 : LL) : Option Out :=
 callD (φ_et [C.bool x0, C.list x1, C.int .i64 x2, C.list x3]) [.bool] fun r6 =>
 let x6 := (getC r6 0).toBool
 let x7 := (!x6)
 iteD x7 (
 some (.ret [C.bool false])) <|
 let x8 : Int := x4.length
 let x9 := (x8 != 3)
 iteD x9 (
 some (.ret [C.bool false])) <|
 let x10 : Int := x5.length
 let x11 := decide (x10 > 14)
 iteD x11 (
 some (.ret [C.bool false])) <|
 iterD (fun ps => L_dd_1 x4 x5 ((getC ps 0).toInt)) [C.int .i64 0]
def t_cf : Tree :=
.chk (.rowsk [kI]) [vL 2] <|
.chk .fits [⟨.list, .e⟩, vL 2] <|
.letp .app [⟨.list, .e⟩, vL 2] <|
.ret [vI 0, vI 1, vL 3]
def φ_cf := mir (ph []) t_cf
def F_cf (x0 x1 : Int) (x2 : LL) : Option Out :=
 whenD ((x2.all (kindsB [(.int .i64)]))) <|
 whenD (decide (([] : LL).length + x2.length <= LMAX)) <|
 let x3 := (([] : LL) ++ x2)
 some (.ret [C.int .i64 x0, C.int .i64 x1, C.list x3])
def t_ej : Tree :=
.iter [nI 0, ⟨.list, .e⟩] <|
.letp .len [vL 0] <|
.letp .ltI [vI 2, vI 4] <|
.ite (.v 5) (
 .row (.v 0) (.v 2) [kI, kI, .list] <|
 .call 0 [vI 6, vI 7, vL 8] [kI, kI, .list] <|
 .letp (.mkl 3) [vI 9, vI 10, vL 11] <|
 .chk .fits [vL 3, vL 12] <|
 .letp .app [vL 3, vL 12] <|
 .letp (.add .i64) [vI 2, nI 1] <|
 .jump [vI 14, vL 13]) <|
.up <|
.ret [vL 3, vI 1]
def Φ_ej : Phi := ph [φ_cf]
def φ_ej := mir Φ_ej t_ej
def L_ej_0 (x0 : LL) (x1 x2 : Int) (x3 : LL) : Option Out :=
 let x4 : Int := x0.length
 let x5 := decide (x2 < x4)
 iteD x5 (
 rowD (.list x0) (.int .i64 x2) [(.int .i64), (.int .i64), .list] fun r6 =>
 let x6 := (getC r6 0).toInt
 let x7 := (getC r6 1).toInt
 let x8 := (getC r6 2).toList
 callD (φ_cf [C.int .i64 x6, C.int .i64 x7, C.list x8]) [(.int .i64), (.int .i64), .list] fun r9 =>
 let x9 := (getC r9 0).toInt
 let x10 := (getC r9 1).toInt
 let x11 := (getC r9 2).toList
 let x12 := [[C.int .i64 x9, C.int .i64 x10, C.list x11]]
 whenD (decide (x3.length + x12.length <= LMAX)) <|
 let x13 := (x3 ++ x12)
 let x14 := IntKind.wrap .i64 (x2 + 1)
 some (.jump [C.int .i64 x14, C.list x13])) <|
 upD <|
 some (.ret [C.list x3, C.int .i64 x1])
def F_ej (x0 : LL) (x1 : Int) : Option Out :=
 iterD (fun ps => L_ej_0 x0 x1 ((getC ps 0).toInt) ((getC ps 1).toList)) [C.int .i64 0, C.list ([] : LL)]
def t_dh : Tree :=
.call 0 [vL 1, vI 2] [.list, kI] <|
.chk (.rowsk [kI, kI, kI, kI]) [vL 3] <|
.chk .fits [⟨.list, .e⟩, vL 3] <|
.letp .app [⟨.list, .e⟩, vL 3] <|
.ret [vB 0, vL 4, vI 5, vL 6]
def Φ_dh : Phi := ph [φ_ej]
def φ_dh := mir Φ_dh t_dh
def F_dh (x0 : Bool) (x1 : LL) (x2 : Int) (x3 : LL) : Option Out :=
 callD (φ_ej [C.list x1, C.int .i64 x2]) [.list, (.int .i64)] fun r4 =>
 let x4 := (getC r4 0).toList
 let x5 := (getC r4 1).toInt
 whenD ((x3.all (kindsB [(.int .i64), (.int .i64), (.int .i64), (.int .i64)]))) <|
 whenD (decide (([] : LL).length + x3.length <= LMAX)) <|
 let x6 := (([] : LL) ++ x3)
 some (.ret [C.bool x0, C.list x4, C.int .i64 x5, C.list x6])
def t_da : Tree :=
.call 0 [vL 3, vI 4] [.list, kI] <|
.ret [vI 0, vB 1, vI 2, vL 5, vI 6]
def Φ_da : Phi := ph [φ_ej]
def φ_da := mir Φ_da t_da
def F_da (x0 : Int) (x1 : Bool) (x2 : Int) (x3 : LL) (x4 : Int) : Option Out :=
 callD (φ_ej [C.list x3, C.int .i64 x4]) [.list, (.int .i64)] fun r5 =>
 let x5 := (getC r5 0).toList
 let x6 := (getC r5 1).toInt
 some (.ret [C.int .i64 x0, C.bool x1, C.int .i64 x2, C.list x5, C.int .i64 x6])
def t_ea : Tree :=
.join [.bool, kI, .list, .list, .list] (
 .call 0 [vB 0, vL 1, vI 2, vL 3] [.bool, .list, kI, .list] <|
 .chk (.rowsk [kI, kI, kI, kI]) [vL 5] <|
 .chk .fits [⟨.list, .e⟩, vL 5] <|
 .letp .app [⟨.list, .e⟩, vL 5] <|
 .jump [vB 6, vI 8, vL 7, vL 9, vL 10]) <|
.iter [nI 0, ⟨.list, .e⟩] <|
.letp .len [vL 4] <|
.letp .ltI [vI 11, vI 13] <|
.ite (.v 14) (
 .row (.v 4) (.v 11) [kI, .bool, kI, .list, kI] <|
 .call 1 [vI 15, vB 16, vI 17, vL 18, vI 19] [kI, .bool, kI, .list, kI] <|
 .letp (.mkl 5) [vI 20, vB 21, vI 22, vL 23, vI 24] <|
 .chk .fits [vL 12, vL 25] <|
 .letp .app [vL 12, vL 25] <|
 .letp (.add .i64) [vI 11, nI 1] <|
 .jump [vI 27, vL 26]) <|
.up <|
.ret [vB 6, vL 8, vI 7, vL 9, vL 12, vL 10]
def Φ_ea : Phi := ph [φ_dh, φ_da]
def φ_ea := mir Φ_ea t_ea
def L_ea_0 (x4 : LL) (x6 : Bool) (x7 : Int) (x8 x9 x10 : LL) (x11 : Int) (x12 : LL) : Option Out :=
 let x13 : Int := x4.length
 let x14 := decide (x11 < x13)
 iteD x14 (
 rowD (.list x4) (.int .i64 x11) [(.int .i64), .bool, (.int .i64), .list, (.int .i64)] fun r15 =>
 let x15 := (getC r15 0).toInt
 let x16 := (getC r15 1).toBool
 let x17 := (getC r15 2).toInt
 let x18 := (getC r15 3).toList
 let x19 := (getC r15 4).toInt
 callD (φ_da [C.int .i64 x15, C.bool x16, C.int .i64 x17, C.list x18, C.int .i64 x19]) [(.int .i64), .bool, (.int .i64), .list, (.int .i64)] fun r20 =>
 let x20 := (getC r20 0).toInt
 let x21 := (getC r20 1).toBool
 let x22 := (getC r20 2).toInt
 let x23 := (getC r20 3).toList
 let x24 := (getC r20 4).toInt
 let x25 := [[C.int .i64 x20, C.bool x21, C.int .i64 x22, C.list x23, C.int .i64 x24]]
 whenD (decide (x12.length + x25.length <= LMAX)) <|
 let x26 := (x12 ++ x25)
 let x27 := IntKind.wrap .i64 (x11 + 1)
 some (.jump [C.int .i64 x27, C.list x26])) <|
 upD <|
 some (.ret [C.bool x6, C.list x8, C.int .i64 x7, C.list x9, C.list x12, C.list x10])
def J_ea_1 (x4 : LL) (x6 : Bool) (x7 : Int) (x8 x9 x10 : LL) : Option Out :=
 iterD (fun ps => L_ea_0 x4 x6 x7 x8 x9 x10 ((getC ps 0).toInt) ((getC ps 1).toList)) [C.int .i64 0, C.list ([] : LL)]
def F_ea (x0 : Bool) (x1 : LL) (x2 : Int) (x3 x4 x5 : LL) : Option Out :=
 joinD (
 callD (φ_dh [C.bool x0, C.list x1, C.int .i64 x2, C.list x3]) [.bool, .list, (.int .i64), .list] fun r6 =>
 let x6 := (getC r6 0).toBool
 let x7 := (getC r6 1).toList
 let x8 := (getC r6 2).toInt
 let x9 := (getC r6 3).toList
 whenD ((x5.all (kindsB [(.int .i64), (.int .i64), (.int .i64), (.int .i64)]))) <|
 whenD (decide (([] : LL).length + x5.length <= LMAX)) <|
 let x10 := (([] : LL) ++ x5)
 some (.jump [C.bool x6, C.int .i64 x8, C.list x7, C.list x9, C.list x10])) fun ps => J_ea_1 x4 ((getC ps 0).toBool) ((getC ps 1).toInt) ((getC ps 2).toList) ((getC ps 3).toList) ((getC ps 4).toList)
def t_cx : Tree :=
.iter [nI 0, vL 4] <|
.letp .len [vL 7] <|
.letp .ltI [vI 6, vI 8] <|
.ite (.v 9) (
 .chk .idx [vI 6, vL 7] <|
 .row (.v 7) (.v 6) [kI, .bool, kI, .list, kI] <|
 .chk .eqI [vI 6, vI 6] <|
 .letp (.add .i64) [vI 6, nI 1] <|
 .letp .setw [vL 7, vI 6, vI 10, ⟨.bool, (.b true)⟩, vI 12, vL 13, vI 14] <|
 .jump [vI 15, vL 16]) <|
.up <|
.chk .fits [⟨.list, .e⟩, vL 5] <|
.letp .app [⟨.list, .e⟩, vL 5] <|
.call 0 [⟨.bool, (.b true)⟩, vL 1, vI 2, vL 3] [.list] <|
.chk (.rowsk [kI, kI, kI, kI]) [vL 11] <|
.chk .fits [vL 10, vL 11] <|
.letp .app [vL 10, vL 11] <|
.iter [nI 0, ⟨.bool, (.b true)⟩, vI 2, vL 1, vL 3, vL 7, ⟨.list, .e⟩] <|
.letp .len [vL 12] <|
.letp .ltI [vI 13, vI 20] <|
.ite (.v 21) (
 .chk .idx [vI 13, vL 12] <|
 .row (.v 12) (.v 13) [kI, kI, kI, kI] <|
 .call 1 [vB 14, vL 16, vI 15, vL 17, vL 18, vL 19, vI 22, vI 23, vI 24, vI 25] [.bool, .list, kI, .list, .list, .list, kI, kI, kI, kI, .bool] <|
 .ite (.v 36) (
 .call 1 [vB 26, vL 27, vI 28, vL 29, vL 30, vL 31, vI 32, vI 33, vI 34, vI 35] [.bool, .list, kI, .list, .list, .list, kI, kI, kI, kI, .bool] <|
 .letp (.add .i64) [vI 13, nI 1] <|
 .jump [vI 48, vB 37, vI 39, vL 38, vL 40, vL 41, vL 42]) <|
 .letp (.add .i64) [vI 13, nI 1] <|
 .jump [vI 37, vB 26, vI 28, vL 27, vL 29, vL 30, vL 31]) <|
.up <|
.iter [nI 0, vB 14, vI 15, vL 16, vL 17, vL 18, vL 19] <|
.letp .leI [vI 22, nI 3] <|
.ite (.v 29) (
 .call 2 [vB 23, vL 25, vI 24, vL 26, vL 27, vL 28, vI 22] [.bool, .list, kI, .list, .list, .list] <|
 .letp (.add .i64) [vI 22, nI 1] <|
 .jump [vI 36, vB 30, vI 32, vL 31, vL 33, vL 34, vL 35]) <|
.up <|
.ret [vB 23, vL 25, vI 24, vL 26, vL 27, vL 28]
def Φ_cx : Phi := ph [φ_cs, φ_de, φ_cl]
def φ_cx := mir Φ_cx t_cx
def L_cx_0 (x22 : Int) (x23 : Bool) (x24 : Int) (x25 x26 : LL) (x27 x28 : LL) : Option Out :=
 let x29 := decide (x22 <= 3)
 iteD x29 (
 callD (φ_cl [C.bool x23, C.list x25, C.int .i64 x24, C.list x26, C.list x27, C.list x28, C.int .i64 x22]) [.bool, .list, (.int .i64), .list, .list, .list] fun r30 =>
 let x30 := (getC r30 0).toBool
 let x31 := (getC r30 1).toList
 let x32 := (getC r30 2).toInt
 let x33 := (getC r30 3).toList
 let x34 := (getC r30 4).toList
 let x35 := (getC r30 5).toList
 let x36 := IntKind.wrap .i64 (x22 + 1)
 some (.jump [C.int .i64 x36, C.bool x30, C.int .i64 x32, C.list x31, C.list x33, C.list x34, C.list x35])) <|
 upD <|
 some (.ret [C.bool x23, C.list x25, C.int .i64 x24, C.list x26, C.list x27, C.list x28])
def L_cx_1 (x12 : LL) (x13 : Int) (x14 : Bool) (x15 : Int) (x16 x17 : LL) (x18 x19 : LL) : Option Out :=
 let x20 : Int := x12.length
 let x21 := decide (x13 < x20)
 iteD x21 (
 whenD ((decide ((0 : Int) <= x13) && decide (x13 < (x12.length : Nat)))) <|
 rowD (.list x12) (.int .i64 x13) [(.int .i64), (.int .i64), (.int .i64), (.int .i64)] fun r22 =>
 let x22 := (getC r22 0).toInt
 let x23 := (getC r22 1).toInt
 let x24 := (getC r22 2).toInt
 let x25 := (getC r22 3).toInt
 callD (φ_de [C.bool x14, C.list x16, C.int .i64 x15, C.list x17, C.list x18, C.list x19, C.int .i64 x22, C.int .i64 x23, C.int .i64 x24, C.int .i64 x25]) [.bool, .list, (.int .i64), .list, .list, .list, (.int .i64), (.int .i64), (.int .i64), (.int .i64), .bool] fun r26 =>
 let x26 := (getC r26 0).toBool
 let x27 := (getC r26 1).toList
 let x28 := (getC r26 2).toInt
 let x29 := (getC r26 3).toList
 let x30 := (getC r26 4).toList
 let x31 := (getC r26 5).toList
 let x32 := (getC r26 6).toInt
 let x33 := (getC r26 7).toInt
 let x34 := (getC r26 8).toInt
 let x35 := (getC r26 9).toInt
 let x36 := (getC r26 10).toBool
 iteD x36 (
 callD (φ_de [C.bool x26, C.list x27, C.int .i64 x28, C.list x29, C.list x30, C.list x31, C.int .i64 x32, C.int .i64 x33, C.int .i64 x34, C.int .i64 x35]) [.bool, .list, (.int .i64), .list, .list, .list, (.int .i64), (.int .i64), (.int .i64), (.int .i64), .bool] fun r37 =>
 let x37 := (getC r37 0).toBool
 let x38 := (getC r37 1).toList
 let x39 := (getC r37 2).toInt
 let x40 := (getC r37 3).toList
 let x41 := (getC r37 4).toList
 let x42 := (getC r37 5).toList
 let x43 := (getC r37 6).toInt
 let x44 := (getC r37 7).toInt
 let x45 := (getC r37 8).toInt
 let x46 := (getC r37 9).toInt
 let x47 := (getC r37 10).toBool
 let x48 := IntKind.wrap .i64 (x13 + 1)
 some (.jump [C.int .i64 x48, C.bool x37, C.int .i64 x39, C.list x38, C.list x40, C.list x41, C.list x42])) <|
 let x37 := IntKind.wrap .i64 (x13 + 1)
 some (.jump [C.int .i64 x37, C.bool x26, C.int .i64 x28, C.list x27, C.list x29, C.list x30, C.list x31])) <|
 upD <|
 iterD (fun ps => L_cx_0 ((getC ps 0).toInt) ((getC ps 1).toBool) ((getC ps 2).toInt) ((getC ps 3).toList) ((getC ps 4).toList) ((getC ps 5).toList) ((getC ps 6).toList)) [C.int .i64 0, C.bool x14, C.int .i64 x15, C.list x16, C.list x17, C.list x18, C.list x19]
def L_cx_2 (x1 : LL) (x2 : Int) (x3 x5 : LL) (x6 : Int) (x7 : LL) : Option Out :=
 let x8 : Int := x7.length
 let x9 := decide (x6 < x8)
 iteD x9 (
 whenD ((decide ((0 : Int) <= x6) && decide (x6 < (x7.length : Nat)))) <|
 rowD (.list x7) (.int .i64 x6) [(.int .i64), .bool, (.int .i64), .list, (.int .i64)] fun r10 =>
 let x10 := (getC r10 0).toInt
 let x11 := (getC r10 1).toBool
 let x12 := (getC r10 2).toInt
 let x13 := (getC r10 3).toList
 let x14 := (getC r10 4).toInt
 whenD ((x6 == x6)) <|
 let x15 := IntKind.wrap .i64 (x6 + 1)
 let x16 := (x7.set (Int.toNat x6) [C.int .i64 x10, C.bool true, C.int .i64 x12, C.list x13, C.int .i64 x14])
 some (.jump [C.int .i64 x15, C.list x16])) <|
 upD <|
 whenD (decide (([] : LL).length + x5.length <= LMAX)) <|
 let x10 := (([] : LL) ++ x5)
 callD (φ_cs [C.bool true, C.list x1, C.int .i64 x2, C.list x3]) [.list] fun r11 =>
 let x11 := (getC r11 0).toList
 whenD ((x11.all (kindsB [(.int .i64), (.int .i64), (.int .i64), (.int .i64)]))) <|
 whenD (decide (x10.length + x11.length <= LMAX)) <|
 let x12 := (x10 ++ x11)
 iterD (fun ps => L_cx_1 x12 ((getC ps 0).toInt) ((getC ps 1).toBool) ((getC ps 2).toInt) ((getC ps 3).toList) ((getC ps 4).toList) ((getC ps 5).toList) ((getC ps 6).toList)) [C.int .i64 0, C.bool true, C.int .i64 x2, C.list x1, C.list x3, C.list x7, C.list ([] : LL)]
def F_cx (x0 : Bool) (x1 : LL) (x2 : Int) (x3 x4 x5 : LL) : Option Out :=
 iterD (fun ps => L_cx_2 x1 x2 x3 x5 ((getC ps 0).toInt) ((getC ps 1).toList)) [C.int .i64 0, C.list x4]
def t_bq : Tree :=
.call 0 [vB 0, vL 1, vI 2, vL 3, vL 4, vL 5] [.bool] <|
.letp .not [vB 7] <|
.ite (.v 8) (
 .ret [⟨.bool, (.b false)⟩, ⟨.list, .e⟩, nI 0, ⟨.list, .e⟩, ⟨.list, .e⟩, ⟨.list, .e⟩]) <|
.call 1 [vI 6, nI 0, nI 9] [.bool] <|
.letp .not [vB 9] <|
.ite (.v 10) (
 .ret [⟨.bool, (.b false)⟩, ⟨.list, .e⟩, nI 0, ⟨.list, .e⟩, ⟨.list, .e⟩, ⟨.list, .e⟩]) <|
.call 2 [vB 0, vL 1, vI 2, vL 3, vL 4, vL 5] [.bool, .list, kI, .list, .list, .list] <|
.iter [nI 0, vB 11, vI 13, vL 12, vL 14, vL 15, vL 16] <|
.letp .ltI [vI 17, vI 6] <|
.ite (.v 24) (
 .call 3 [vB 18, vL 20, vI 19, vL 21, vL 22, vL 23] [.bool, .list, kI, .list, .list, .list] <|
 .letp (.add .i64) [vI 17, nI 1] <|
 .jump [vI 31, vB 25, vI 27, vL 26, vL 28, vL 29, vL 30]) <|
.up <|
.ret [vB 18, vL 20, vI 19, vL 21, vL 22, vL 23]
def Φ_bq : Phi := ph [φ_dd, φ_fi, φ_ea, φ_cx]
def φ_bq := mir Φ_bq t_bq
def L_bq_0 (x6 x17 : Int) (x18 : Bool) (x19 : Int) (x20 x21 : LL) (x22 x23 : LL) : Option Out :=
 let x24 := decide (x17 < x6)
 iteD x24 (
 callD (φ_cx [C.bool x18, C.list x20, C.int .i64 x19, C.list x21, C.list x22, C.list x23]) [.bool, .list, (.int .i64), .list, .list, .list] fun r25 =>
 let x25 := (getC r25 0).toBool
 let x26 := (getC r25 1).toList
 let x27 := (getC r25 2).toInt
 let x28 := (getC r25 3).toList
 let x29 := (getC r25 4).toList
 let x30 := (getC r25 5).toList
 let x31 := IntKind.wrap .i64 (x17 + 1)
 some (.jump [C.int .i64 x31, C.bool x25, C.int .i64 x27, C.list x26, C.list x28, C.list x29, C.list x30])) <|
 upD <|
 some (.ret [C.bool x18, C.list x20, C.int .i64 x19, C.list x21, C.list x22, C.list x23])
def F_bq (x0 : Bool) (x1 : LL) (x2 : Int) (x3 x4 x5 : LL) (x6 : Int) : Option Out :=
 callD (φ_dd [C.bool x0, C.list x1, C.int .i64 x2, C.list x3, C.list x4, C.list x5]) [.bool] fun r7 =>
 let x7 := (getC r7 0).toBool
 let x8 := (!x7)
 iteD x8 (
 some (.ret [C.bool false, C.list ([] : LL), C.int .i64 0, C.list ([] : LL), C.list ([] : LL), C.list ([] : LL)])) <|
 callD (φ_fi [C.int .i64 x6, C.int .i64 0, C.int .i64 9]) [.bool] fun r9 =>
 let x9 := (getC r9 0).toBool
 let x10 := (!x9)
 iteD x10 (
 some (.ret [C.bool false, C.list ([] : LL), C.int .i64 0, C.list ([] : LL), C.list ([] : LL), C.list ([] : LL)])) <|
 callD (φ_ea [C.bool x0, C.list x1, C.int .i64 x2, C.list x3, C.list x4, C.list x5]) [.bool, .list, (.int .i64), .list, .list, .list] fun r11 =>
 let x11 := (getC r11 0).toBool
 let x12 := (getC r11 1).toList
 let x13 := (getC r11 2).toInt
 let x14 := (getC r11 3).toList
 let x15 := (getC r11 4).toList
 let x16 := (getC r11 5).toList
 iterD (fun ps => L_bq_0 x6 ((getC ps 0).toInt) ((getC ps 1).toBool) ((getC ps 2).toInt) ((getC ps 3).toList) ((getC ps 4).toList) ((getC ps 5).toList) ((getC ps 6).toList)) [C.int .i64 0, C.bool x11, C.int .i64 x13, C.list x12, C.list x14, C.list x15, C.list x16]
def t_ek : Tree :=
.letp .len [vL 0] <|
.letp .len [vL 1] <|
.letp .neI [vI 2, vI 3] <|
.ite (.v 4) (
 .ret [⟨.bool, (.b false)⟩]) <|
.iter [nI 0] <|
.letp .len [vL 0] <|
.letp .ltI [vI 5, vI 6] <|
.ite (.v 7) (
 .row (.v 0) (.v 5) [kI] <|
 .row (.v 1) (.v 5) [kI] <|
 .letp .neI [vI 8, vI 9] <|
 .ite (.v 10) (
 .up <|
 .ret [⟨.bool, (.b false)⟩]) <|
 .letp (.add .i64) [vI 5, nI 1] <|
 .jump [vI 11]) <|
.up <|
.ret [⟨.bool, (.b true)⟩]
def φ_ek := mir (ph []) t_ek
def L_ek_0 (x0 x1 : LL) (x5 : Int) : Option Out :=
 let x6 : Int := x0.length
 let x7 := decide (x5 < x6)
 iteD x7 (
 rowD (.list x0) (.int .i64 x5) [(.int .i64)] fun r8 =>
 let x8 := (getC r8 0).toInt
 rowD (.list x1) (.int .i64 x5) [(.int .i64)] fun r9 =>
 let x9 := (getC r9 0).toInt
 let x10 := (x8 != x9)
 iteD x10 (
 upD <|
 some (.ret [C.bool false])) <|
 let x11 := IntKind.wrap .i64 (x5 + 1)
 some (.jump [C.int .i64 x11])) <|
 upD <|
 some (.ret [C.bool true])
def F_ek (x0 x1 : LL) : Option Out :=
 let x2 : Int := x0.length
 let x3 : Int := x1.length
 let x4 := (x2 != x3)
 iteD x4 (
 some (.ret [C.bool false])) <|
 iterD (fun ps => L_ek_0 x0 x1 ((getC ps 0).toInt)) [C.int .i64 0]
def t_ex : Tree :=
.letp .eqI [vI 0, vI 3] <|
.ite (.v 6) (
 .letp .eqI [vI 1, vI 4] <|
 .ite (.v 7) (
 .call 0 [vL 2, vL 5] [.bool] <|
 .ret [vB 8]) <|
 .ret [⟨.bool, (.b false)⟩]) <|
.ret [⟨.bool, (.b false)⟩]
def Φ_ex : Phi := ph [φ_ek]
def φ_ex := mir Φ_ex t_ex
def F_ex (x0 x1 : Int) (x2 : LL) (x3 x4 : Int) (x5 : LL) : Option Out :=
 let x6 := (x0 == x3)
 iteD x6 (
 let x7 := (x1 == x4)
 iteD x7 (
 callD (φ_ek [C.list x2, C.list x5]) [.bool] fun r8 =>
 let x8 := (getC r8 0).toBool
 some (.ret [C.bool x8])) <|
 some (.ret [C.bool false])) <|
 some (.ret [C.bool false])
def t_ee : Tree :=
.letp .len [vL 0] <|
.letp .len [vL 1] <|
.letp .neI [vI 2, vI 3] <|
.ite (.v 4) (
 .ret [⟨.bool, (.b false)⟩]) <|
.iter [nI 0] <|
.letp .len [vL 0] <|
.letp .ltI [vI 5, vI 6] <|
.ite (.v 7) (
 .row (.v 0) (.v 5) [kI, kI, .list] <|
 .row (.v 1) (.v 5) [kI, kI, .list] <|
 .call 0 [vI 8, vI 9, vL 10, vI 11, vI 12, vL 13] [.bool] <|
 .letp .not [vB 14] <|
 .ite (.v 15) (
 .up <|
 .ret [⟨.bool, (.b false)⟩]) <|
 .letp (.add .i64) [vI 5, nI 1] <|
 .jump [vI 16]) <|
.up <|
.ret [⟨.bool, (.b true)⟩]
def Φ_ee : Phi := ph [φ_ex]
def φ_ee := mir Φ_ee t_ee
def L_ee_0 (x0 x1 : LL) (x5 : Int) : Option Out :=
 let x6 : Int := x0.length
 let x7 := decide (x5 < x6)
 iteD x7 (
 rowD (.list x0) (.int .i64 x5) [(.int .i64), (.int .i64), .list] fun r8 =>
 let x8 := (getC r8 0).toInt
 let x9 := (getC r8 1).toInt
 let x10 := (getC r8 2).toList
 rowD (.list x1) (.int .i64 x5) [(.int .i64), (.int .i64), .list] fun r11 =>
 let x11 := (getC r11 0).toInt
 let x12 := (getC r11 1).toInt
 let x13 := (getC r11 2).toList
 callD (φ_ex [C.int .i64 x8, C.int .i64 x9, C.list x10, C.int .i64 x11, C.int .i64 x12, C.list x13]) [.bool] fun r14 =>
 let x14 := (getC r14 0).toBool
 let x15 := (!x14)
 iteD x15 (
 upD <|
 some (.ret [C.bool false])) <|
 let x16 := IntKind.wrap .i64 (x5 + 1)
 some (.jump [C.int .i64 x16])) <|
 upD <|
 some (.ret [C.bool true])
def F_ee (x0 x1 : LL) : Option Out :=
 let x2 : Int := x0.length
 let x3 : Int := x1.length
 let x4 := (x2 != x3)
 iteD x4 (
 some (.ret [C.bool false])) <|
 iterD (fun ps => L_ee_0 x0 x1 ((getC ps 0).toInt)) [C.int .i64 0]
def t_fd : Tree :=
.letp .eqI [vI 1, vI 3] <|
.ite (.v 4) (
 .call 0 [vL 0, vL 2] [.bool] <|
 .ret [vB 5]) <|
.ret [⟨.bool, (.b false)⟩]
def Φ_fd : Phi := ph [φ_ee]
def φ_fd := mir Φ_fd t_fd
def F_fd (x0 : LL) (x1 : Int) (x2 : LL) (x3 : Int) : Option Out :=
 let x4 := (x1 == x3)
 iteD x4 (
 callD (φ_ee [C.list x0, C.list x2]) [.bool] fun r5 =>
 let x5 := (getC r5 0).toBool
 some (.ret [C.bool x5])) <|
 some (.ret [C.bool false])
def t_ec : Tree :=
.letp .len [vL 0] <|
.letp .len [vL 1] <|
.letp .neI [vI 2, vI 3] <|
.ite (.v 4) (
 .ret [⟨.bool, (.b false)⟩]) <|
.iter [nI 0] <|
.letp .len [vL 0] <|
.letp .ltI [vI 5, vI 6] <|
.ite (.v 7) (
 .row (.v 0) (.v 5) [kI, kI, kI, kI] <|
 .row (.v 1) (.v 5) [kI, kI, kI, kI] <|
 .letp (.nes 4) [vI 8, vI 9, vI 10, vI 11, vI 12, vI 13, vI 14, vI 15] <|
 .ite (.v 16) (
 .up <|
 .ret [⟨.bool, (.b false)⟩]) <|
 .letp (.add .i64) [vI 5, nI 1] <|
 .jump [vI 17]) <|
.up <|
.ret [⟨.bool, (.b true)⟩]
def φ_ec := mir (ph []) t_ec
def L_ec_0 (x0 x1 : LL) (x5 : Int) : Option Out :=
 let x6 : Int := x0.length
 let x7 := decide (x5 < x6)
 iteD x7 (
 rowD (.list x0) (.int .i64 x5) [(.int .i64), (.int .i64), (.int .i64), (.int .i64)] fun r8 =>
 let x8 := (getC r8 0).toInt
 let x9 := (getC r8 1).toInt
 let x10 := (getC r8 2).toInt
 let x11 := (getC r8 3).toInt
 rowD (.list x1) (.int .i64 x5) [(.int .i64), (.int .i64), (.int .i64), (.int .i64)] fun r12 =>
 let x12 := (getC r12 0).toInt
 let x13 := (getC r12 1).toInt
 let x14 := (getC r12 2).toInt
 let x15 := (getC r12 3).toInt
 let x16 := (!([x8, x9, x10, x11] == ([x12, x13, x14, x15] : List Int)))
 iteD x16 (
 upD <|
 some (.ret [C.bool false])) <|
 let x17 := IntKind.wrap .i64 (x5 + 1)
 some (.jump [C.int .i64 x17])) <|
 upD <|
 some (.ret [C.bool true])
def F_ec (x0 x1 : LL) : Option Out :=
 let x2 : Int := x0.length
 let x3 : Int := x1.length
 let x4 := (x2 != x3)
 iteD x4 (
 some (.ret [C.bool false])) <|
 iterD (fun ps => L_ec_0 x0 x1 ((getC ps 0).toInt)) [C.int .i64 0]
def t_eg : Tree :=
.letp .eqB [vB 0, vB 4] <|
.ite (.v 8) (
 .call 0 [vL 1, vI 2, vL 5, vI 6] [.bool] <|
 .ite (.v 9) (
 .call 1 [vL 3, vL 7] [.bool] <|
 .ret [vB 10]) <|
 .ret [⟨.bool, (.b false)⟩]) <|
.ret [⟨.bool, (.b false)⟩]
def Φ_eg : Phi := ph [φ_fd, φ_ec]
def φ_eg := mir Φ_eg t_eg
def F_eg (x0 : Bool) (x1 : LL) (x2 : Int) (x3 : LL) (x4 : Bool) (x5 : LL) (x6 : Int) (x7 : LL) : Option Out :=
 let x8 := (x0 == x4)
 iteD x8 (
 callD (φ_fd [C.list x1, C.int .i64 x2, C.list x5, C.int .i64 x6]) [.bool] fun r9 =>
 let x9 := (getC r9 0).toBool
 iteD x9 (
 callD (φ_ec [C.list x3, C.list x7]) [.bool] fun r10 =>
 let x10 := (getC r10 0).toBool
 some (.ret [C.bool x10])) <|
 some (.ret [C.bool false])) <|
 some (.ret [C.bool false])
def t_dp : Tree :=
.letp .eqI [vI 0, vI 5] <|
.ite (.v 10) (
 .letp .eqB [vB 1, vB 6] <|
 .ite (.v 11) (
 .letp .eqI [vI 2, vI 7] <|
 .ite (.v 12) (
 .call 0 [vL 3, vI 4, vL 8, vI 9] [.bool] <|
 .ret [vB 13]) <|
 .ret [⟨.bool, (.b false)⟩]) <|
 .ret [⟨.bool, (.b false)⟩]) <|
.ret [⟨.bool, (.b false)⟩]
def Φ_dp : Phi := ph [φ_fd]
def φ_dp := mir Φ_dp t_dp
def F_dp (x0 : Int) (x1 : Bool) (x2 : Int) (x3 : LL) (x4 x5 : Int) (x6 : Bool) (x7 : Int) (x8 : LL) (x9 : Int) : Option Out :=
 let x10 := (x0 == x5)
 iteD x10 (
 let x11 := (x1 == x6)
 iteD x11 (
 let x12 := (x2 == x7)
 iteD x12 (
 callD (φ_fd [C.list x3, C.int .i64 x4, C.list x8, C.int .i64 x9]) [.bool] fun r13 =>
 let x13 := (getC r13 0).toBool
 some (.ret [C.bool x13])) <|
 some (.ret [C.bool false])) <|
 some (.ret [C.bool false])) <|
 some (.ret [C.bool false])
def t_do : Tree :=
.call 0 [vB 0, vL 1, vI 2, vL 3, vB 6, vL 7, vI 8, vL 9] [.bool] <|
.letp .not [vB 12] <|
.ite (.v 13) (
 .ret [⟨.bool, (.b false)⟩]) <|
.call 1 [vL 5, vL 11] [.bool] <|
.letp .not [vB 14] <|
.ite (.v 15) (
 .ret [⟨.bool, (.b false)⟩]) <|
.letp .len [vL 4] <|
.letp .len [vL 10] <|
.letp .neI [vI 16, vI 17] <|
.ite (.v 18) (
 .ret [⟨.bool, (.b false)⟩]) <|
.iter [nI 0] <|
.letp .len [vL 4] <|
.letp .ltI [vI 19, vI 20] <|
.ite (.v 21) (
 .row (.v 4) (.v 19) [kI, .bool, kI, .list, kI] <|
 .row (.v 10) (.v 19) [kI, .bool, kI, .list, kI] <|
 .call 2 [vI 22, vB 23, vI 24, vL 25, vI 26, vI 27, vB 28, vI 29, vL 30, vI 31] [.bool] <|
 .letp .not [vB 32] <|
 .ite (.v 33) (
 .up <|
 .ret [⟨.bool, (.b false)⟩]) <|
 .letp (.add .i64) [vI 19, nI 1] <|
 .jump [vI 34]) <|
.up <|
.ret [⟨.bool, (.b true)⟩]
def Φ_do : Phi := ph [φ_eg, φ_ec, φ_dp]
def φ_do := mir Φ_do t_do
def L_do_0 (x4 x10 : LL) (x19 : Int) : Option Out :=
 let x20 : Int := x4.length
 let x21 := decide (x19 < x20)
 iteD x21 (
 rowD (.list x4) (.int .i64 x19) [(.int .i64), .bool, (.int .i64), .list, (.int .i64)] fun r22 =>
 let x22 := (getC r22 0).toInt
 let x23 := (getC r22 1).toBool
 let x24 := (getC r22 2).toInt
 let x25 := (getC r22 3).toList
 let x26 := (getC r22 4).toInt
 rowD (.list x10) (.int .i64 x19) [(.int .i64), .bool, (.int .i64), .list, (.int .i64)] fun r27 =>
 let x27 := (getC r27 0).toInt
 let x28 := (getC r27 1).toBool
 let x29 := (getC r27 2).toInt
 let x30 := (getC r27 3).toList
 let x31 := (getC r27 4).toInt
 callD (φ_dp [C.int .i64 x22, C.bool x23, C.int .i64 x24, C.list x25, C.int .i64 x26, C.int .i64 x27, C.bool x28, C.int .i64 x29, C.list x30, C.int .i64 x31]) [.bool] fun r32 =>
 let x32 := (getC r32 0).toBool
 let x33 := (!x32)
 iteD x33 (
 upD <|
 some (.ret [C.bool false])) <|
 let x34 := IntKind.wrap .i64 (x19 + 1)
 some (.jump [C.int .i64 x34])) <|
 upD <|
 some (.ret [C.bool true])
def F_do (x0 : Bool) (x1 : LL) (x2 : Int) (x3 x4 x5 : LL) (x6 : Bool) (x7 : LL) (x8 : Int) (x9 x10 x11 : LL) : Option Out :=
 callD (φ_eg [C.bool x0, C.list x1, C.int .i64 x2, C.list x3, C.bool x6, C.list x7, C.int .i64 x8, C.list x9]) [.bool] fun r12 =>
 let x12 := (getC r12 0).toBool
 let x13 := (!x12)
 iteD x13 (
 some (.ret [C.bool false])) <|
 callD (φ_ec [C.list x5, C.list x11]) [.bool] fun r14 =>
 let x14 := (getC r14 0).toBool
 let x15 := (!x14)
 iteD x15 (
 some (.ret [C.bool false])) <|
 let x16 : Int := x4.length
 let x17 : Int := x10.length
 let x18 := (x16 != x17)
 iteD x18 (
 some (.ret [C.bool false])) <|
 iterD (fun ps => L_do_0 x4 x10 ((getC ps 0).toInt)) [C.int .i64 0]
end
end Dx
