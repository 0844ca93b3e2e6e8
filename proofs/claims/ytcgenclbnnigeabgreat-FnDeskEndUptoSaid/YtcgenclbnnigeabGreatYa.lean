/- The trees of the functions, what they stand for, and the same in typed text. -/
import Derived.Test.YtcgenclbnnigeabGreatXd
import Derived.KernelRfl
set_option linter.all false
set_option linter.unusedVariables false
set_option linter.unusedSimpArgs false
set_option linter.unnecessarySimpa false
namespace Dx
open Go
abbrev LL := List (List C)
abbrev vI (n : Nat) : Cell := ⟨.int .i64, .v n⟩
abbrev vL (n : Nat) : Cell := ⟨.list, .v n⟩
abbrev vB (n : Nat) : Cell := ⟨.bool, .v n⟩
abbrev nI (n : Int) : Cell := ⟨.int .i64, .n n⟩
abbrev kI : CK := .int .i64
noncomputable section
def t_df : Tree :=
.letp .len [vL 0] <|
.letp .gtI [vI 1, nI 2000] <|
.ite (.v 2) (
 .chk .upto [nI 2000, vL 0] <|
 .letp .take [vL 0, nI 2000] <|
 .ret [vL 3, nI 0]) <|
.ret [vL 0, nI 0]
def φ_df := mir (ph []) t_df
def F_df (x0 : LL) : Option Out :=
 let x1 : Int := x0.length
 let x2 := decide (x1 > 2000)
 iteD x2 (
 whenD ((decide ((0 : Int) <= 2000) && decide ((2000 : Int) <= (x0.length : Nat)))) <|
 let x3 := (x0.take (Int.toNat 2000))
 some (.ret [C.list x3, C.int .i64 0])) <|
 some (.ret [C.list x0, C.int .i64 0])
def t_bi : Tree :=
.letp (.add .i64) [vI 1, nI 1] <|
.letp .ltI [vI 2, nI 1] <|
.ite (.v 4) (
 .ret [nI 0, vL 0, vI 3]) <|
.letp .len [vL 0] <|
.letp .eqI [vI 5, nI 0] <|
.ite (.v 6) (
 .ret [nI 0, vL 0, vI 3]) <|
.letp (.sub .i64) [vI 3, nI 1] <|
.letp .len [vL 0] <|
.letp .ltI [vI 7, vI 8] <|
.ite (.v 9) (
 .row (.v 0) (.v 7) [(.int .u8)] <|
 .letp (.conv .i64) [⟨(.int .u8), (.v 10)⟩] <|
 .chk .nz [vI 2] <|
 .letp (.rem .i64) [vI 11, vI 2] <|
 .ret [vI 12, vL 0, vI 3]) <|
.letp .len [vL 0] <|
.chk .nz [vI 10] <|
.letp (.rem .i64) [vI 7, vI 10] <|
.row (.v 0) (.v 11) [(.int .u8)] <|
.letp (.conv .i64) [⟨(.int .u8), (.v 12)⟩] <|
.letp (.mul .i64) [vI 13, nI 131] <|
.letp (.mul .i64) [vI 7, nI 7] <|
.letp (.add .i64) [vI 15, nI 3] <|
.letp .len [vL 0] <|
.chk .nz [vI 17] <|
.letp (.rem .i64) [vI 16, vI 17] <|
.row (.v 0) (.v 18) [(.int .u8)] <|
.letp (.conv .i64) [⟨(.int .u8), (.v 19)⟩] <|
.letp (.mul .i64) [vI 20, nI 1117] <|
.letp (.add .i64) [vI 14, vI 21] <|
.letp (.mul .i64) [vI 7, nI 29] <|
.letp (.add .i64) [vI 22, vI 23] <|
.letp .len [vL 0] <|
.chk .nz [vI 25] <|
.letp (.quo .i64) [vI 7, vI 25] <|
.letp (.mul .i64) [vI 26, nI 53] <|
.letp (.add .i64) [vI 24, vI 27] <|
.letp (.quo .i64) [vI 28, nI 64] <|
.letp (.xor .i64) [vI 28, vI 29] <|
.chk .nz [vI 2] <|
.letp (.rem .i64) [vI 30, vI 2] <|
.ret [vI 31, vL 0, vI 3]
def φ_bi := mir (ph []) t_bi
def F_bi (x0 : LL) (x1 x2 : Int) : Option Out :=
 let x3 := IntKind.wrap .i64 (x1 + 1)
 let x4 := decide (x2 < 1)
 iteD x4 (
 some (.ret [C.int .i64 0, C.list x0, C.int .i64 x3])) <|
 let x5 : Int := x0.length
 let x6 := (x5 == 0)
 iteD x6 (
 some (.ret [C.int .i64 0, C.list x0, C.int .i64 x3])) <|
 let x7 := IntKind.wrap .i64 (x3 - 1)
 let x8 : Int := x0.length
 let x9 := decide (x7 < x8)
 iteD x9 (
 rowD (.list x0) (.int .i64 x7) [(.int .u8)] fun r10 =>
 let x10 := (getC r10 0).toInt
 let x11 := IntKind.wrap .i64 (x10)
 whenD ((x2 != 0)) <|
 let x12 : Int := Int.tmod x11 x2
 some (.ret [C.int .i64 x12, C.list x0, C.int .i64 x3])) <|
 let x10 : Int := x0.length
 whenD ((x10 != 0)) <|
 let x11 : Int := Int.tmod x7 x10
 rowD (.list x0) (.int .i64 x11) [(.int .u8)] fun r12 =>
 let x12 := (getC r12 0).toInt
 let x13 := IntKind.wrap .i64 (x12)
 let x14 := IntKind.wrap .i64 (x13 * 131)
 let x15 := IntKind.wrap .i64 (x7 * 7)
 let x16 := IntKind.wrap .i64 (x15 + 3)
 let x17 : Int := x0.length
 whenD ((x17 != 0)) <|
 let x18 : Int := Int.tmod x16 x17
 rowD (.list x0) (.int .i64 x18) [(.int .u8)] fun r19 =>
 let x19 := (getC r19 0).toInt
 let x20 := IntKind.wrap .i64 (x19)
 let x21 := IntKind.wrap .i64 (x20 * 1117)
 let x22 := IntKind.wrap .i64 (x14 + x21)
 let x23 := IntKind.wrap .i64 (x7 * 29)
 let x24 := IntKind.wrap .i64 (x22 + x23)
 let x25 : Int := x0.length
 whenD ((x25 != 0)) <|
 let x26 := IntKind.wrap .i64 (Int.tdiv x7 x25)
 let x27 := IntKind.wrap .i64 (x26 * 53)
 let x28 := IntKind.wrap .i64 (x24 + x27)
 let x29 := IntKind.wrap .i64 (Int.tdiv x28 64)
 let x30 := IntKind.wrap .i64 ((BitVec.ofInt 64 x28 ^^^ BitVec.ofInt 64 x29).toNat)
 whenD ((x2 != 0)) <|
 let x31 : Int := Int.tmod x30 x2
 some (.ret [C.int .i64 x31, C.list x0, C.int .i64 x3])
def t_bk : Tree :=
.call 0 [vL 0, vI 1, nI 6] [kI, .list, kI] <|
.call 0 [vL 3, vI 4, nI 6] [kI, .list, kI] <|
.call 0 [vL 6, vI 7, nI 5] [kI, .list, kI] <|
.letp (.add .i64) [nI 1, vI 8] <|
.letp (.mkl 1) [vI 2, vI 5, vI 11] <|
.ret [vL 12, vL 9, vI 10]
def Φ_bk : Phi := ph [φ_bi]
def φ_bk := mir Φ_bk t_bk
def F_bk (x0 : LL) (x1 : Int) : Option Out :=
 callD (φ_bi [C.list x0, C.int .i64 x1, C.int .i64 6]) [(.int .i64), .list, (.int .i64)] fun r2 =>
 let x2 := (getC r2 0).toInt
 let x3 := (getC r2 1).toList
 let x4 := (getC r2 2).toInt
 callD (φ_bi [C.list x3, C.int .i64 x4, C.int .i64 6]) [(.int .i64), .list, (.int .i64)] fun r5 =>
 let x5 := (getC r5 0).toInt
 let x6 := (getC r5 1).toList
 let x7 := (getC r5 2).toInt
 callD (φ_bi [C.list x6, C.int .i64 x7, C.int .i64 5]) [(.int .i64), .list, (.int .i64)] fun r8 =>
 let x8 := (getC r8 0).toInt
 let x9 := (getC r8 1).toList
 let x10 := (getC r8 2).toInt
 let x11 := IntKind.wrap .i64 (1 + x8)
 let x12 := [[C.int .i64 x2], [C.int .i64 x5], [C.int .i64 x11]]
 some (.ret [C.list x12, C.list x9, C.int .i64 x10])
def t_cb : Tree :=
.ret [⟨.bool, (.b true)⟩, ⟨.list, .e⟩, nI 0, ⟨.list, .e⟩]
def φ_cb := mir (ph []) t_cb
def F_cb : Option Out :=
 some (.ret [C.bool true, C.list ([] : LL), C.int .i64 0, C.list ([] : LL)])
def t_ea : Tree :=
.letp .geI [vI 0, vI 1] <|
.ite (.v 3) (
 .letp .leI [vI 0, vI 2] <|
 .ret [vB 4]) <|
.ret [⟨.bool, (.b false)⟩]
def φ_ea := mir (ph []) t_ea
def F_ea (x0 x1 x2 : Int) : Option Out :=
 let x3 := decide (x0 >= x1)
 iteD x3 (
 let x4 := decide (x0 <= x2)
 some (.ret [C.bool x4])) <|
 some (.ret [C.bool false])
def t_bw : Tree :=
.call 0 [vI 0, nI 0, nI 9] [.bool] <|
.letp .not [vB 1] <|
.ite (.v 2) (
 .ret [nI 0, ⟨.list, .e⟩, ⟨.bool, (.b false)⟩]) <|
.letp .rep [nI 6, nI 0, nI 0] <|
.ret [vI 0, vL 3, ⟨.bool, (.b true)⟩]
def Φ_bw : Phi := ph [φ_ea]
def φ_bw := mir Φ_bw t_bw
def F_bw (x0 : Int) : Option Out :=
 callD (φ_ea [C.int .i64 x0, C.int .i64 0, C.int .i64 9]) [.bool] fun r1 =>
 let x1 := (getC r1 0).toBool
 let x2 := (!x1)
 iteD x2 (
 some (.ret [C.int .i64 0, C.list ([] : LL), C.bool false])) <|
 let x3 := (List.replicate (Int.toNat 6) [C.int .i64 0, C.int .i64 0])
 some (.ret [C.int .i64 x0, C.list x3, C.bool true])
def t_bl : Tree :=
.call 0 [vI 1] [kI, .list, .bool] <|
.call 1 [vI 0, nI 1, nI 3] [.bool] <|
.letp .not [vB 5] <|
.ite (.v 6) (
 .ret [nI 0, ⟨.bool, (.b false)⟩, nI 0, ⟨.list, .e⟩, nI 0, ⟨.bool, (.b false)⟩]) <|
.letp .not [vB 4] <|
.ite (.v 7) (
 .ret [nI 0, ⟨.bool, (.b false)⟩, nI 0, ⟨.list, .e⟩, nI 0, ⟨.bool, (.b false)⟩]) <|
.ret [vI 0, ⟨.bool, (.b true)⟩, vI 1, ⟨.list, .e⟩, nI 0, ⟨.bool, (.b true)⟩]
def Φ_bl : Phi := ph [φ_bw, φ_ea]
def φ_bl := mir Φ_bl t_bl
def F_bl (x0 x1 : Int) : Option Out :=
 callD (φ_bw [C.int .i64 x1]) [(.int .i64), .list, .bool] fun r2 =>
 let x2 := (getC r2 0).toInt
 let x3 := (getC r2 1).toList
 let x4 := (getC r2 2).toBool
 callD (φ_ea [C.int .i64 x0, C.int .i64 1, C.int .i64 3]) [.bool] fun r5 =>
 let x5 := (getC r5 0).toBool
 let x6 := (!x5)
 iteD x6 (
 some (.ret [C.int .i64 0, C.bool false, C.int .i64 0, C.list ([] : LL), C.int .i64 0, C.bool false])) <|
 let x7 := (!x4)
 iteD x7 (
 some (.ret [C.int .i64 0, C.bool false, C.int .i64 0, C.list ([] : LL), C.int .i64 0, C.bool false])) <|
 some (.ret [C.int .i64 x0, C.bool true, C.int .i64 x1, C.list ([] : LL), C.int .i64 0, C.bool true])
def t_bq : Tree :=
.call 0 [] [.bool, .list, kI, .list] <|
.iter [nI 0, ⟨.list, .e⟩] <|
.letp .len [vL 0] <|
.letp .ltI [vI 5, vI 7] <|
.ite (.v 8) (
 .letp (.add .i64) [vI 5, nI 1] <|
 .row (.v 0) (.v 5) [kI] <|
 .call 1 [vI 9, vI 10] [kI, .bool, kI, .list, kI, .bool] <|
 .letp .not [vB 16] <|
 .ite (.v 17) (
 .up <|
 .ret [⟨.bool, (.b false)⟩, ⟨.list, .e⟩, nI 0, ⟨.list, .e⟩, ⟨.list, .e⟩, ⟨.list, .e⟩, ⟨.bool, (.b false)⟩]) <|
 .letp (.mkl 5) [vI 11, vB 12, vI 13, vL 14, vI 15] <|
 .chk .fits [vL 6, vL 18] <|
 .letp .app [vL 6, vL 18] <|
 .letp (.add .i64) [vI 5, nI 1] <|
 .jump [vI 20, vL 19]) <|
.up <|
.letp .len [vL 0] <|
.letp .neI [vI 9, nI 3] <|
.ite (.v 10) (
 .ret [⟨.bool, (.b false)⟩, ⟨.list, .e⟩, nI 0, ⟨.list, .e⟩, ⟨.list, .e⟩, ⟨.list, .e⟩, ⟨.bool, (.b false)⟩]) <|
.ret [vB 1, vL 2, vI 3, vL 4, vL 6, ⟨.list, .e⟩, ⟨.bool, (.b true)⟩]
def Φ_bq : Phi := ph [φ_cb, φ_bl]
def φ_bq := mir Φ_bq t_bq
def L_bq_0 (x0 : LL) (x1 : Bool) (x2 : LL) (x3 : Int) (x4 : LL) (x5 : Int) (x6 : LL) : Option Out :=
 let x7 : Int := x0.length
 let x8 := decide (x5 < x7)
 iteD x8 (
 let x9 := IntKind.wrap .i64 (x5 + 1)
 rowD (.list x0) (.int .i64 x5) [(.int .i64)] fun r10 =>
 let x10 := (getC r10 0).toInt
 callD (φ_bl [C.int .i64 x9, C.int .i64 x10]) [(.int .i64), .bool, (.int .i64), .list, (.int .i64), .bool] fun r11 =>
 let x11 := (getC r11 0).toInt
 let x12 := (getC r11 1).toBool
 let x13 := (getC r11 2).toInt
 let x14 := (getC r11 3).toList
 let x15 := (getC r11 4).toInt
 let x16 := (getC r11 5).toBool
 let x17 := (!x16)
 iteD x17 (
 upD <|
 some (.ret [C.bool false, C.list ([] : LL), C.int .i64 0, C.list ([] : LL), C.list ([] : LL), C.list ([] : LL), C.bool false])) <|
 let x18 := [[C.int .i64 x11, C.bool x12, C.int .i64 x13, C.list x14, C.int .i64 x15]]
 whenD (decide (x6.length + x18.length <= LMAX)) <|
 let x19 := (x6 ++ x18)
 let x20 := IntKind.wrap .i64 (x5 + 1)
 some (.jump [C.int .i64 x20, C.list x19])) <|
 upD <|
 let x9 : Int := x0.length
 let x10 := (x9 != 3)
 iteD x10 (
 some (.ret [C.bool false, C.list ([] : LL), C.int .i64 0, C.list ([] : LL), C.list ([] : LL), C.list ([] : LL), C.bool false])) <|
 some (.ret [C.bool x1, C.list x2, C.int .i64 x3, C.list x4, C.list x6, C.list ([] : LL), C.bool true])
def F_bq (x0 : LL) : Option Out :=
 callD (φ_cb []) [.bool, .list, (.int .i64), .list] fun r1 =>
 let x1 := (getC r1 0).toBool
 let x2 := (getC r1 1).toList
 let x3 := (getC r1 2).toInt
 let x4 := (getC r1 3).toList
 iterD (fun ps => L_bq_0 x0 x1 x2 x3 x4 ((getC ps 0).toInt) ((getC ps 1).toList)) [C.int .i64 0, C.list ([] : LL)]
def t_dc : Tree :=
.iter [nI 0, nI 0] <|
.letp .len [vL 0] <|
.letp .ltI [vI 2, vI 3] <|
.ite (.v 4) (
 .row (.v 0) (.v 2) [kI] <|
 .call 0 [vI 5, nI 0, nI 3] [.bool] <|
 .letp .not [vB 6] <|
 .ite (.v 7) (
 .up <|
 .ret [⟨.bool, (.b false)⟩]) <|
 .row (.v 0) (.v 2) [kI] <|
 .letp (.add .i64) [vI 1, vI 8] <|
 .letp (.add .i64) [vI 2, nI 1] <|
 .jump [vI 9, vI 10]) <|
.up <|
.letp .len [vL 0] <|
.letp .eqI [vI 5, nI 3] <|
.ite (.v 6) (
 .letp .gtI [vI 1, nI 0] <|
 .ret [vB 7]) <|
.ret [⟨.bool, (.b false)⟩]
def Φ_dc : Phi := ph [φ_ea]
def φ_dc := mir Φ_dc t_dc
def L_dc_0 (x0 : LL) (x1 x2 : Int) : Option Out :=
 let x3 : Int := x0.length
 let x4 := decide (x2 < x3)
 iteD x4 (
 rowD (.list x0) (.int .i64 x2) [(.int .i64)] fun r5 =>
 let x5 := (getC r5 0).toInt
 callD (φ_ea [C.int .i64 x5, C.int .i64 0, C.int .i64 3]) [.bool] fun r6 =>
 let x6 := (getC r6 0).toBool
 let x7 := (!x6)
 iteD x7 (
 upD <|
 some (.ret [C.bool false])) <|
 rowD (.list x0) (.int .i64 x2) [(.int .i64)] fun r8 =>
 let x8 := (getC r8 0).toInt
 let x9 := IntKind.wrap .i64 (x1 + x8)
 let x10 := IntKind.wrap .i64 (x2 + 1)
 some (.jump [C.int .i64 x9, C.int .i64 x10])) <|
 upD <|
 let x5 : Int := x0.length
 let x6 := (x5 == 3)
 iteD x6 (
 let x7 := decide (x1 > 0)
 some (.ret [C.bool x7])) <|
 some (.ret [C.bool false])
def F_dc (x0 : LL) : Option Out :=
 iterD (fun ps => L_dc_0 x0 ((getC ps 0).toInt) ((getC ps 1).toInt)) [C.int .i64 0, C.int .i64 0]
def t_dx : Tree :=
.call 0 [vI 1, nI 1, nI 6] [.bool] <|
.letp .not [vB 3] <|
.ite (.v 4) (
 .ret [⟨.bool, (.b false)⟩]) <|
.letp .eqI [vI 0, nI 1] <|
.ite (.v 5) (
 .letp .len [vL 2] <|
 .letp .eqI [vI 6, nI 1] <|
 .ite (.v 7) (
 .row (.v 2) (.n 0) [kI] <|
 .call 0 [vI 8, nI 1, nI 3] [.bool] <|
 .ret [vB 9]) <|
 .ret [⟨.bool, (.b false)⟩]) <|
.letp .eqI [vI 0, nI 4] <|
.ite (.v 6) (
 .call 1 [vL 2] [.bool] <|
 .ret [vB 7]) <|
.call 0 [vI 0, nI 2, nI 7] [.bool] <|
.ite (.v 7) (
 .letp .len [vL 2] <|
 .letp .eqI [vI 8, nI 0] <|
 .ret [vB 9]) <|
.ret [⟨.bool, (.b false)⟩]
def Φ_dx : Phi := ph [φ_ea, φ_dc]
def φ_dx := mir Φ_dx t_dx
def F_dx (x0 x1 : Int) (x2 : LL) : Option Out :=
 callD (φ_ea [C.int .i64 x1, C.int .i64 1, C.int .i64 6]) [.bool] fun r3 =>
 let x3 := (getC r3 0).toBool
 let x4 := (!x3)
 iteD x4 (
 some (.ret [C.bool false])) <|
 let x5 := (x0 == 1)
 iteD x5 (
 let x6 : Int := x2.length
 let x7 := (x6 == 1)
 iteD x7 (
 rowD (.list x2) (.int .i64 0) [(.int .i64)] fun r8 =>
 let x8 := (getC r8 0).toInt
 callD (φ_ea [C.int .i64 x8, C.int .i64 1, C.int .i64 3]) [.bool] fun r9 =>
 let x9 := (getC r9 0).toBool
 some (.ret [C.bool x9])) <|
 some (.ret [C.bool false])) <|
 let x6 := (x0 == 4)
 iteD x6 (
 callD (φ_dc [C.list x2]) [.bool] fun r7 =>
 let x7 := (getC r7 0).toBool
 some (.ret [C.bool x7])) <|
 callD (φ_ea [C.int .i64 x0, C.int .i64 2, C.int .i64 7]) [.bool] fun r7 =>
 let x7 := (getC r7 0).toBool
 iteD x7 (
 let x8 : Int := x2.length
 let x9 := (x8 == 0)
 some (.ret [C.bool x9])) <|
 some (.ret [C.bool false])
def t_do : Tree :=
.letp .eqI [vI 1, nI 4] <|
.ite (.v 4) (
 .letp .len [vL 0] <|
 .letp (.add .i64) [vI 5, nI 1] <|
 .letp .eqI [vI 2, vI 6] <|
 .ret [vB 7]) <|
.letp .len [vL 0] <|
.letp .gtI [vI 2, vI 5] <|
.ite (.v 6) (
 .ret [⟨.bool, (.b false)⟩]) <|
.letp (.sub .i64) [vI 2, nI 1] <|
.row (.v 0) (.v 7) [.list, kI] <|
.letp .eqI [vI 1, nI 5] <|
.ite (.v 10) (
 .letp .eqI [vI 9, nI 1] <|
 .ret [vB 11]) <|
.letp .eqI [vI 1, nI 6] <|
.ite (.v 11) (
 .letp .eqI [vI 9, nI 1] <|
 .ret [vB 12]) <|
.letp .eqI [vI 1, nI 7] <|
.ite (.v 12) (
 .letp .eqI [vI 9, nI 2] <|
 .ite (.v 13) (
 .ret [⟨.bool, (.b true)⟩]) <|
 .letp .eqI [vI 9, nI 3] <|
 .ret [vB 14]) <|
.ret [⟨.bool, (.b false)⟩]
def φ_do := mir (ph []) t_do
def F_do (x0 : LL) (x1 x2 : Int) (x3 : LL) : Option Out :=
 let x4 := (x1 == 4)
 iteD x4 (
 let x5 : Int := x0.length
 let x6 := IntKind.wrap .i64 (x5 + 1)
 let x7 := (x2 == x6)
 some (.ret [C.bool x7])) <|
 let x5 : Int := x0.length
 let x6 := decide (x2 > x5)
 iteD x6 (
 some (.ret [C.bool false])) <|
 let x7 := IntKind.wrap .i64 (x2 - 1)
 rowD (.list x0) (.int .i64 x7) [.list, (.int .i64)] fun r8 =>
 let x8 := (getC r8 0).toList
 let x9 := (getC r8 1).toInt
 let x10 := (x1 == 5)
 iteD x10 (
 let x11 := (x9 == 1)
 some (.ret [C.bool x11])) <|
 let x11 := (x1 == 6)
 iteD x11 (
 let x12 := (x9 == 1)
 some (.ret [C.bool x12])) <|
 let x12 := (x1 == 7)
 iteD x12 (
 let x13 := (x9 == 2)
 iteD x13 (
 some (.ret [C.bool true])) <|
 let x14 := (x9 == 3)
 some (.ret [C.bool x14])) <|
 some (.ret [C.bool false])
def t_spec_l12Do : Tree :=
.letp .eqI [vI 1, nI 4] <|
.ite (.v 4) (
 .chk (.rowsk [kI]) [vL 3] <|
 .chk .fits [⟨.list, .e⟩, vL 3] <|
 .letp .app [⟨.list, .e⟩, vL 3] <|
 .letp (.mkl 2) [vL 5, nI 1] <|
 .chk .fits [vL 0, vL 6] <|
 .letp .app [vL 0, vL 6] <|
 .ret [vL 7]) <|
.letp .eqI [vI 1, nI 5] <|
.ite (.v 5) (
 .letp (.sub .i64) [vI 2, nI 1] <|
 .chk .idx [vI 6, vL 0] <|
 .letp (.setr 1) [vL 0, vI 6, nI 2] <|
 .ret [vL 7]) <|
.letp .eqI [vI 1, nI 6] <|
.ite (.v 6) (
 .letp (.sub .i64) [vI 2, nI 1] <|
 .chk .idx [vI 7, vL 0] <|
 .letp (.setr 1) [vL 0, vI 7, nI 3] <|
 .ret [vL 8]) <|
.letp .eqI [vI 1, nI 7] <|
.ite (.v 7) (
 .letp (.sub .i64) [vI 2, nI 1] <|
 .letp (.sub .i64) [vI 2, nI 1] <|
 .chk .idx [vI 9, vL 0] <|
 .row (.v 0) (.v 9) [.list, kI] <|
 .letp (.add .i64) [vI 11, nI 2] <|
 .chk .idx [vI 8, vL 0] <|
 .letp (.setr 1) [vL 0, vI 8, vI 12] <|
 .ret [vL 13]) <|
.ret [vL 0]
def φ_spec_l12Do := mir (ph []) t_spec_l12Do
def F_spec_l12Do (x0 : LL) (x1 x2 : Int) (x3 : LL) : Option Out :=
 let x4 := (x1 == 4)
 iteD x4 (
 whenD ((x3.all (kindsB [(.int .i64)]))) <|
 whenD (decide (([] : LL).length + x3.length <= LMAX)) <|
 let x5 := (([] : LL) ++ x3)
 let x6 := [[C.list x5, C.int .i64 1]]
 whenD (decide (x0.length + x6.length <= LMAX)) <|
 let x7 := (x0 ++ x6)
 some (.ret [C.list x7])) <|
 let x5 := (x1 == 5)
 iteD x5 (
 let x6 := IntKind.wrap .i64 (x2 - 1)
 whenD ((decide ((0 : Int) <= x6) && decide (x6 < (x0.length : Nat)))) <|
 let x7 := (setRow 1 x0 (Int.toNat x6) [C.int .i64 2])
 some (.ret [C.list x7])) <|
 let x6 := (x1 == 6)
 iteD x6 (
 let x7 := IntKind.wrap .i64 (x2 - 1)
 whenD ((decide ((0 : Int) <= x7) && decide (x7 < (x0.length : Nat)))) <|
 let x8 := (setRow 1 x0 (Int.toNat x7) [C.int .i64 3])
 some (.ret [C.list x8])) <|
 let x7 := (x1 == 7)
 iteD x7 (
 let x8 := IntKind.wrap .i64 (x2 - 1)
 let x9 := IntKind.wrap .i64 (x2 - 1)
 whenD ((decide ((0 : Int) <= x9) && decide (x9 < (x0.length : Nat)))) <|
 rowD (.list x0) (.int .i64 x9) [.list, (.int .i64)] fun r10 =>
 let x10 := (getC r10 0).toList
 let x11 := (getC r10 1).toInt
 let x12 := IntKind.wrap .i64 (x11 + 2)
 whenD ((decide ((0 : Int) <= x8) && decide (x8 < (x0.length : Nat)))) <|
 let x13 := (setRow 1 x0 (Int.toNat x8) [C.int .i64 x12])
 some (.ret [C.list x13])) <|
 some (.ret [C.list x0])
def t_dr : Tree :=
.iter [nI 0, ⟨.list, .e⟩] <|
.letp .len [vL 0] <|
.letp .ltI [vI 1, vI 3] <|
.ite (.v 4) (
 .row (.v 0) (.v 1) [kI, kI, .list] <|
 .call 0 [vI 5, vI 6, vL 7] [.bool] <|
 .letp .not [vB 8] <|
 .ite (.v 9) (
 .up <|
 .ret [⟨.list, .e⟩, ⟨.bool, (.b false)⟩]) <|
 .row (.v 0) (.v 1) [kI, kI, .list] <|
 .call 1 [vL 2, vI 10, vI 11, vL 12] [.bool] <|
 .letp .not [vB 13] <|
 .ite (.v 14) (
 .up <|
 .ret [⟨.list, .e⟩, ⟨.bool, (.b false)⟩]) <|
 .row (.v 0) (.v 1) [kI, kI, .list] <|
 .call 2 [vL 2, vI 15, vI 16, vL 17] [.list] <|
 .letp (.add .i64) [vI 1, nI 1] <|
 .jump [vI 19, vL 18]) <|
.up <|
.ret [vL 2, ⟨.bool, (.b true)⟩]
def Φ_dr : Phi := ph [φ_dx, φ_do, φ_spec_l12Do]
def φ_dr := mir Φ_dr t_dr
def L_dr_0 (x0 : LL) (x1 : Int) (x2 : LL) : Option Out :=
 let x3 : Int := x0.length
 let x4 := decide (x1 < x3)
 iteD x4 (
 rowD (.list x0) (.int .i64 x1) [(.int .i64), (.int .i64), .list] fun r5 =>
 let x5 := (getC r5 0).toInt
 let x6 := (getC r5 1).toInt
 let x7 := (getC r5 2).toList
 callD (φ_dx [C.int .i64 x5, C.int .i64 x6, C.list x7]) [.bool] fun r8 =>
 let x8 := (getC r8 0).toBool
 let x9 := (!x8)
 iteD x9 (
 upD <|
 some (.ret [C.list ([] : LL), C.bool false])) <|
 rowD (.list x0) (.int .i64 x1) [(.int .i64), (.int .i64), .list] fun r10 =>
 let x10 := (getC r10 0).toInt
 let x11 := (getC r10 1).toInt
 let x12 := (getC r10 2).toList
 callD (φ_do [C.list x2, C.int .i64 x10, C.int .i64 x11, C.list x12]) [.bool] fun r13 =>
 let x13 := (getC r13 0).toBool
 let x14 := (!x13)
 iteD x14 (
 upD <|
 some (.ret [C.list ([] : LL), C.bool false])) <|
 rowD (.list x0) (.int .i64 x1) [(.int .i64), (.int .i64), .list] fun r15 =>
 let x15 := (getC r15 0).toInt
 let x16 := (getC r15 1).toInt
 let x17 := (getC r15 2).toList
 callD (φ_spec_l12Do [C.list x2, C.int .i64 x15, C.int .i64 x16, C.list x17]) [.list] fun r18 =>
 let x18 := (getC r18 0).toList
 let x19 := IntKind.wrap .i64 (x1 + 1)
 some (.jump [C.int .i64 x19, C.list x18])) <|
 upD <|
 some (.ret [C.list x2, C.bool true])
def F_dr (x0 : LL) : Option Out :=
 iterD (fun ps => L_dr_0 x0 ((getC ps 0).toInt) ((getC ps 1).toList)) [C.int .i64 0, C.list ([] : LL)]
def t_bv : Tree :=
.letp .len [vL 1] <|
.ite (.v 4) (
 .chk .upto [vI 2, vL 1] <|
 .letp .take [vL 1, vI 2] <|
 .call 0 [vL 6] [.list, .bool] <|
 .ret [vL 7]) <|
.chk .upto [vI 5, vL 1] <|
.letp .take [vL 1, vI 5] <|
.call 0 [vL 6] [.list, .bool] <|
.ret [vL 7]
def Φ_bv : Phi := ph [φ_dr]
def φ_bv := mir Φ_bv t_bv
def F_bv (x0 : Bool) (x1 : LL) (x2 : Int) (x3 : LL) (x4 : Bool) : Option Out :=
 let x5 : Int := x1.length
 iteD x4 (
 whenD ((decide ((0 : Int) <= x2) && decide (x2 <= (x1.length : Nat)))) <|
 let x6 := (x1.take (Int.toNat x2))
 callD (φ_dr [C.list x6]) [.list, .bool] fun r7 =>
 let x7 := (getC r7 0).toList
 let x8 := (getC r7 1).toBool
 some (.ret [C.list x7])) <|
 whenD ((decide ((0 : Int) <= x5) && decide (x5 <= (x1.length : Nat)))) <|
 let x6 := (x1.take (Int.toNat x5))
 callD (φ_dr [C.list x6]) [.list, .bool] fun r7 =>
 let x7 := (getC r7 0).toList
 let x8 := (getC r7 1).toBool
 some (.ret [C.list x7])
def t_ds : Tree :=
.letp .len [vL 0] <|
.letp .geI [vI 5, nI 40] <|
.ite (.v 6) (
 .ret [vL 0, vI 1, ⟨.bool, (.b false)⟩]) <|
.letp (.mkl 3) [vI 2, vI 3, vL 4] <|
.chk .fits [vL 0, vL 7] <|
.letp .app [vL 0, vL 7] <|
.ret [vL 8, vI 1, ⟨.bool, (.b true)⟩]
def φ_ds := mir (ph []) t_ds
def F_ds (x0 : LL) (x1 x2 x3 : Int) (x4 : LL) : Option Out :=
 let x5 : Int := x0.length
 let x6 := decide (x5 >= 40)
 iteD x6 (
 some (.ret [C.list x0, C.int .i64 x1, C.bool false])) <|
 let x7 := [[C.int .i64 x2, C.int .i64 x3, C.list x4]]
 whenD (decide (x0.length + x7.length <= LMAX)) <|
 let x8 := (x0 ++ x7)
 some (.ret [C.list x8, C.int .i64 x1, C.bool true])
def t_bo : Tree :=
.letp .not [vB 0] <|
.ite (.v 7) (
 .ret [vB 0, vL 1, vI 2, vL 3, ⟨.bool, (.b false)⟩]) <|
.call 0 [vB 0, vL 1, vI 2, vL 3, ⟨.bool, (.b false)⟩] [.list] <|
.call 1 [vL 8, vI 4, vI 5, vL 6] [.bool] <|
.letp .not [vB 9] <|
.ite (.v 10) (
 .ret [vB 0, vL 1, vI 2, vL 3, ⟨.bool, (.b false)⟩]) <|
.call 2 [vL 1, vI 2, vI 4, vI 5, vL 6] [.list, kI, .bool] <|
.ret [vB 0, vL 11, vI 12, vL 3, vB 13]
def Φ_bo : Phi := ph [φ_bv, φ_do, φ_ds]
def φ_bo := mir Φ_bo t_bo
def F_bo (x0 : Bool) (x1 : LL) (x2 : Int) (x3 : LL) (x4 x5 : Int) (x6 : LL) : Option Out :=
 let x7 := (!x0)
 iteD x7 (
 some (.ret [C.bool x0, C.list x1, C.int .i64 x2, C.list x3, C.bool false])) <|
 callD (φ_bv [C.bool x0, C.list x1, C.int .i64 x2, C.list x3, C.bool false]) [.list] fun r8 =>
 let x8 := (getC r8 0).toList
 callD (φ_do [C.list x8, C.int .i64 x4, C.int .i64 x5, C.list x6]) [.bool] fun r9 =>
 let x9 := (getC r9 0).toBool
 let x10 := (!x9)
 iteD x10 (
 some (.ret [C.bool x0, C.list x1, C.int .i64 x2, C.list x3, C.bool false])) <|
 callD (φ_ds [C.list x1, C.int .i64 x2, C.int .i64 x4, C.int .i64 x5, C.list x6]) [.list, (.int .i64), .bool] fun r11 =>
 let x11 := (getC r11 0).toList
 let x12 := (getC r11 1).toInt
 let x13 := (getC r11 2).toBool
 some (.ret [C.bool x0, C.list x11, C.int .i64 x12, C.list x3, C.bool x13])
def t_cf : Tree :=
.iter [nI 0] <|
.letp .len [vL 0] <|
.letp .ltI [vI 5, vI 6] <|
.ite (.v 7) (
 .row (.v 0) (.v 5) [kI, kI, kI, kI] <|
 .letp (.eqs 4) [vI 8, vI 9, vI 10, vI 11, vI 1, vI 2, vI 3, vI 4] <|
 .ite (.v 12) (
 .up <|
 .ret [⟨.bool, (.b true)⟩]) <|
 .letp (.add .i64) [vI 5, nI 1] <|
 .jump [vI 13]) <|
.up <|
.ret [⟨.bool, (.b false)⟩]
def φ_cf := mir (ph []) t_cf
def L_cf_0 (x0 : LL) (x1 x2 : Int) (x3 x4 x5 : Int) : Option Out :=
 let x6 : Int := x0.length
 let x7 := decide (x5 < x6)
 iteD x7 (
 rowD (.list x0) (.int .i64 x5) [(.int .i64), (.int .i64), (.int .i64), (.int .i64)] fun r8 =>
 let x8 := (getC r8 0).toInt
 let x9 := (getC r8 1).toInt
 let x10 := (getC r8 2).toInt
 let x11 := (getC r8 3).toInt
 let x12 := ([x8, x9, x10, x11] == ([x1, x2, x3, x4] : List Int))
 iteD x12 (
 upD <|
 some (.ret [C.bool true])) <|
 let x13 := IntKind.wrap .i64 (x5 + 1)
 some (.jump [C.int .i64 x13])) <|
 upD <|
 some (.ret [C.bool false])
def F_cf (x0 : LL) (x1 x2 : Int) (x3 x4 : Int) : Option Out :=
 iterD (fun ps => L_cf_0 x0 x1 x2 x3 x4 ((getC ps 0).toInt)) [C.int .i64 0]
def t_bm : Tree :=
.letp .not [vB 0] <|
.ite (.v 4) (
 .ret [⟨.list, .e⟩]) <|
.call 0 [vB 0, vL 1, vI 2, vL 3, ⟨.bool, (.b true)⟩] [.list] <|
.iter [nI 0, ⟨.list, .e⟩] <|
.letp .len [vL 5] <|
.letp .ltI [vI 6, vI 8] <|
.ite (.v 9) (
 .row (.v 5) (.v 6) [.list, kI] <|
 .letp .gtI [vI 11, nI 3] <|
 .ite (.v 12) (
 .letp (.add .i64) [vI 6, nI 1] <|
 .jump [vI 13, vL 7]) <|
 .iter [nI 0, vL 7] <|
 .letp .ltI [vI 13, nI 3] <|
 .ite (.v 15) (
 .row (.v 5) (.v 6) [.list, kI] <|
 .letp (.add .i64) [vI 13, nI 1] <|
 .letp (.add .i64) [vI 6, nI 1] <|
 .letp (.mkl 1) [nI 0, nI 4, nI 6, nI 7] <|
 .row (.v 5) (.v 6) [.list, kI] <|
 .chk .idx [vI 22, vL 20] <|
 .row (.v 20) (.v 22) [kI] <|
 .row (.v 5) (.v 6) [.list, kI] <|
 .row (.v 24) (.v 13) [kI] <|
 .letp .eqI [vI 26, nI 0] <|
 .ite (.v 27) (
 .letp (.add .i64) [vI 13, nI 1] <|
 .jump [vI 28, vL 14]) <|
 .letp (.add .i64) [vI 13, nI 1] <|
 .letp (.add .i64) [vI 6, nI 1] <|
 .call 1 [vL 3, vI 23, vI 28, vI 29, nI 0] [.bool] <|
 .ite (.v 30) (
 .letp (.add .i64) [vI 13, nI 1] <|
 .jump [vI 31, vL 14]) <|
 .letp .eqI [vI 17, nI 1] <|
 .ite (.v 31) (
 .row (.v 5) (.v 6) [.list, kI] <|
 .row (.v 32) (.v 13) [kI] <|
 .letp (.mkl 4) [vI 17, vI 18, vI 19, vI 34] <|
 .chk .fits [vL 14, vL 35] <|
 .letp .app [vL 14, vL 35] <|
 .letp (.add .i64) [vI 13, nI 1] <|
 .jump [vI 37, vL 36]) <|
 .letp (.mkl 4) [vI 17, vI 18, vI 19, nI 0] <|
 .chk .fits [vL 14, vL 32] <|
 .letp .app [vL 14, vL 32] <|
 .letp (.add .i64) [vI 13, nI 1] <|
 .jump [vI 34, vL 33]) <|
 .up <|
 .letp (.add .i64) [vI 6, nI 1] <|
 .jump [vI 16, vL 14]) <|
.up <|
.ret [vL 7]
def Φ_bm : Phi := ph [φ_bv, φ_cf]
def φ_bm := mir Φ_bm t_bm
def L_bm_0 (x3 x5 : LL) (x6 x13 : Int) (x14 : LL) : Option Out :=
 let x15 := decide (x13 < 3)
 iteD x15 (
 rowD (.list x5) (.int .i64 x6) [.list, (.int .i64)] fun r16 =>
 let x16 := (getC r16 0).toList
 let x17 := (getC r16 1).toInt
 let x18 := IntKind.wrap .i64 (x13 + 1)
 let x19 := IntKind.wrap .i64 (x6 + 1)
 let x20 := [[C.int .i64 0], [C.int .i64 4], [C.int .i64 6], [C.int .i64 7]]
 rowD (.list x5) (.int .i64 x6) [.list, (.int .i64)] fun r21 =>
 let x21 := (getC r21 0).toList
 let x22 := (getC r21 1).toInt
 whenD ((decide ((0 : Int) <= x22) && decide (x22 < (x20.length : Nat)))) <|
 rowD (.list x20) (.int .i64 x22) [(.int .i64)] fun r23 =>
 let x23 := (getC r23 0).toInt
 rowD (.list x5) (.int .i64 x6) [.list, (.int .i64)] fun r24 =>
 let x24 := (getC r24 0).toList
 let x25 := (getC r24 1).toInt
 rowD (.list x24) (.int .i64 x13) [(.int .i64)] fun r26 =>
 let x26 := (getC r26 0).toInt
 let x27 := (x26 == 0)
 iteD x27 (
 let x28 := IntKind.wrap .i64 (x13 + 1)
 some (.jump [C.int .i64 x28, C.list x14])) <|
 let x28 := IntKind.wrap .i64 (x13 + 1)
 let x29 := IntKind.wrap .i64 (x6 + 1)
 callD (φ_cf [C.list x3, C.int .i64 x23, C.int .i64 x28, C.int .i64 x29, C.int .i64 0]) [.bool] fun r30 =>
 let x30 := (getC r30 0).toBool
 iteD x30 (
 let x31 := IntKind.wrap .i64 (x13 + 1)
 some (.jump [C.int .i64 x31, C.list x14])) <|
 let x31 := (x17 == 1)
 iteD x31 (
 rowD (.list x5) (.int .i64 x6) [.list, (.int .i64)] fun r32 =>
 let x32 := (getC r32 0).toList
 let x33 := (getC r32 1).toInt
 rowD (.list x32) (.int .i64 x13) [(.int .i64)] fun r34 =>
 let x34 := (getC r34 0).toInt
 let x35 := [[C.int .i64 x17, C.int .i64 x18, C.int .i64 x19, C.int .i64 x34]]
 whenD (decide (x14.length + x35.length <= LMAX)) <|
 let x36 := (x14 ++ x35)
 let x37 := IntKind.wrap .i64 (x13 + 1)
 some (.jump [C.int .i64 x37, C.list x36])) <|
 let x32 := [[C.int .i64 x17, C.int .i64 x18, C.int .i64 x19, C.int .i64 0]]
 whenD (decide (x14.length + x32.length <= LMAX)) <|
 let x33 := (x14 ++ x32)
 let x34 := IntKind.wrap .i64 (x13 + 1)
 some (.jump [C.int .i64 x34, C.list x33])) <|
 upD <|
 let x16 := IntKind.wrap .i64 (x6 + 1)
 some (.jump [C.int .i64 x16, C.list x14])
def L_bm_1 (x3 x5 : LL) (x6 : Int) (x7 : LL) : Option Out :=
 let x8 : Int := x5.length
 let x9 := decide (x6 < x8)
 iteD x9 (
 rowD (.list x5) (.int .i64 x6) [.list, (.int .i64)] fun r10 =>
 let x10 := (getC r10 0).toList
 let x11 := (getC r10 1).toInt
 let x12 := decide (x11 > 3)
 iteD x12 (
 let x13 := IntKind.wrap .i64 (x6 + 1)
 some (.jump [C.int .i64 x13, C.list x7])) <|
 iterD (fun ps => L_bm_0 x3 x5 x6 ((getC ps 0).toInt) ((getC ps 1).toList)) [C.int .i64 0, C.list x7]) <|
 upD <|
 some (.ret [C.list x7])
def F_bm (x0 : Bool) (x1 : LL) (x2 : Int) (x3 : LL) : Option Out :=
 let x4 := (!x0)
 iteD x4 (
 some (.ret [C.list ([] : LL)])) <|
 callD (φ_bv [C.bool x0, C.list x1, C.int .i64 x2, C.list x3, C.bool true]) [.list] fun r5 =>
 let x5 := (getC r5 0).toList
 iterD (fun ps => L_bm_1 x3 x5 ((getC ps 0).toInt) ((getC ps 1).toList)) [C.int .i64 0, C.list ([] : LL)]
def t_dd : Tree :=
.letp .len [vL 5] <|
.letp .ltI [vI 10, nI 14] <|
.ite (.v 11) (
 .letp (.mkl 4) [vI 6, vI 7, vI 8, vI 9] <|
 .chk .fits [vL 5, vL 12] <|
 .letp .app [vL 5, vL 12] <|
 .ret [vB 0, vL 1, vI 2, vL 3, vL 4, vL 13]) <|
.ret [vB 0, vL 1, vI 2, vL 3, vL 4, vL 5]
def φ_dd := mir (ph []) t_dd
def F_dd (x0 : Bool) (x1 : LL) (x2 : Int) (x3 x4 x5 : LL) (x6 x7 : Int) (x8 x9 : Int) : Option Out :=
 let x10 : Int := x5.length
 let x11 := decide (x10 < 14)
 iteD x11 (
 let x12 := [[C.int .i64 x6, C.int .i64 x7, C.int .i64 x8, C.int .i64 x9]]
 whenD (decide (x5.length + x12.length <= LMAX)) <|
 let x13 := (x5 ++ x12)
 some (.ret [C.bool x0, C.list x1, C.int .i64 x2, C.list x3, C.list x4, C.list x13])) <|
 some (.ret [C.bool x0, C.list x1, C.int .i64 x2, C.list x3, C.list x4, C.list x5])
def t_cn : Tree :=
.letp .eqI [vI 6, nI 1] <|
.ite (.v 10) (
 .call 0 [vB 0, vL 1, vI 2, vL 3, ⟨.bool, (.b false)⟩] [.list] <|
 .letp .len [vL 11] <|
 .letp (.add .i64) [vI 12, nI 1] <|
 .chk (.rowsk [kI]) [vL 9] <|
 .chk .fits [⟨.list, .e⟩, vL 9] <|
 .letp .app [⟨.list, .e⟩, vL 9] <|
 .call 1 [nI 4, vI 13, vL 14] [.bool] <|
 .ite (.v 15) (
 .call 2 [vB 0, vL 1, vI 2, vL 3, nI 4, vI 13, vL 14] [.bool, .list, kI, .list, .bool] <|
 .ret [vB 16, vL 17, vI 18, vL 19, vL 4, vL 5]) <|
 .ret [vB 0, vL 1, vI 2, vL 3, vL 4, vL 5]) <|
.letp .eqI [vI 6, nI 2] <|
.ite (.v 11) (
 .call 3 [vI 7, nI 1, nI 6] [.bool] <|
 .ite (.v 12) (
 .call 2 [vB 0, vL 1, vI 2, vL 3, nI 6, vI 7, ⟨.list, .e⟩] [.bool, .list, kI, .list, .bool] <|
 .ret [vB 13, vL 14, vI 15, vL 16, vL 4, vL 5]) <|
 .ret [vB 0, vL 1, vI 2, vL 3, vL 4, vL 5]) <|
.letp .eqI [vI 6, nI 3] <|
.ite (.v 12) (
 .call 4 [vB 0, vL 1, vI 2, vL 3] [.list] <|
 .letp .len [vL 13] <|
 .letp (.sub .i64) [vI 14, nI 1] <|
 .call 3 [vI 7, nI 0, vI 15] [.bool] <|
 .ite (.v 16) (
 .row (.v 13) (.v 7) [kI, kI, kI, kI] <|
 .call 5 [vB 0, vL 1, vI 2, vL 3, vL 4, vL 5, vI 17, vI 18, vI 19, vI 20] [.bool, .list, kI, .list, .list, .list] <|
 .ret [vB 21, vL 22, vI 23, vL 24, vL 25, vL 26]) <|
 .ret [vB 0, vL 1, vI 2, vL 3, vL 4, vL 5]) <|
.ret [vB 0, vL 1, vI 2, vL 3, vL 4, vL 5]
def Φ_cn : Phi := ph [φ_bv, φ_dx, φ_bo, φ_ea, φ_bm, φ_dd]
def φ_cn := mir Φ_cn t_cn
def F_cn (x0 : Bool) (x1 : LL) (x2 : Int) (x3 x4 x5 : LL) (x6 x7 x8 : Int) (x9 : LL) : Option Out :=
 let x10 := (x6 == 1)
 iteD x10 (
 callD (φ_bv [C.bool x0, C.list x1, C.int .i64 x2, C.list x3, C.bool false]) [.list] fun r11 =>
 let x11 := (getC r11 0).toList
 let x12 : Int := x11.length
 let x13 := IntKind.wrap .i64 (x12 + 1)
 whenD ((x9.all (kindsB [(.int .i64)]))) <|
 whenD (decide (([] : LL).length + x9.length <= LMAX)) <|
 let x14 := (([] : LL) ++ x9)
 callD (φ_dx [C.int .i64 4, C.int .i64 x13, C.list x14]) [.bool] fun r15 =>
 let x15 := (getC r15 0).toBool
 iteD x15 (
 callD (φ_bo [C.bool x0, C.list x1, C.int .i64 x2, C.list x3, C.int .i64 4, C.int .i64 x13, C.list x14]) [.bool, .list, (.int .i64), .list, .bool] fun r16 =>
 let x16 := (getC r16 0).toBool
 let x17 := (getC r16 1).toList
 let x18 := (getC r16 2).toInt
 let x19 := (getC r16 3).toList
 let x20 := (getC r16 4).toBool
 some (.ret [C.bool x16, C.list x17, C.int .i64 x18, C.list x19, C.list x4, C.list x5])) <|
 some (.ret [C.bool x0, C.list x1, C.int .i64 x2, C.list x3, C.list x4, C.list x5])) <|
 let x11 := (x6 == 2)
 iteD x11 (
 callD (φ_ea [C.int .i64 x7, C.int .i64 1, C.int .i64 6]) [.bool] fun r12 =>
 let x12 := (getC r12 0).toBool
 iteD x12 (
 callD (φ_bo [C.bool x0, C.list x1, C.int .i64 x2, C.list x3, C.int .i64 6, C.int .i64 x7, C.list ([] : LL)]) [.bool, .list, (.int .i64), .list, .bool] fun r13 =>
 let x13 := (getC r13 0).toBool
 let x14 := (getC r13 1).toList
 let x15 := (getC r13 2).toInt
 let x16 := (getC r13 3).toList
 let x17 := (getC r13 4).toBool
 some (.ret [C.bool x13, C.list x14, C.int .i64 x15, C.list x16, C.list x4, C.list x5])) <|
 some (.ret [C.bool x0, C.list x1, C.int .i64 x2, C.list x3, C.list x4, C.list x5])) <|
 let x12 := (x6 == 3)
 iteD x12 (
 callD (φ_bm [C.bool x0, C.list x1, C.int .i64 x2, C.list x3]) [.list] fun r13 =>
 let x13 := (getC r13 0).toList
 let x14 : Int := x13.length
 let x15 := IntKind.wrap .i64 (x14 - 1)
 callD (φ_ea [C.int .i64 x7, C.int .i64 0, C.int .i64 x15]) [.bool] fun r16 =>
 let x16 := (getC r16 0).toBool
 iteD x16 (
 rowD (.list x13) (.int .i64 x7) [(.int .i64), (.int .i64), (.int .i64), (.int .i64)] fun r17 =>
 let x17 := (getC r17 0).toInt
 let x18 := (getC r17 1).toInt
 let x19 := (getC r17 2).toInt
 let x20 := (getC r17 3).toInt
 callD (φ_dd [C.bool x0, C.list x1, C.int .i64 x2, C.list x3, C.list x4, C.list x5, C.int .i64 x17, C.int .i64 x18, C.int .i64 x19, C.int .i64 x20]) [.bool, .list, (.int .i64), .list, .list, .list] fun r21 =>
 let x21 := (getC r21 0).toBool
 let x22 := (getC r21 1).toList
 let x23 := (getC r21 2).toInt
 let x24 := (getC r21 3).toList
 let x25 := (getC r21 4).toList
 let x26 := (getC r21 5).toList
 some (.ret [C.bool x21, C.list x22, C.int .i64 x23, C.list x24, C.list x25, C.list x26])) <|
 some (.ret [C.bool x0, C.list x1, C.int .i64 x2, C.list x3, C.list x4, C.list x5])) <|
 some (.ret [C.bool x0, C.list x1, C.int .i64 x2, C.list x3, C.list x4, C.list x5])
def t_co : Tree :=
.letp (.add .i64) [vI 6, nI 1] <|
.both (
 .both (
 .both (
 .chk .upto [vI 6, vL 5] <|
 .letp .take [vL 5, vI 6] <|
 .both (
 .chk (.rowsk [kI, kI, kI, kI]) [vL 8] <|
 .chk .fits [⟨.list, .e⟩, vL 8] <|
 .letp .app [⟨.list, .e⟩, vL 8] <|
 .chk (.uptok [kI, kI, kI, kI]) [vI 7, vL 5] <|
 .letp .drop [vL 5, vI 7] <|
 .chk (.rowsk [kI, kI, kI, kI]) [vL 10] <|
 .chk .fits [vL 9, vL 10] <|
 .letp .app [vL 9, vL 10] <|
 .ret [vB 0, vL 1, vI 2, vL 3, vL 4, vL 11]) <|
 .chk (.uptok [kI, kI, kI, kI]) [vI 7, vL 5] <|
 .letp .drop [vL 5, vI 7] <|
 .chk (.rowsk [kI, kI, kI, kI]) [vL 8] <|
 .chk .fits [⟨.list, .e⟩, vL 8] <|
 .letp .app [⟨.list, .e⟩, vL 8] <|
 .chk (.rowsk [kI, kI, kI, kI]) [vL 9] <|
 .chk .fits [vL 10, vL 9] <|
 .letp .app [vL 10, vL 9] <|
 .ret [vB 0, vL 1, vI 2, vL 3, vL 4, vL 11]) <|
 .both (
 .chk .upto [vI 6, vL 5] <|
 .letp .take [vL 5, vI 6] <|
 .chk (.uptok [kI, kI, kI, kI]) [vI 7, vL 5] <|
 .letp .drop [vL 5, vI 7] <|
 .chk (.rowsk [kI, kI, kI, kI]) [vL 8] <|
 .chk .fits [⟨.list, .e⟩, vL 8] <|
 .letp .app [⟨.list, .e⟩, vL 8] <|
 .chk (.rowsk [kI, kI, kI, kI]) [vL 9] <|
 .chk .fits [vL 10, vL 9] <|
 .letp .app [vL 10, vL 9] <|
 .ret [vB 0, vL 1, vI 2, vL 3, vL 4, vL 11]) <|
 .chk (.uptok [kI, kI, kI, kI]) [vI 7, vL 5] <|
 .letp .drop [vL 5, vI 7] <|
 .chk .upto [vI 6, vL 5] <|
 .letp .take [vL 5, vI 6] <|
 .chk (.rowsk [kI, kI, kI, kI]) [vL 9] <|
 .chk .fits [⟨.list, .e⟩, vL 9] <|
 .letp .app [⟨.list, .e⟩, vL 9] <|
 .chk (.rowsk [kI, kI, kI, kI]) [vL 8] <|
 .chk .fits [vL 10, vL 8] <|
 .letp .app [vL 10, vL 8] <|
 .ret [vB 0, vL 1, vI 2, vL 3, vL 4, vL 11]) <|
 .both (
 .both (
 .chk .upto [vI 6, vL 5] <|
 .letp .take [vL 5, vI 6] <|
 .chk (.uptok [kI, kI, kI, kI]) [vI 7, vL 5] <|
 .letp .drop [vL 5, vI 7] <|
 .chk (.rowsk [kI, kI, kI, kI]) [vL 8] <|
 .chk .fits [⟨.list, .e⟩, vL 8] <|
 .letp .app [⟨.list, .e⟩, vL 8] <|
 .chk (.rowsk [kI, kI, kI, kI]) [vL 9] <|
 .chk .fits [vL 10, vL 9] <|
 .letp .app [vL 10, vL 9] <|
 .ret [vB 0, vL 1, vI 2, vL 3, vL 4, vL 11]) <|
 .chk (.uptok [kI, kI, kI, kI]) [vI 7, vL 5] <|
 .letp .drop [vL 5, vI 7] <|
 .chk .upto [vI 6, vL 5] <|
 .letp .take [vL 5, vI 6] <|
 .chk (.rowsk [kI, kI, kI, kI]) [vL 9] <|
 .chk .fits [⟨.list, .e⟩, vL 9] <|
 .letp .app [⟨.list, .e⟩, vL 9] <|
 .chk (.rowsk [kI, kI, kI, kI]) [vL 8] <|
 .chk .fits [vL 10, vL 8] <|
 .letp .app [vL 10, vL 8] <|
 .ret [vB 0, vL 1, vI 2, vL 3, vL 4, vL 11]) <|
 .chk (.uptok [kI, kI, kI, kI]) [vI 7, vL 5] <|
 .letp .drop [vL 5, vI 7] <|
 .chk .upto [vI 6, vL 5] <|
 .letp .take [vL 5, vI 6] <|
 .chk (.rowsk [kI, kI, kI, kI]) [vL 9] <|
 .chk .fits [⟨.list, .e⟩, vL 9] <|
 .letp .app [⟨.list, .e⟩, vL 9] <|
 .chk (.rowsk [kI, kI, kI, kI]) [vL 8] <|
 .chk .fits [vL 10, vL 8] <|
 .letp .app [vL 10, vL 8] <|
 .ret [vB 0, vL 1, vI 2, vL 3, vL 4, vL 11]) <|
.both (
 .both (
 .both (
 .chk .upto [vI 6, vL 5] <|
 .letp .take [vL 5, vI 6] <|
 .both (
 .chk (.rowsk [kI, kI, kI, kI]) [vL 8] <|
 .chk .fits [⟨.list, .e⟩, vL 8] <|
 .letp .app [⟨.list, .e⟩, vL 8] <|
 .chk (.uptok [kI, kI, kI, kI]) [vI 7, vL 5] <|
 .letp .drop [vL 5, vI 7] <|
 .chk (.rowsk [kI, kI, kI, kI]) [vL 10] <|
 .chk .fits [vL 9, vL 10] <|
 .letp .app [vL 9, vL 10] <|
 .ret [vB 0, vL 1, vI 2, vL 3, vL 4, vL 11]) <|
 .chk (.uptok [kI, kI, kI, kI]) [vI 7, vL 5] <|
 .letp .drop [vL 5, vI 7] <|
 .chk (.rowsk [kI, kI, kI, kI]) [vL 8] <|
 .chk .fits [⟨.list, .e⟩, vL 8] <|
 .letp .app [⟨.list, .e⟩, vL 8] <|
 .chk (.rowsk [kI, kI, kI, kI]) [vL 9] <|
 .chk .fits [vL 10, vL 9] <|
 .letp .app [vL 10, vL 9] <|
 .ret [vB 0, vL 1, vI 2, vL 3, vL 4, vL 11]) <|
 .both (
 .chk .upto [vI 6, vL 5] <|
 .letp .take [vL 5, vI 6] <|
 .chk (.uptok [kI, kI, kI, kI]) [vI 7, vL 5] <|
 .letp .drop [vL 5, vI 7] <|
 .chk (.rowsk [kI, kI, kI, kI]) [vL 8] <|
 .chk .fits [⟨.list, .e⟩, vL 8] <|
 .letp .app [⟨.list, .e⟩, vL 8] <|
 .chk (.rowsk [kI, kI, kI, kI]) [vL 9] <|
 .chk .fits [vL 10, vL 9] <|
 .letp .app [vL 10, vL 9] <|
 .ret [vB 0, vL 1, vI 2, vL 3, vL 4, vL 11]) <|
 .chk (.uptok [kI, kI, kI, kI]) [vI 7, vL 5] <|
 .letp .drop [vL 5, vI 7] <|
 .chk .upto [vI 6, vL 5] <|
 .letp .take [vL 5, vI 6] <|
 .chk (.rowsk [kI, kI, kI, kI]) [vL 9] <|
 .chk .fits [⟨.list, .e⟩, vL 9] <|
 .letp .app [⟨.list, .e⟩, vL 9] <|
 .chk (.rowsk [kI, kI, kI, kI]) [vL 8] <|
 .chk .fits [vL 10, vL 8] <|
 .letp .app [vL 10, vL 8] <|
 .ret [vB 0, vL 1, vI 2, vL 3, vL 4, vL 11]) <|
 .both (
 .chk .upto [vI 6, vL 5] <|
 .letp .take [vL 5, vI 6] <|
 .both (
 .both (
 .chk (.rowsk [kI, kI, kI, kI]) [vL 8] <|
 .chk .fits [⟨.list, .e⟩, vL 8] <|
 .letp .app [⟨.list, .e⟩, vL 8] <|
 .chk (.uptok [kI, kI, kI, kI]) [vI 7, vL 5] <|
 .letp .drop [vL 5, vI 7] <|
 .chk (.rowsk [kI, kI, kI, kI]) [vL 10] <|
 .chk .fits [vL 9, vL 10] <|
 .letp .app [vL 9, vL 10] <|
 .ret [vB 0, vL 1, vI 2, vL 3, vL 4, vL 11]) <|
 .chk (.uptok [kI, kI, kI, kI]) [vI 7, vL 5] <|
 .letp .drop [vL 5, vI 7] <|
 .chk (.rowsk [kI, kI, kI, kI]) [vL 8] <|
 .chk .fits [⟨.list, .e⟩, vL 8] <|
 .letp .app [⟨.list, .e⟩, vL 8] <|
 .chk (.rowsk [kI, kI, kI, kI]) [vL 9] <|
 .chk .fits [vL 10, vL 9] <|
 .letp .app [vL 10, vL 9] <|
 .ret [vB 0, vL 1, vI 2, vL 3, vL 4, vL 11]) <|
 .chk (.uptok [kI, kI, kI, kI]) [vI 7, vL 5] <|
 .letp .drop [vL 5, vI 7] <|
 .chk (.rowsk [kI, kI, kI, kI]) [vL 8] <|
 .chk .fits [⟨.list, .e⟩, vL 8] <|
 .letp .app [⟨.list, .e⟩, vL 8] <|
 .chk (.rowsk [kI, kI, kI, kI]) [vL 9] <|
 .chk .fits [vL 10, vL 9] <|
 .letp .app [vL 10, vL 9] <|
 .ret [vB 0, vL 1, vI 2, vL 3, vL 4, vL 11]) <|
 .both (
 .chk .upto [vI 6, vL 5] <|
 .letp .take [vL 5, vI 6] <|
 .chk (.uptok [kI, kI, kI, kI]) [vI 7, vL 5] <|
 .letp .drop [vL 5, vI 7] <|
 .chk (.rowsk [kI, kI, kI, kI]) [vL 8] <|
 .chk .fits [⟨.list, .e⟩, vL 8] <|
 .letp .app [⟨.list, .e⟩, vL 8] <|
 .chk (.rowsk [kI, kI, kI, kI]) [vL 9] <|
 .chk .fits [vL 10, vL 9] <|
 .letp .app [vL 10, vL 9] <|
 .ret [vB 0, vL 1, vI 2, vL 3, vL 4, vL 11]) <|
 .chk (.uptok [kI, kI, kI, kI]) [vI 7, vL 5] <|
 .letp .drop [vL 5, vI 7] <|
 .chk .upto [vI 6, vL 5] <|
 .letp .take [vL 5, vI 6] <|
 .chk (.rowsk [kI, kI, kI, kI]) [vL 9] <|
 .chk .fits [⟨.list, .e⟩, vL 9] <|
 .letp .app [⟨.list, .e⟩, vL 9] <|
 .chk (.rowsk [kI, kI, kI, kI]) [vL 8] <|
 .chk .fits [vL 10, vL 8] <|
 .letp .app [vL 10, vL 8] <|
 .ret [vB 0, vL 1, vI 2, vL 3, vL 4, vL 11]) <|
.both (
 .both (
 .chk .upto [vI 6, vL 5] <|
 .letp .take [vL 5, vI 6] <|
 .chk (.uptok [kI, kI, kI, kI]) [vI 7, vL 5] <|
 .letp .drop [vL 5, vI 7] <|
 .chk (.rowsk [kI, kI, kI, kI]) [vL 8] <|
 .chk .fits [⟨.list, .e⟩, vL 8] <|
 .letp .app [⟨.list, .e⟩, vL 8] <|
 .chk (.rowsk [kI, kI, kI, kI]) [vL 9] <|
 .chk .fits [vL 10, vL 9] <|
 .letp .app [vL 10, vL 9] <|
 .ret [vB 0, vL 1, vI 2, vL 3, vL 4, vL 11]) <|
 .chk (.uptok [kI, kI, kI, kI]) [vI 7, vL 5] <|
 .letp .drop [vL 5, vI 7] <|
 .chk .upto [vI 6, vL 5] <|
 .letp .take [vL 5, vI 6] <|
 .chk (.rowsk [kI, kI, kI, kI]) [vL 9] <|
 .chk .fits [⟨.list, .e⟩, vL 9] <|
 .letp .app [⟨.list, .e⟩, vL 9] <|
 .chk (.rowsk [kI, kI, kI, kI]) [vL 8] <|
 .chk .fits [vL 10, vL 8] <|
 .letp .app [vL 10, vL 8] <|
 .ret [vB 0, vL 1, vI 2, vL 3, vL 4, vL 11]) <|
.chk (.uptok [kI, kI, kI, kI]) [vI 7, vL 5] <|
.letp .drop [vL 5, vI 7] <|
.chk .upto [vI 6, vL 5] <|
.letp .take [vL 5, vI 6] <|
.chk (.rowsk [kI, kI, kI, kI]) [vL 9] <|
.chk .fits [⟨.list, .e⟩, vL 9] <|
.letp .app [⟨.list, .e⟩, vL 9] <|
.chk (.rowsk [kI, kI, kI, kI]) [vL 8] <|
.chk .fits [vL 10, vL 8] <|
.letp .app [vL 10, vL 8] <|
.ret [vB 0, vL 1, vI 2, vL 3, vL 4, vL 11]
def φ_co := mir (ph []) t_co
def F_co (x0 : Bool) (x1 : LL) (x2 : Int) (x3 x4 x5 : LL) (x6 : Int) : Option Out :=
 let x7 := IntKind.wrap .i64 (x6 + 1)
 bothD (
 bothD (
 bothD (
 whenD ((decide ((0 : Int) <= x6) && decide (x6 <= (x5.length : Nat)))) <|
 let x8 := (x5.take (Int.toNat x6))
 bothD (
 whenD ((x8.all (kindsB [(.int .i64), (.int .i64), (.int .i64), (.int .i64)]))) <|
 whenD (decide (([] : LL).length + x8.length <= LMAX)) <|
 let x9 := (([] : LL) ++ x8)
 whenD (((decide ((0 : Int) <= x7) && decide (x7 <= (x5.length : Nat))) && x5.all (kindsB [(.int .i64), (.int .i64), (.int .i64), (.int .i64)]))) <|
 let x10 := (x5.drop (Int.toNat x7))
 whenD ((x10.all (kindsB [(.int .i64), (.int .i64), (.int .i64), (.int .i64)]))) <|
 whenD (decide (x9.length + x10.length <= LMAX)) <|
 let x11 := (x9 ++ x10)
 some (.ret [C.bool x0, C.list x1, C.int .i64 x2, C.list x3, C.list x4, C.list x11])) <|
 whenD (((decide ((0 : Int) <= x7) && decide (x7 <= (x5.length : Nat))) && x5.all (kindsB [(.int .i64), (.int .i64), (.int .i64), (.int .i64)]))) <|
 let x9 := (x5.drop (Int.toNat x7))
 whenD ((x8.all (kindsB [(.int .i64), (.int .i64), (.int .i64), (.int .i64)]))) <|
 whenD (decide (([] : LL).length + x8.length <= LMAX)) <|
 let x10 := (([] : LL) ++ x8)
 whenD ((x9.all (kindsB [(.int .i64), (.int .i64), (.int .i64), (.int .i64)]))) <|
 whenD (decide (x10.length + x9.length <= LMAX)) <|
 let x11 := (x10 ++ x9)
 some (.ret [C.bool x0, C.list x1, C.int .i64 x2, C.list x3, C.list x4, C.list x11])) <|
 bothD (
 whenD ((decide ((0 : Int) <= x6) && decide (x6 <= (x5.length : Nat)))) <|
 let x8 := (x5.take (Int.toNat x6))
 whenD (((decide ((0 : Int) <= x7) && decide (x7 <= (x5.length : Nat))) && x5.all (kindsB [(.int .i64), (.int .i64), (.int .i64), (.int .i64)]))) <|
 let x9 := (x5.drop (Int.toNat x7))
 whenD ((x8.all (kindsB [(.int .i64), (.int .i64), (.int .i64), (.int .i64)]))) <|
 whenD (decide (([] : LL).length + x8.length <= LMAX)) <|
 let x10 := (([] : LL) ++ x8)
 whenD ((x9.all (kindsB [(.int .i64), (.int .i64), (.int .i64), (.int .i64)]))) <|
 whenD (decide (x10.length + x9.length <= LMAX)) <|
 let x11 := (x10 ++ x9)
 some (.ret [C.bool x0, C.list x1, C.int .i64 x2, C.list x3, C.list x4, C.list x11])) <|
 whenD (((decide ((0 : Int) <= x7) && decide (x7 <= (x5.length : Nat))) && x5.all (kindsB [(.int .i64), (.int .i64), (.int .i64), (.int .i64)]))) <|
 let x8 := (x5.drop (Int.toNat x7))
 whenD ((decide ((0 : Int) <= x6) && decide (x6 <= (x5.length : Nat)))) <|
 let x9 := (x5.take (Int.toNat x6))
 whenD ((x9.all (kindsB [(.int .i64), (.int .i64), (.int .i64), (.int .i64)]))) <|
 whenD (decide (([] : LL).length + x9.length <= LMAX)) <|
 let x10 := (([] : LL) ++ x9)
 whenD ((x8.all (kindsB [(.int .i64), (.int .i64), (.int .i64), (.int .i64)]))) <|
 whenD (decide (x10.length + x8.length <= LMAX)) <|
 let x11 := (x10 ++ x8)
 some (.ret [C.bool x0, C.list x1, C.int .i64 x2, C.list x3, C.list x4, C.list x11])) <|
 bothD (
 bothD (
 whenD ((decide ((0 : Int) <= x6) && decide (x6 <= (x5.length : Nat)))) <|
 let x8 := (x5.take (Int.toNat x6))
 whenD (((decide ((0 : Int) <= x7) && decide (x7 <= (x5.length : Nat))) && x5.all (kindsB [(.int .i64), (.int .i64), (.int .i64), (.int .i64)]))) <|
 let x9 := (x5.drop (Int.toNat x7))
 whenD ((x8.all (kindsB [(.int .i64), (.int .i64), (.int .i64), (.int .i64)]))) <|
 whenD (decide (([] : LL).length + x8.length <= LMAX)) <|
 let x10 := (([] : LL) ++ x8)
 whenD ((x9.all (kindsB [(.int .i64), (.int .i64), (.int .i64), (.int .i64)]))) <|
 whenD (decide (x10.length + x9.length <= LMAX)) <|
 let x11 := (x10 ++ x9)
 some (.ret [C.bool x0, C.list x1, C.int .i64 x2, C.list x3, C.list x4, C.list x11])) <|
 whenD (((decide ((0 : Int) <= x7) && decide (x7 <= (x5.length : Nat))) && x5.all (kindsB [(.int .i64), (.int .i64), (.int .i64), (.int .i64)]))) <|
 let x8 := (x5.drop (Int.toNat x7))
 whenD ((decide ((0 : Int) <= x6) && decide (x6 <= (x5.length : Nat)))) <|
 let x9 := (x5.take (Int.toNat x6))
 whenD ((x9.all (kindsB [(.int .i64), (.int .i64), (.int .i64), (.int .i64)]))) <|
 whenD (decide (([] : LL).length + x9.length <= LMAX)) <|
 let x10 := (([] : LL) ++ x9)
 whenD ((x8.all (kindsB [(.int .i64), (.int .i64), (.int .i64), (.int .i64)]))) <|
 whenD (decide (x10.length + x8.length <= LMAX)) <|
 let x11 := (x10 ++ x8)
 some (.ret [C.bool x0, C.list x1, C.int .i64 x2, C.list x3, C.list x4, C.list x11])) <|
 whenD (((decide ((0 : Int) <= x7) && decide (x7 <= (x5.length : Nat))) && x5.all (kindsB [(.int .i64), (.int .i64), (.int .i64), (.int .i64)]))) <|
 let x8 := (x5.drop (Int.toNat x7))
 whenD ((decide ((0 : Int) <= x6) && decide (x6 <= (x5.length : Nat)))) <|
 let x9 := (x5.take (Int.toNat x6))
 whenD ((x9.all (kindsB [(.int .i64), (.int .i64), (.int .i64), (.int .i64)]))) <|
 whenD (decide (([] : LL).length + x9.length <= LMAX)) <|
 let x10 := (([] : LL) ++ x9)
 whenD ((x8.all (kindsB [(.int .i64), (.int .i64), (.int .i64), (.int .i64)]))) <|
 whenD (decide (x10.length + x8.length <= LMAX)) <|
 let x11 := (x10 ++ x8)
 some (.ret [C.bool x0, C.list x1, C.int .i64 x2, C.list x3, C.list x4, C.list x11])) <|
 bothD (
 bothD (
 bothD (
 whenD ((decide ((0 : Int) <= x6) && decide (x6 <= (x5.length : Nat)))) <|
 let x8 := (x5.take (Int.toNat x6))
 bothD (
 whenD ((x8.all (kindsB [(.int .i64), (.int .i64), (.int .i64), (.int .i64)]))) <|
 whenD (decide (([] : LL).length + x8.length <= LMAX)) <|
 let x9 := (([] : LL) ++ x8)
 whenD (((decide ((0 : Int) <= x7) && decide (x7 <= (x5.length : Nat))) && x5.all (kindsB [(.int .i64), (.int .i64), (.int .i64), (.int .i64)]))) <|
 let x10 := (x5.drop (Int.toNat x7))
 whenD ((x10.all (kindsB [(.int .i64), (.int .i64), (.int .i64), (.int .i64)]))) <|
 whenD (decide (x9.length + x10.length <= LMAX)) <|
 let x11 := (x9 ++ x10)
 some (.ret [C.bool x0, C.list x1, C.int .i64 x2, C.list x3, C.list x4, C.list x11])) <|
 whenD (((decide ((0 : Int) <= x7) && decide (x7 <= (x5.length : Nat))) && x5.all (kindsB [(.int .i64), (.int .i64), (.int .i64), (.int .i64)]))) <|
 let x9 := (x5.drop (Int.toNat x7))
 whenD ((x8.all (kindsB [(.int .i64), (.int .i64), (.int .i64), (.int .i64)]))) <|
 whenD (decide (([] : LL).length + x8.length <= LMAX)) <|
 let x10 := (([] : LL) ++ x8)
 whenD ((x9.all (kindsB [(.int .i64), (.int .i64), (.int .i64), (.int .i64)]))) <|
 whenD (decide (x10.length + x9.length <= LMAX)) <|
 let x11 := (x10 ++ x9)
 some (.ret [C.bool x0, C.list x1, C.int .i64 x2, C.list x3, C.list x4, C.list x11])) <|
 bothD (
 whenD ((decide ((0 : Int) <= x6) && decide (x6 <= (x5.length : Nat)))) <|
 let x8 := (x5.take (Int.toNat x6))
 whenD (((decide ((0 : Int) <= x7) && decide (x7 <= (x5.length : Nat))) && x5.all (kindsB [(.int .i64), (.int .i64), (.int .i64), (.int .i64)]))) <|
 let x9 := (x5.drop (Int.toNat x7))
 whenD ((x8.all (kindsB [(.int .i64), (.int .i64), (.int .i64), (.int .i64)]))) <|
 whenD (decide (([] : LL).length + x8.length <= LMAX)) <|
 let x10 := (([] : LL) ++ x8)
 whenD ((x9.all (kindsB [(.int .i64), (.int .i64), (.int .i64), (.int .i64)]))) <|
 whenD (decide (x10.length + x9.length <= LMAX)) <|
 let x11 := (x10 ++ x9)
 some (.ret [C.bool x0, C.list x1, C.int .i64 x2, C.list x3, C.list x4, C.list x11])) <|
 whenD (((decide ((0 : Int) <= x7) && decide (x7 <= (x5.length : Nat))) && x5.all (kindsB [(.int .i64), (.int .i64), (.int .i64), (.int .i64)]))) <|
 let x8 := (x5.drop (Int.toNat x7))
 whenD ((decide ((0 : Int) <= x6) && decide (x6 <= (x5.length : Nat)))) <|
 let x9 := (x5.take (Int.toNat x6))
 whenD ((x9.all (kindsB [(.int .i64), (.int .i64), (.int .i64), (.int .i64)]))) <|
 whenD (decide (([] : LL).length + x9.length <= LMAX)) <|
 let x10 := (([] : LL) ++ x9)
 whenD ((x8.all (kindsB [(.int .i64), (.int .i64), (.int .i64), (.int .i64)]))) <|
 whenD (decide (x10.length + x8.length <= LMAX)) <|
 let x11 := (x10 ++ x8)
 some (.ret [C.bool x0, C.list x1, C.int .i64 x2, C.list x3, C.list x4, C.list x11])) <|
 bothD (
 whenD ((decide ((0 : Int) <= x6) && decide (x6 <= (x5.length : Nat)))) <|
 let x8 := (x5.take (Int.toNat x6))
 bothD (
 bothD (
 whenD ((x8.all (kindsB [(.int .i64), (.int .i64), (.int .i64), (.int .i64)]))) <|
 whenD (decide (([] : LL).length + x8.length <= LMAX)) <|
 let x9 := (([] : LL) ++ x8)
 whenD (((decide ((0 : Int) <= x7) && decide (x7 <= (x5.length : Nat))) && x5.all (kindsB [(.int .i64), (.int .i64), (.int .i64), (.int .i64)]))) <|
 let x10 := (x5.drop (Int.toNat x7))
 whenD ((x10.all (kindsB [(.int .i64), (.int .i64), (.int .i64), (.int .i64)]))) <|
 whenD (decide (x9.length + x10.length <= LMAX)) <|
 let x11 := (x9 ++ x10)
 some (.ret [C.bool x0, C.list x1, C.int .i64 x2, C.list x3, C.list x4, C.list x11])) <|
 whenD (((decide ((0 : Int) <= x7) && decide (x7 <= (x5.length : Nat))) && x5.all (kindsB [(.int .i64), (.int .i64), (.int .i64), (.int .i64)]))) <|
 let x9 := (x5.drop (Int.toNat x7))
 whenD ((x8.all (kindsB [(.int .i64), (.int .i64), (.int .i64), (.int .i64)]))) <|
 whenD (decide (([] : LL).length + x8.length <= LMAX)) <|
 let x10 := (([] : LL) ++ x8)
 whenD ((x9.all (kindsB [(.int .i64), (.int .i64), (.int .i64), (.int .i64)]))) <|
 whenD (decide (x10.length + x9.length <= LMAX)) <|
 let x11 := (x10 ++ x9)
 some (.ret [C.bool x0, C.list x1, C.int .i64 x2, C.list x3, C.list x4, C.list x11])) <|
 whenD (((decide ((0 : Int) <= x7) && decide (x7 <= (x5.length : Nat))) && x5.all (kindsB [(.int .i64), (.int .i64), (.int .i64), (.int .i64)]))) <|
 let x9 := (x5.drop (Int.toNat x7))
 whenD ((x8.all (kindsB [(.int .i64), (.int .i64), (.int .i64), (.int .i64)]))) <|
 whenD (decide (([] : LL).length + x8.length <= LMAX)) <|
 let x10 := (([] : LL) ++ x8)
 whenD ((x9.all (kindsB [(.int .i64), (.int .i64), (.int .i64), (.int .i64)]))) <|
 whenD (decide (x10.length + x9.length <= LMAX)) <|
 let x11 := (x10 ++ x9)
 some (.ret [C.bool x0, C.list x1, C.int .i64 x2, C.list x3, C.list x4, C.list x11])) <|
 bothD (
 whenD ((decide ((0 : Int) <= x6) && decide (x6 <= (x5.length : Nat)))) <|
 let x8 := (x5.take (Int.toNat x6))
 whenD (((decide ((0 : Int) <= x7) && decide (x7 <= (x5.length : Nat))) && x5.all (kindsB [(.int .i64), (.int .i64), (.int .i64), (.int .i64)]))) <|
 let x9 := (x5.drop (Int.toNat x7))
 whenD ((x8.all (kindsB [(.int .i64), (.int .i64), (.int .i64), (.int .i64)]))) <|
 whenD (decide (([] : LL).length + x8.length <= LMAX)) <|
 let x10 := (([] : LL) ++ x8)
 whenD ((x9.all (kindsB [(.int .i64), (.int .i64), (.int .i64), (.int .i64)]))) <|
 whenD (decide (x10.length + x9.length <= LMAX)) <|
 let x11 := (x10 ++ x9)
 some (.ret [C.bool x0, C.list x1, C.int .i64 x2, C.list x3, C.list x4, C.list x11])) <|
 whenD (((decide ((0 : Int) <= x7) && decide (x7 <= (x5.length : Nat))) && x5.all (kindsB [(.int .i64), (.int .i64), (.int .i64), (.int .i64)]))) <|
 let x8 := (x5.drop (Int.toNat x7))
 whenD ((decide ((0 : Int) <= x6) && decide (x6 <= (x5.length : Nat)))) <|
 let x9 := (x5.take (Int.toNat x6))
 whenD ((x9.all (kindsB [(.int .i64), (.int .i64), (.int .i64), (.int .i64)]))) <|
 whenD (decide (([] : LL).length + x9.length <= LMAX)) <|
 let x10 := (([] : LL) ++ x9)
 whenD ((x8.all (kindsB [(.int .i64), (.int .i64), (.int .i64), (.int .i64)]))) <|
 whenD (decide (x10.length + x8.length <= LMAX)) <|
 let x11 := (x10 ++ x8)
 some (.ret [C.bool x0, C.list x1, C.int .i64 x2, C.list x3, C.list x4, C.list x11])) <|
 bothD (
 bothD (
 whenD ((decide ((0 : Int) <= x6) && decide (x6 <= (x5.length : Nat)))) <|
 let x8 := (x5.take (Int.toNat x6))
 whenD (((decide ((0 : Int) <= x7) && decide (x7 <= (x5.length : Nat))) && x5.all (kindsB [(.int .i64), (.int .i64), (.int .i64), (.int .i64)]))) <|
 let x9 := (x5.drop (Int.toNat x7))
 whenD ((x8.all (kindsB [(.int .i64), (.int .i64), (.int .i64), (.int .i64)]))) <|
 whenD (decide (([] : LL).length + x8.length <= LMAX)) <|
 let x10 := (([] : LL) ++ x8)
 whenD ((x9.all (kindsB [(.int .i64), (.int .i64), (.int .i64), (.int .i64)]))) <|
 whenD (decide (x10.length + x9.length <= LMAX)) <|
 let x11 := (x10 ++ x9)
 some (.ret [C.bool x0, C.list x1, C.int .i64 x2, C.list x3, C.list x4, C.list x11])) <|
 whenD (((decide ((0 : Int) <= x7) && decide (x7 <= (x5.length : Nat))) && x5.all (kindsB [(.int .i64), (.int .i64), (.int .i64), (.int .i64)]))) <|
 let x8 := (x5.drop (Int.toNat x7))
 whenD ((decide ((0 : Int) <= x6) && decide (x6 <= (x5.length : Nat)))) <|
 let x9 := (x5.take (Int.toNat x6))
 whenD ((x9.all (kindsB [(.int .i64), (.int .i64), (.int .i64), (.int .i64)]))) <|
 whenD (decide (([] : LL).length + x9.length <= LMAX)) <|
 let x10 := (([] : LL) ++ x9)
 whenD ((x8.all (kindsB [(.int .i64), (.int .i64), (.int .i64), (.int .i64)]))) <|
 whenD (decide (x10.length + x8.length <= LMAX)) <|
 let x11 := (x10 ++ x8)
 some (.ret [C.bool x0, C.list x1, C.int .i64 x2, C.list x3, C.list x4, C.list x11])) <|
 whenD (((decide ((0 : Int) <= x7) && decide (x7 <= (x5.length : Nat))) && x5.all (kindsB [(.int .i64), (.int .i64), (.int .i64), (.int .i64)]))) <|
 let x8 := (x5.drop (Int.toNat x7))
 whenD ((decide ((0 : Int) <= x6) && decide (x6 <= (x5.length : Nat)))) <|
 let x9 := (x5.take (Int.toNat x6))
 whenD ((x9.all (kindsB [(.int .i64), (.int .i64), (.int .i64), (.int .i64)]))) <|
 whenD (decide (([] : LL).length + x9.length <= LMAX)) <|
 let x10 := (([] : LL) ++ x9)
 whenD ((x8.all (kindsB [(.int .i64), (.int .i64), (.int .i64), (.int .i64)]))) <|
 whenD (decide (x10.length + x8.length <= LMAX)) <|
 let x11 := (x10 ++ x8)
 some (.ret [C.bool x0, C.list x1, C.int .i64 x2, C.list x3, C.list x4, C.list x11])
def t_de : Tree :=
.call 0 [vI 1, nI 1, nI 3] [.bool] <|
.letp .not [vB 4] <|
.ite (.v 5) (
 .ret [⟨.bool, (.b false)⟩]) <|
.call 0 [vI 2, nI 1, nI 6] [.bool] <|
.letp .not [vB 6] <|
.ite (.v 7) (
 .ret [⟨.bool, (.b false)⟩]) <|
.call 0 [vI 0, nI 1, nI 7] [.bool] <|
.letp .not [vB 8] <|
.ite (.v 9) (
 .ret [⟨.bool, (.b false)⟩]) <|
.letp .eqI [vI 0, nI 1] <|
.ite (.v 10) (
 .call 0 [vI 3, nI 1, nI 3] [.bool] <|
 .ret [vB 11]) <|
.letp .eqI [vI 3, nI 0] <|
.ret [vB 11]
def Φ_de : Phi := ph [φ_ea]
def φ_de := mir Φ_de t_de
def F_de (x0 x1 : Int) (x2 x3 : Int) : Option Out :=
 callD (φ_ea [C.int .i64 x1, C.int .i64 1, C.int .i64 3]) [.bool] fun r4 =>
 let x4 := (getC r4 0).toBool
 let x5 := (!x4)
 iteD x5 (
 some (.ret [C.bool false])) <|
 callD (φ_ea [C.int .i64 x2, C.int .i64 1, C.int .i64 6]) [.bool] fun r6 =>
 let x6 := (getC r6 0).toBool
 let x7 := (!x6)
 iteD x7 (
 some (.ret [C.bool false])) <|
 callD (φ_ea [C.int .i64 x0, C.int .i64 1, C.int .i64 7]) [.bool] fun r8 =>
 let x8 := (getC r8 0).toBool
 let x9 := (!x8)
 iteD x9 (
 some (.ret [C.bool false])) <|
 let x10 := (x0 == 1)
 iteD x10 (
 callD (φ_ea [C.int .i64 x3, C.int .i64 1, C.int .i64 3]) [.bool] fun r11 =>
 let x11 := (getC r11 0).toBool
 some (.ret [C.bool x11])) <|
 let x11 := (x3 == 0)
 some (.ret [C.bool x11])
def t_dj : Tree :=
.iter [nI 0] <|
.letp .len [vL 5] <|
.letp .ltI [vI 7, vI 8] <|
.ite (.v 9) (
 .row (.v 5) (.v 7) [kI] <|
 .letp .gtI [vI 10, nI 0] <|
 .ite (.v 11) (
 .letp (.add .i64) [vI 7, nI 1] <|
 .call 0 [vL 3, vI 6, vI 12, vI 4, nI 0] [.bool] <|
 .ite (.v 13) (
 .up <|
 .ret [⟨.bool, (.b true)⟩]) <|
 .letp (.add .i64) [vI 7, nI 1] <|
 .jump [vI 14]) <|
 .letp (.add .i64) [vI 7, nI 1] <|
 .jump [vI 12]) <|
.up <|
.ret [⟨.bool, (.b false)⟩]
def Φ_dj : Phi := ph [φ_cf]
def φ_dj := mir Φ_dj t_dj
def L_dj_0 (x3 : LL) (x4 : Int) (x5 : LL) (x6 x7 : Int) : Option Out :=
 let x8 : Int := x5.length
 let x9 := decide (x7 < x8)
 iteD x9 (
 rowD (.list x5) (.int .i64 x7) [(.int .i64)] fun r10 =>
 let x10 := (getC r10 0).toInt
 let x11 := decide (x10 > 0)
 iteD x11 (
 let x12 := IntKind.wrap .i64 (x7 + 1)
 callD (φ_cf [C.list x3, C.int .i64 x6, C.int .i64 x12, C.int .i64 x4, C.int .i64 0]) [.bool] fun r13 =>
 let x13 := (getC r13 0).toBool
 iteD x13 (
 upD <|
 some (.ret [C.bool true])) <|
 let x14 := IntKind.wrap .i64 (x7 + 1)
 some (.jump [C.int .i64 x14])) <|
 let x12 := IntKind.wrap .i64 (x7 + 1)
 some (.jump [C.int .i64 x12])) <|
 upD <|
 some (.ret [C.bool false])
def F_dj (x0 : Bool) (x1 : LL) (x2 : Int) (x3 : LL) (x4 : Int) (x5 : LL) (x6 : Int) : Option Out :=
 iterD (fun ps => L_dj_0 x3 x4 x5 x6 ((getC ps 0).toInt)) [C.int .i64 0]
def t_dm : Tree :=
.iter [nI 0] <|
.letp .len [vL 5] <|
.letp .ltI [vI 7, vI 8] <|
.ite (.v 9) (
 .row (.v 5) (.v 7) [kI] <|
 .letp .gtI [vI 10, nI 0] <|
 .ite (.v 11) (
 .letp (.add .i64) [vI 7, nI 1] <|
 .call 0 [vL 3, vI 6, vI 12, vI 4, nI 0] [.bool] <|
 .letp .not [vB 13] <|
 .ite (.v 14) (
 .up <|
 .ret [⟨.bool, (.b false)⟩]) <|
 .letp (.add .i64) [vI 7, nI 1] <|
 .jump [vI 15]) <|
 .letp (.add .i64) [vI 7, nI 1] <|
 .jump [vI 12]) <|
.up <|
.ret [⟨.bool, (.b true)⟩]
def Φ_dm : Phi := ph [φ_cf]
def φ_dm := mir Φ_dm t_dm
def L_dm_0 (x3 : LL) (x4 : Int) (x5 : LL) (x6 x7 : Int) : Option Out :=
 let x8 : Int := x5.length
 let x9 := decide (x7 < x8)
 iteD x9 (
 rowD (.list x5) (.int .i64 x7) [(.int .i64)] fun r10 =>
 let x10 := (getC r10 0).toInt
 let x11 := decide (x10 > 0)
 iteD x11 (
 let x12 := IntKind.wrap .i64 (x7 + 1)
 callD (φ_cf [C.list x3, C.int .i64 x6, C.int .i64 x12, C.int .i64 x4, C.int .i64 0]) [.bool] fun r13 =>
 let x13 := (getC r13 0).toBool
 let x14 := (!x13)
 iteD x14 (
 upD <|
 some (.ret [C.bool false])) <|
 let x15 := IntKind.wrap .i64 (x7 + 1)
 some (.jump [C.int .i64 x15])) <|
 let x12 := IntKind.wrap .i64 (x7 + 1)
 some (.jump [C.int .i64 x12])) <|
 upD <|
 some (.ret [C.bool true])
def F_dm (x0 : Bool) (x1 : LL) (x2 : Int) (x3 : LL) (x4 : Int) (x5 : LL) (x6 : Int) : Option Out :=
 iterD (fun ps => L_dm_0 x3 x4 x5 x6 ((getC ps 0).toInt)) [C.int .i64 0]
def t_ay : Tree :=
.call 0 [vB 0, vL 1, vI 2, vL 3, ⟨.bool, (.b false)⟩] [.list] <|
.letp (.sub .i64) [vI 4, nI 1] <|
.row (.v 5) (.v 6) [.list, kI] <|
.call 0 [vB 0, vL 1, vI 2, vL 3, ⟨.bool, (.b true)⟩] [.list] <|
.join [.bool] (
 .letp .len [vL 9] <|
 .letp .leI [vI 4, vI 10] <|
 .ite (.v 11) (
 .letp (.sub .i64) [vI 4, nI 1] <|
 .row (.v 9) (.v 12) [.list, kI] <|
 .letp .eqI [vI 14, vI 8] <|
 .jump [vB 15]) <|
 .jump [⟨.bool, (.b false)⟩]) <|
.join [.bool] (
 .letp .eqI [vI 8, nI 1] <|
 .ite (.v 11) (
 .call 1 [vB 0, vL 1, vI 2, vL 3, vI 4, vL 7, nI 5] [.bool] <|
 .jump [vB 12]) <|
 .jump [⟨.bool, (.b false)⟩]) <|
.ite (.v 11) (
 .call 3 [vB 0, vL 1, vI 2, vL 3, nI 6, vI 4, ⟨.list, .e⟩] [.bool, .list, kI, .list, .bool] <|
 .ret [vB 12, vL 13, vI 14, vL 15]) <|
.join [.bool] (
 .letp .eqI [vI 8, nI 1] <|
 .ite (.v 12) (
 .call 2 [vB 0, vL 1, vI 2, vL 3, vI 4, vL 7, nI 4] [.bool] <|
 .jump [vB 13]) <|
 .jump [⟨.bool, (.b false)⟩]) <|
.ite (.v 12) (
 .call 3 [vB 0, vL 1, vI 2, vL 3, nI 5, vI 4, ⟨.list, .e⟩] [.bool, .list, kI, .list, .bool] <|
 .ret [vB 13, vL 14, vI 15, vL 16]) <|
.letp .eqI [vI 8, nI 2] <|
.ite (.v 13) (
 .ite (.v 10) (
 .call 2 [vB 0, vL 1, vI 2, vL 3, vI 4, vL 7, nI 6] [.bool] <|
 .ite (.v 14) (
 .call 3 [vB 0, vL 1, vI 2, vL 3, nI 7, vI 4, ⟨.list, .e⟩] [.bool, .list, kI, .list, .bool] <|
 .ret [vB 15, vL 16, vI 17, vL 18]) <|
 .letp .eqI [vI 8, nI 3] <|
 .ite (.v 15) (
 .ite (.v 10) (
 .call 2 [vB 0, vL 1, vI 2, vL 3, vI 4, vL 7, nI 7] [.bool] <|
 .ite (.v 16) (
 .call 3 [vB 0, vL 1, vI 2, vL 3, nI 7, vI 4, ⟨.list, .e⟩] [.bool, .list, kI, .list, .bool] <|
 .ret [vB 17, vL 18, vI 19, vL 20]) <|
 .ret [vB 0, vL 1, vI 2, vL 3]) <|
 .ret [vB 0, vL 1, vI 2, vL 3]) <|
 .ret [vB 0, vL 1, vI 2, vL 3]) <|
 .letp .eqI [vI 8, nI 3] <|
 .ite (.v 14) (
 .ite (.v 10) (
 .call 2 [vB 0, vL 1, vI 2, vL 3, vI 4, vL 7, nI 7] [.bool] <|
 .ite (.v 15) (
 .call 3 [vB 0, vL 1, vI 2, vL 3, nI 7, vI 4, ⟨.list, .e⟩] [.bool, .list, kI, .list, .bool] <|
 .ret [vB 16, vL 17, vI 18, vL 19]) <|
 .ret [vB 0, vL 1, vI 2, vL 3]) <|
 .ret [vB 0, vL 1, vI 2, vL 3]) <|
 .ret [vB 0, vL 1, vI 2, vL 3]) <|
.letp .eqI [vI 8, nI 3] <|
.ite (.v 14) (
 .ite (.v 10) (
 .call 2 [vB 0, vL 1, vI 2, vL 3, vI 4, vL 7, nI 7] [.bool] <|
 .ite (.v 15) (
 .call 3 [vB 0, vL 1, vI 2, vL 3, nI 7, vI 4, ⟨.list, .e⟩] [.bool, .list, kI, .list, .bool] <|
 .ret [vB 16, vL 17, vI 18, vL 19]) <|
 .ret [vB 0, vL 1, vI 2, vL 3]) <|
 .ret [vB 0, vL 1, vI 2, vL 3]) <|
.ret [vB 0, vL 1, vI 2, vL 3]
def Φ_ay : Phi := ph [φ_bv, φ_dj, φ_dm, φ_bo]
def φ_ay := mir Φ_ay t_ay
def J_ay_0 (x0 : Bool) (x1 : LL) (x2 : Int) (x3 : LL) (x4 : Int) (x7 : LL) (x8 : Int) (x10 x12 : Bool) : Option Out :=
 iteD x12 (
 callD (φ_bo [C.bool x0, C.list x1, C.int .i64 x2, C.list x3, C.int .i64 5, C.int .i64 x4, C.list ([] : LL)]) [.bool, .list, (.int .i64), .list, .bool] fun r13 =>
 let x13 := (getC r13 0).toBool
 let x14 := (getC r13 1).toList
 let x15 := (getC r13 2).toInt
 let x16 := (getC r13 3).toList
 let x17 := (getC r13 4).toBool
 some (.ret [C.bool x13, C.list x14, C.int .i64 x15, C.list x16])) <|
 let x13 := (x8 == 2)
 iteD x13 (
 iteD x10 (
 callD (φ_dm [C.bool x0, C.list x1, C.int .i64 x2, C.list x3, C.int .i64 x4, C.list x7, C.int .i64 6]) [.bool] fun r14 =>
 let x14 := (getC r14 0).toBool
 iteD x14 (
 callD (φ_bo [C.bool x0, C.list x1, C.int .i64 x2, C.list x3, C.int .i64 7, C.int .i64 x4, C.list ([] : LL)]) [.bool, .list, (.int .i64), .list, .bool] fun r15 =>
 let x15 := (getC r15 0).toBool
 let x16 := (getC r15 1).toList
 let x17 := (getC r15 2).toInt
 let x18 := (getC r15 3).toList
 let x19 := (getC r15 4).toBool
 some (.ret [C.bool x15, C.list x16, C.int .i64 x17, C.list x18])) <|
 let x15 := (x8 == 3)
 iteD x15 (
 iteD x10 (
 callD (φ_dm [C.bool x0, C.list x1, C.int .i64 x2, C.list x3, C.int .i64 x4, C.list x7, C.int .i64 7]) [.bool] fun r16 =>
 let x16 := (getC r16 0).toBool
 iteD x16 (
 callD (φ_bo [C.bool x0, C.list x1, C.int .i64 x2, C.list x3, C.int .i64 7, C.int .i64 x4, C.list ([] : LL)]) [.bool, .list, (.int .i64), .list, .bool] fun r17 =>
 let x17 := (getC r17 0).toBool
 let x18 := (getC r17 1).toList
 let x19 := (getC r17 2).toInt
 let x20 := (getC r17 3).toList
 let x21 := (getC r17 4).toBool
 some (.ret [C.bool x17, C.list x18, C.int .i64 x19, C.list x20])) <|
 some (.ret [C.bool x0, C.list x1, C.int .i64 x2, C.list x3])) <|
 some (.ret [C.bool x0, C.list x1, C.int .i64 x2, C.list x3])) <|
 some (.ret [C.bool x0, C.list x1, C.int .i64 x2, C.list x3])) <|
 let x14 := (x8 == 3)
 iteD x14 (
 iteD x10 (
 callD (φ_dm [C.bool x0, C.list x1, C.int .i64 x2, C.list x3, C.int .i64 x4, C.list x7, C.int .i64 7]) [.bool] fun r15 =>
 let x15 := (getC r15 0).toBool
 iteD x15 (
 callD (φ_bo [C.bool x0, C.list x1, C.int .i64 x2, C.list x3, C.int .i64 7, C.int .i64 x4, C.list ([] : LL)]) [.bool, .list, (.int .i64), .list, .bool] fun r16 =>
 let x16 := (getC r16 0).toBool
 let x17 := (getC r16 1).toList
 let x18 := (getC r16 2).toInt
 let x19 := (getC r16 3).toList
 let x20 := (getC r16 4).toBool
 some (.ret [C.bool x16, C.list x17, C.int .i64 x18, C.list x19])) <|
 some (.ret [C.bool x0, C.list x1, C.int .i64 x2, C.list x3])) <|
 some (.ret [C.bool x0, C.list x1, C.int .i64 x2, C.list x3])) <|
 some (.ret [C.bool x0, C.list x1, C.int .i64 x2, C.list x3])) <|
 let x14 := (x8 == 3)
 iteD x14 (
 iteD x10 (
 callD (φ_dm [C.bool x0, C.list x1, C.int .i64 x2, C.list x3, C.int .i64 x4, C.list x7, C.int .i64 7]) [.bool] fun r15 =>
 let x15 := (getC r15 0).toBool
 iteD x15 (
 callD (φ_bo [C.bool x0, C.list x1, C.int .i64 x2, C.list x3, C.int .i64 7, C.int .i64 x4, C.list ([] : LL)]) [.bool, .list, (.int .i64), .list, .bool] fun r16 =>
 let x16 := (getC r16 0).toBool
 let x17 := (getC r16 1).toList
 let x18 := (getC r16 2).toInt
 let x19 := (getC r16 3).toList
 let x20 := (getC r16 4).toBool
 some (.ret [C.bool x16, C.list x17, C.int .i64 x18, C.list x19])) <|
 some (.ret [C.bool x0, C.list x1, C.int .i64 x2, C.list x3])) <|
 some (.ret [C.bool x0, C.list x1, C.int .i64 x2, C.list x3])) <|
 some (.ret [C.bool x0, C.list x1, C.int .i64 x2, C.list x3])
def J_ay_1 (x0 : Bool) (x1 : LL) (x2 : Int) (x3 : LL) (x4 : Int) (x7 : LL) (x8 : Int) (x10 x11 : Bool) : Option Out :=
 iteD x11 (
 callD (φ_bo [C.bool x0, C.list x1, C.int .i64 x2, C.list x3, C.int .i64 6, C.int .i64 x4, C.list ([] : LL)]) [.bool, .list, (.int .i64), .list, .bool] fun r12 =>
 let x12 := (getC r12 0).toBool
 let x13 := (getC r12 1).toList
 let x14 := (getC r12 2).toInt
 let x15 := (getC r12 3).toList
 let x16 := (getC r12 4).toBool
 some (.ret [C.bool x12, C.list x13, C.int .i64 x14, C.list x15])) <|
 joinD (
 let x12 := (x8 == 1)
 iteD x12 (
 callD (φ_dm [C.bool x0, C.list x1, C.int .i64 x2, C.list x3, C.int .i64 x4, C.list x7, C.int .i64 4]) [.bool] fun r13 =>
 let x13 := (getC r13 0).toBool
 some (.jump [C.bool x13])) <|
 some (.jump [C.bool false])) fun ps => J_ay_0 x0 x1 x2 x3 x4 x7 x8 x10 ((getC ps 0).toBool)
def J_ay_2 (x0 : Bool) (x1 : LL) (x2 : Int) (x3 : LL) (x4 : Int) (x7 : LL) (x8 : Int) (x10 : Bool) : Option Out :=
 joinD (
 let x11 := (x8 == 1)
 iteD x11 (
 callD (φ_dj [C.bool x0, C.list x1, C.int .i64 x2, C.list x3, C.int .i64 x4, C.list x7, C.int .i64 5]) [.bool] fun r12 =>
 let x12 := (getC r12 0).toBool
 some (.jump [C.bool x12])) <|
 some (.jump [C.bool false])) fun ps => J_ay_1 x0 x1 x2 x3 x4 x7 x8 x10 ((getC ps 0).toBool)
def F_ay (x0 : Bool) (x1 : LL) (x2 : Int) (x3 : LL) (x4 : Int) : Option Out :=
 callD (φ_bv [C.bool x0, C.list x1, C.int .i64 x2, C.list x3, C.bool false]) [.list] fun r5 =>
 let x5 := (getC r5 0).toList
 let x6 := IntKind.wrap .i64 (x4 - 1)
 rowD (.list x5) (.int .i64 x6) [.list, (.int .i64)] fun r7 =>
 let x7 := (getC r7 0).toList
 let x8 := (getC r7 1).toInt
 callD (φ_bv [C.bool x0, C.list x1, C.int .i64 x2, C.list x3, C.bool true]) [.list] fun r9 =>
 let x9 := (getC r9 0).toList
 joinD (
 let x10 : Int := x9.length
 let x11 := decide (x4 <= x10)
 iteD x11 (
 let x12 := IntKind.wrap .i64 (x4 - 1)
 rowD (.list x9) (.int .i64 x12) [.list, (.int .i64)] fun r13 =>
 let x13 := (getC r13 0).toList
 let x14 := (getC r13 1).toInt
 let x15 := (x14 == x8)
 some (.jump [C.bool x15])) <|
 some (.jump [C.bool false])) fun ps => J_ay_2 x0 x1 x2 x3 x4 x7 x8 ((getC ps 0).toBool)
def t_by : Tree :=
.letp .not [vB 0] <|
.ite (.v 8) (
 .ret [vB 0, vL 1, vI 2, vL 3]) <|
.call 0 [vI 4, vI 5, vI 6, vI 7] [.bool] <|
.letp .not [vB 9] <|
.ite (.v 10) (
 .ret [vB 0, vL 1, vI 2, vL 3]) <|
.letp .ltI [vI 4, nI 4] <|
.ite (.v 11) (
 .ret [vB 0, vL 1, vI 2, vL 3]) <|
.call 1 [vB 0, vL 1, vI 2, vL 3, ⟨.bool, (.b false)⟩] [.list] <|
.letp .len [vL 12] <|
.letp .gtI [vI 6, vI 13] <|
.ite (.v 14) (
 .ret [vB 0, vL 1, vI 2, vL 3]) <|
.call 2 [vL 3, vI 4, vI 5, vI 6, vI 7] [.bool] <|
.letp .not [vB 15] <|
.ite (.v 16) (
 .letp (.mkl 4) [vI 4, vI 5, vI 6, vI 7] <|
 .chk .fits [vL 3, vL 17] <|
 .letp .app [vL 3, vL 17] <|
 .call 3 [vB 0, vL 1, vI 2, vL 18, vI 6] [.bool, .list, kI, .list] <|
 .ret [vB 19, vL 20, vI 21, vL 22]) <|
.call 3 [vB 0, vL 1, vI 2, vL 3, vI 6] [.bool, .list, kI, .list] <|
.ret [vB 17, vL 18, vI 19, vL 20]
def Φ_by : Phi := ph [φ_de, φ_bv, φ_cf, φ_ay]
def φ_by := mir Φ_by t_by
def F_by (x0 : Bool) (x1 : LL) (x2 : Int) (x3 : LL) (x4 x5 : Int) (x6 x7 : Int) : Option Out :=
 let x8 := (!x0)
 iteD x8 (
 some (.ret [C.bool x0, C.list x1, C.int .i64 x2, C.list x3])) <|
 callD (φ_de [C.int .i64 x4, C.int .i64 x5, C.int .i64 x6, C.int .i64 x7]) [.bool] fun r9 =>
 let x9 := (getC r9 0).toBool
 let x10 := (!x9)
 iteD x10 (
 some (.ret [C.bool x0, C.list x1, C.int .i64 x2, C.list x3])) <|
 let x11 := decide (x4 < 4)
 iteD x11 (
 some (.ret [C.bool x0, C.list x1, C.int .i64 x2, C.list x3])) <|
 callD (φ_bv [C.bool x0, C.list x1, C.int .i64 x2, C.list x3, C.bool false]) [.list] fun r12 =>
 let x12 := (getC r12 0).toList
 let x13 : Int := x12.length
 let x14 := decide (x6 > x13)
 iteD x14 (
 some (.ret [C.bool x0, C.list x1, C.int .i64 x2, C.list x3])) <|
 callD (φ_cf [C.list x3, C.int .i64 x4, C.int .i64 x5, C.int .i64 x6, C.int .i64 x7]) [.bool] fun r15 =>
 let x15 := (getC r15 0).toBool
 let x16 := (!x15)
 iteD x16 (
 let x17 := [[C.int .i64 x4, C.int .i64 x5, C.int .i64 x6, C.int .i64 x7]]
 whenD (decide (x3.length + x17.length <= LMAX)) <|
 let x18 := (x3 ++ x17)
 callD (φ_ay [C.bool x0, C.list x1, C.int .i64 x2, C.list x18, C.int .i64 x6]) [.bool, .list, (.int .i64), .list] fun r19 =>
 let x19 := (getC r19 0).toBool
 let x20 := (getC r19 1).toList
 let x21 := (getC r19 2).toInt
 let x22 := (getC r19 3).toList
 some (.ret [C.bool x19, C.list x20, C.int .i64 x21, C.list x22])) <|
 callD (φ_ay [C.bool x0, C.list x1, C.int .i64 x2, C.list x3, C.int .i64 x6]) [.bool, .list, (.int .i64), .list] fun r17 =>
 let x17 := (getC r17 0).toBool
 let x18 := (getC r17 1).toList
 let x19 := (getC r17 2).toInt
 let x20 := (getC r17 3).toList
 some (.ret [C.bool x17, C.list x18, C.int .i64 x19, C.list x20])
def t_cu : Tree :=
.iter [vI 0, nI 0] <|
.letp .len [vL 1] <|
.letp .ltI [vI 3, vI 4] <|
.ite (.v 5) (
 .row (.v 1) (.v 3) [kI, kI] <|
 .letp .eqI [vI 7, nI 1] <|
 .ite (.v 8) (
 .row (.v 1) (.v 3) [kI, kI] <|
 .letp (.sub .i64) [vI 2, vI 9] <|
 .letp (.add .i64) [vI 3, nI 1] <|
 .jump [vI 11, vI 12]) <|
 .row (.v 1) (.v 3) [kI, kI] <|
 .letp .eqI [vI 10, nI 2] <|
 .ite (.v 11) (
 .row (.v 1) (.v 3) [kI, kI] <|
 .letp (.sub .i64) [vI 2, vI 12] <|
 .letp (.add .i64) [vI 3, nI 1] <|
 .jump [vI 14, vI 15]) <|
 .letp (.add .i64) [vI 3, nI 1] <|
 .jump [vI 2, vI 12]) <|
.up <|
.ret [vI 2]
def φ_cu := mir (ph []) t_cu
def L_cu_0 (x1 : LL) (x2 x3 : Int) : Option Out :=
 let x4 : Int := x1.length
 let x5 := decide (x3 < x4)
 iteD x5 (
 rowD (.list x1) (.int .i64 x3) [(.int .i64), (.int .i64)] fun r6 =>
 let x6 := (getC r6 0).toInt
 let x7 := (getC r6 1).toInt
 let x8 := (x7 == 1)
 iteD x8 (
 rowD (.list x1) (.int .i64 x3) [(.int .i64), (.int .i64)] fun r9 =>
 let x9 := (getC r9 0).toInt
 let x10 := (getC r9 1).toInt
 let x11 := IntKind.wrap .i64 (x2 - x9)
 let x12 := IntKind.wrap .i64 (x3 + 1)
 some (.jump [C.int .i64 x11, C.int .i64 x12])) <|
 rowD (.list x1) (.int .i64 x3) [(.int .i64), (.int .i64)] fun r9 =>
 let x9 := (getC r9 0).toInt
 let x10 := (getC r9 1).toInt
 let x11 := (x10 == 2)
 iteD x11 (
 rowD (.list x1) (.int .i64 x3) [(.int .i64), (.int .i64)] fun r12 =>
 let x12 := (getC r12 0).toInt
 let x13 := (getC r12 1).toInt
 let x14 := IntKind.wrap .i64 (x2 - x12)
 let x15 := IntKind.wrap .i64 (x3 + 1)
 some (.jump [C.int .i64 x14, C.int .i64 x15])) <|
 let x12 := IntKind.wrap .i64 (x3 + 1)
 some (.jump [C.int .i64 x2, C.int .i64 x12])) <|
 upD <|
 some (.ret [C.int .i64 x2])
def F_cu (x0 : Int) (x1 : LL) : Option Out :=
 iterD (fun ps => L_cu_0 x1 ((getC ps 0).toInt) ((getC ps 1).toInt)) [C.int .i64 x0, C.int .i64 0]
def t_dw : Tree :=
.letp (.sub .i64) [vI 3, nI 1] <|
.row (.v 1) (.v 5) [kI, kI] <|
.letp .eqI [vI 2, nI 1] <|
.ite (.v 8) (
 .letp .eqI [vI 7, nI 0] <|
 .ite (.v 9) (
 .row (.v 4) (.n 0) [kI] <|
 .call 0 [vI 0, vL 1] [kI] <|
 .letp .leI [vI 10, vI 11] <|
 .ret [vB 12]) <|
 .ret [⟨.bool, (.b false)⟩]) <|
.letp .eqI [vI 2, nI 2] <|
.ite (.v 9) (
 .letp .eqI [vI 7, nI 1] <|
 .ret [vB 10]) <|
.letp .eqI [vI 2, nI 3] <|
.ite (.v 10) (
 .letp .eqI [vI 7, nI 1] <|
 .ite (.v 11) (
 .ret [⟨.bool, (.b true)⟩]) <|
 .letp .eqI [vI 7, nI 0] <|
 .ret [vB 12]) <|
.ret [⟨.bool, (.b false)⟩]
def Φ_dw : Phi := ph [φ_cu]
def φ_dw := mir Φ_dw t_dw
def F_dw (x0 : Int) (x1 : LL) (x2 x3 : Int) (x4 : LL) : Option Out :=
 let x5 := IntKind.wrap .i64 (x3 - 1)
 rowD (.list x1) (.int .i64 x5) [(.int .i64), (.int .i64)] fun r6 =>
 let x6 := (getC r6 0).toInt
 let x7 := (getC r6 1).toInt
 let x8 := (x2 == 1)
 iteD x8 (
 let x9 := (x7 == 0)
 iteD x9 (
 rowD (.list x4) (.int .i64 0) [(.int .i64)] fun r10 =>
 let x10 := (getC r10 0).toInt
 callD (φ_cu [C.int .i64 x0, C.list x1]) [(.int .i64)] fun r11 =>
 let x11 := (getC r11 0).toInt
 let x12 := decide (x10 <= x11)
 some (.ret [C.bool x12])) <|
 some (.ret [C.bool false])) <|
 let x9 := (x2 == 2)
 iteD x9 (
 let x10 := (x7 == 1)
 some (.ret [C.bool x10])) <|
 let x10 := (x2 == 3)
 iteD x10 (
 let x11 := (x7 == 1)
 iteD x11 (
 some (.ret [C.bool true])) <|
 let x12 := (x7 == 0)
 some (.ret [C.bool x12])) <|
 some (.ret [C.bool false])
def t_spec_l2Do : Tree :=
.letp (.sub .i64) [vI 3, nI 1] <|
.chk .idx [vI 5, vL 1] <|
.row (.v 1) (.v 5) [kI, kI] <|
.letp .eqI [vI 2, nI 1] <|
.ite (.v 8) (
 .row (.v 4) (.n 0) [kI] <|
 .letp (.sub .i64) [vI 3, nI 1] <|
 .chk .idx [vI 10, vL 1] <|
 .letp (.setr 0) [vL 1, vI 10, vI 9, nI 1] <|
 .ret [vI 0, vL 11]) <|
.letp .eqI [vI 2, nI 2] <|
.ite (.v 9) (
 .letp (.sub .i64) [vI 3, nI 1] <|
 .chk .idx [vI 10, vL 1] <|
 .letp (.setr 0) [vL 1, vI 10, vI 6, nI 2] <|
 .ret [vI 0, vL 11]) <|
.letp .eqI [vI 2, nI 3] <|
.ite (.v 10) (
 .letp (.sub .i64) [vI 3, nI 1] <|
 .chk .idx [vI 11, vL 1] <|
 .letp (.setr 0) [vL 1, vI 11, vI 6, nI 3] <|
 .ret [vI 0, vL 12]) <|
.letp (.sub .i64) [vI 3, nI 1] <|
.chk .idx [vI 11, vL 1] <|
.letp (.setr 0) [vL 1, vI 11, vI 6, vI 7] <|
.ret [vI 0, vL 12]
def φ_spec_l2Do := mir (ph []) t_spec_l2Do
def F_spec_l2Do (x0 : Int) (x1 : LL) (x2 x3 : Int) (x4 : LL) : Option Out :=
 let x5 := IntKind.wrap .i64 (x3 - 1)
 whenD ((decide ((0 : Int) <= x5) && decide (x5 < (x1.length : Nat)))) <|
 rowD (.list x1) (.int .i64 x5) [(.int .i64), (.int .i64)] fun r6 =>
 let x6 := (getC r6 0).toInt
 let x7 := (getC r6 1).toInt
 let x8 := (x2 == 1)
 iteD x8 (
 rowD (.list x4) (.int .i64 0) [(.int .i64)] fun r9 =>
 let x9 := (getC r9 0).toInt
 let x10 := IntKind.wrap .i64 (x3 - 1)
 whenD ((decide ((0 : Int) <= x10) && decide (x10 < (x1.length : Nat)))) <|
 let x11 := (setRow 0 x1 (Int.toNat x10) [C.int .i64 x9, C.int .i64 1])
 some (.ret [C.int .i64 x0, C.list x11])) <|
 let x9 := (x2 == 2)
 iteD x9 (
 let x10 := IntKind.wrap .i64 (x3 - 1)
 whenD ((decide ((0 : Int) <= x10) && decide (x10 < (x1.length : Nat)))) <|
 let x11 := (setRow 0 x1 (Int.toNat x10) [C.int .i64 x6, C.int .i64 2])
 some (.ret [C.int .i64 x0, C.list x11])) <|
 let x10 := (x2 == 3)
 iteD x10 (
 let x11 := IntKind.wrap .i64 (x3 - 1)
 whenD ((decide ((0 : Int) <= x11) && decide (x11 < (x1.length : Nat)))) <|
 let x12 := (setRow 0 x1 (Int.toNat x11) [C.int .i64 x6, C.int .i64 3])
 some (.ret [C.int .i64 x0, C.list x12])) <|
 let x11 := IntKind.wrap .i64 (x3 - 1)
 whenD ((decide ((0 : Int) <= x11) && decide (x11 < (x1.length : Nat)))) <|
 let x12 := (setRow 0 x1 (Int.toNat x11) [C.int .i64 x6, C.int .i64 x7])
 some (.ret [C.int .i64 x0, C.list x12])
def t_eb : Tree :=
.call 0 [vI 0] [kI, .list, .bool] <|
.letp .not [vB 4] <|
.ite (.v 5) (
 .ret [nI 0, ⟨.list, .e⟩, ⟨.bool, (.b false)⟩]) <|
.iter [nI 0, vI 2, vL 3] <|
.letp .len [vL 1] <|
.letp .ltI [vI 6, vI 9] <|
.ite (.v 10) (
 .row (.v 1) (.v 6) [kI, kI, .list] <|
 .call 1 [vI 11, vI 12, vL 13] [.bool] <|
 .letp .not [vB 14] <|
 .ite (.v 15) (
 .up <|
 .ret [nI 0, ⟨.list, .e⟩, ⟨.bool, (.b false)⟩]) <|
 .row (.v 1) (.v 6) [kI, kI, .list] <|
 .call 2 [vI 7, vL 8, vI 16, vI 17, vL 18] [.bool] <|
 .letp .not [vB 19] <|
 .ite (.v 20) (
 .up <|
 .ret [nI 0, ⟨.list, .e⟩, ⟨.bool, (.b false)⟩]) <|
 .row (.v 1) (.v 6) [kI, kI, .list] <|
 .call 3 [vI 7, vL 8, vI 21, vI 22, vL 23] [kI, .list] <|
 .letp (.add .i64) [vI 6, nI 1] <|
 .jump [vI 26, vI 24, vL 25]) <|
.up <|
.ret [vI 7, vL 8, ⟨.bool, (.b true)⟩]
def Φ_eb : Phi := ph [φ_bw, φ_dx, φ_dw, φ_spec_l2Do]
def φ_eb := mir Φ_eb t_eb
def L_eb_0 (x1 : LL) (x6 x7 : Int) (x8 : LL) : Option Out :=
 let x9 : Int := x1.length
 let x10 := decide (x6 < x9)
 iteD x10 (
 rowD (.list x1) (.int .i64 x6) [(.int .i64), (.int .i64), .list] fun r11 =>
 let x11 := (getC r11 0).toInt
 let x12 := (getC r11 1).toInt
 let x13 := (getC r11 2).toList
 callD (φ_dx [C.int .i64 x11, C.int .i64 x12, C.list x13]) [.bool] fun r14 =>
 let x14 := (getC r14 0).toBool
 let x15 := (!x14)
 iteD x15 (
 upD <|
 some (.ret [C.int .i64 0, C.list ([] : LL), C.bool false])) <|
 rowD (.list x1) (.int .i64 x6) [(.int .i64), (.int .i64), .list] fun r16 =>
 let x16 := (getC r16 0).toInt
 let x17 := (getC r16 1).toInt
 let x18 := (getC r16 2).toList
 callD (φ_dw [C.int .i64 x7, C.list x8, C.int .i64 x16, C.int .i64 x17, C.list x18]) [.bool] fun r19 =>
 let x19 := (getC r19 0).toBool
 let x20 := (!x19)
 iteD x20 (
 upD <|
 some (.ret [C.int .i64 0, C.list ([] : LL), C.bool false])) <|
 rowD (.list x1) (.int .i64 x6) [(.int .i64), (.int .i64), .list] fun r21 =>
 let x21 := (getC r21 0).toInt
 let x22 := (getC r21 1).toInt
 let x23 := (getC r21 2).toList
 callD (φ_spec_l2Do [C.int .i64 x7, C.list x8, C.int .i64 x21, C.int .i64 x22, C.list x23]) [(.int .i64), .list] fun r24 =>
 let x24 := (getC r24 0).toInt
 let x25 := (getC r24 1).toList
 let x26 := IntKind.wrap .i64 (x6 + 1)
 some (.jump [C.int .i64 x26, C.int .i64 x24, C.list x25])) <|
 upD <|
 some (.ret [C.int .i64 x7, C.list x8, C.bool true])
def F_eb (x0 : Int) (x1 : LL) : Option Out :=
 callD (φ_bw [C.int .i64 x0]) [(.int .i64), .list, .bool] fun r2 =>
 let x2 := (getC r2 0).toInt
 let x3 := (getC r2 1).toList
 let x4 := (getC r2 2).toBool
 let x5 := (!x4)
 iteD x5 (
 some (.ret [C.int .i64 0, C.list ([] : LL), C.bool false])) <|
 iterD (fun ps => L_eb_0 x1 ((getC ps 0).toInt) ((getC ps 1).toInt) ((getC ps 2).toList)) [C.int .i64 0, C.int .i64 x2, C.list x3]
def t_bp : Tree :=
.letp .len [vL 3] <|
.ite (.v 5) (
 .chk .upto [vI 4, vL 3] <|
 .letp .take [vL 3, vI 4] <|
 .call 0 [vI 2, vL 7] [kI, .list, .bool] <|
 .ret [vI 8, vL 9]) <|
.chk .upto [vI 6, vL 3] <|
.letp .take [vL 3, vI 6] <|
.call 0 [vI 2, vL 7] [kI, .list, .bool] <|
.ret [vI 8, vL 9]
def Φ_bp : Phi := ph [φ_eb]
def φ_bp := mir Φ_bp t_bp
def F_bp (x0 : Int) (x1 : Bool) (x2 : Int) (x3 : LL) (x4 : Int) (x5 : Bool) : Option Out :=
 let x6 : Int := x3.length
 iteD x5 (
 whenD ((decide ((0 : Int) <= x4) && decide (x4 <= (x3.length : Nat)))) <|
 let x7 := (x3.take (Int.toNat x4))
 callD (φ_eb [C.int .i64 x2, C.list x7]) [(.int .i64), .list, .bool] fun r8 =>
 let x8 := (getC r8 0).toInt
 let x9 := (getC r8 1).toList
 let x10 := (getC r8 2).toBool
 some (.ret [C.int .i64 x8, C.list x9])) <|
 whenD ((decide ((0 : Int) <= x6) && decide (x6 <= (x3.length : Nat)))) <|
 let x7 := (x3.take (Int.toNat x6))
 callD (φ_eb [C.int .i64 x2, C.list x7]) [(.int .i64), .list, .bool] fun r8 =>
 let x8 := (getC r8 0).toInt
 let x9 := (getC r8 1).toList
 let x10 := (getC r8 2).toBool
 some (.ret [C.int .i64 x8, C.list x9])
def t_dl : Tree :=
.letp .eqI [vI 0, nI 1] <|
.ite (.v 4) (
 .letp (.mkl 1) [vI 3] <|
 .ret [nI 1, vI 2, vL 5]) <|
.letp .eqI [vI 0, nI 2] <|
.ite (.v 5) (
 .ret [nI 2, vI 2, ⟨.list, .e⟩]) <|
.ret [nI 3, vI 2, ⟨.list, .e⟩]
def φ_dl := mir (ph []) t_dl
def F_dl (x0 x1 : Int) (x2 x3 : Int) : Option Out :=
 let x4 := (x0 == 1)
 iteD x4 (
 let x5 := [[C.int .i64 x3]]
 some (.ret [C.int .i64 1, C.int .i64 x2, C.list x5])) <|
 let x5 := (x0 == 2)
 iteD x5 (
 some (.ret [C.int .i64 2, C.int .i64 x2, C.list ([] : LL)])) <|
 some (.ret [C.int .i64 3, C.int .i64 x2, C.list ([] : LL)])
def t_ax : Tree :=
.join [.bool] (
 .letp .eqI [vI 5, nI 1] <|
 .ite (.v 10) (
 .letp .eqI [vI 9, nI 1] <|
 .ite (.v 11) (
 .jump [⟨.bool, (.b true)⟩]) <|
 .letp .eqI [vI 9, nI 2] <|
 .jump [vB 12]) <|
 .jump [⟨.bool, (.b false)⟩]) <|
.ite (.v 10) (
 .ret [nI 4, vI 0, vI 7, nI 0, ⟨.bool, (.b true)⟩]) <|
.join [.bool] (
 .letp .eqI [vI 5, nI 1] <|
 .ite (.v 11) (
 .letp .eqI [vI 9, nI 3] <|
 .jump [vB 12]) <|
 .jump [⟨.bool, (.b false)⟩]) <|
.ite (.v 11) (
 .ret [nI 5, vI 0, vI 7, nI 0, ⟨.bool, (.b true)⟩]) <|
.letp .eqI [vI 5, nI 2] <|
.ite (.v 12) (
 .letp .eqI [vI 9, nI 2] <|
 .ite (.v 13) (
 .ret [nI 6, vI 0, vI 7, nI 0, ⟨.bool, (.b true)⟩]) <|
 .letp .eqI [vI 5, nI 3] <|
 .ite (.v 14) (
 .letp .eqI [vI 9, nI 3] <|
 .ite (.v 15) (
 .ret [nI 7, vI 0, vI 7, nI 0, ⟨.bool, (.b true)⟩]) <|
 .ret [nI 0, nI 0, nI 0, nI 0, ⟨.bool, (.b false)⟩]) <|
 .ret [nI 0, nI 0, nI 0, nI 0, ⟨.bool, (.b false)⟩]) <|
.letp .eqI [vI 5, nI 3] <|
.ite (.v 13) (
 .letp .eqI [vI 9, nI 3] <|
 .ite (.v 14) (
 .ret [nI 7, vI 0, vI 7, nI 0, ⟨.bool, (.b true)⟩]) <|
 .ret [nI 0, nI 0, nI 0, nI 0, ⟨.bool, (.b false)⟩]) <|
.ret [nI 0, nI 0, nI 0, nI 0, ⟨.bool, (.b false)⟩]
def φ_ax := mir (ph []) t_ax
def J_ax_0 (x0 x5 : Int) (x7 x9 : Int) (x11 : Bool) : Option Out :=
 iteD x11 (
 some (.ret [C.int .i64 5, C.int .i64 x0, C.int .i64 x7, C.int .i64 0, C.bool true])) <|
 let x12 := (x5 == 2)
 iteD x12 (
 let x13 := (x9 == 2)
 iteD x13 (
 some (.ret [C.int .i64 6, C.int .i64 x0, C.int .i64 x7, C.int .i64 0, C.bool true])) <|
 let x14 := (x5 == 3)
 iteD x14 (
 let x15 := (x9 == 3)
 iteD x15 (
 some (.ret [C.int .i64 7, C.int .i64 x0, C.int .i64 x7, C.int .i64 0, C.bool true])) <|
 some (.ret [C.int .i64 0, C.int .i64 0, C.int .i64 0, C.int .i64 0, C.bool false])) <|
 some (.ret [C.int .i64 0, C.int .i64 0, C.int .i64 0, C.int .i64 0, C.bool false])) <|
 let x13 := (x5 == 3)
 iteD x13 (
 let x14 := (x9 == 3)
 iteD x14 (
 some (.ret [C.int .i64 7, C.int .i64 x0, C.int .i64 x7, C.int .i64 0, C.bool true])) <|
 some (.ret [C.int .i64 0, C.int .i64 0, C.int .i64 0, C.int .i64 0, C.bool false])) <|
 some (.ret [C.int .i64 0, C.int .i64 0, C.int .i64 0, C.int .i64 0, C.bool false])
def J_ax_1 (x0 x5 : Int) (x7 x9 : Int) (x10 : Bool) : Option Out :=
 iteD x10 (
 some (.ret [C.int .i64 4, C.int .i64 x0, C.int .i64 x7, C.int .i64 0, C.bool true])) <|
 joinD (
 let x11 := (x5 == 1)
 iteD x11 (
 let x12 := (x9 == 3)
 some (.jump [C.bool x12])) <|
 some (.jump [C.bool false])) fun ps => J_ax_0 x0 x5 x7 x9 ((getC ps 0).toBool)
def F_ax (x0 : Int) (x1 : Bool) (x2 : Int) (x3 : LL) (x4 x5 : Int) (x6 x7 : Int) (x8 x9 : Int) : Option Out :=
 joinD (
 let x10 := (x5 == 1)
 iteD x10 (
 let x11 := (x9 == 1)
 iteD x11 (
 some (.jump [C.bool true])) <|
 let x12 := (x9 == 2)
 some (.jump [C.bool x12])) <|
 some (.jump [C.bool false])) fun ps => J_ax_1 x0 x5 x7 x9 ((getC ps 0).toBool)
def t_ce : Tree :=
.letp .not [vB 1] <|
.ite (.v 9) (
 .ret [vI 0, vB 1, vI 2, vL 3, vI 4, nI 0, nI 0, nI 0, nI 0, ⟨.bool, (.b false)⟩]) <|
.call 0 [vI 5, vI 6, vI 7, vI 8] [.bool] <|
.letp .not [vB 10] <|
.ite (.v 11) (
 .ret [vI 0, vB 1, vI 2, vL 3, vI 4, nI 0, nI 0, nI 0, nI 0, ⟨.bool, (.b false)⟩]) <|
.letp .neI [vI 6, vI 0] <|
.ite (.v 12) (
 .ret [vI 0, vB 1, vI 2, vL 3, vI 4, nI 0, nI 0, nI 0, nI 0, ⟨.bool, (.b false)⟩]) <|
.letp .gtI [vI 5, nI 3] <|
.ite (.v 13) (
 .ret [vI 0, vB 1, vI 2, vL 3, vI 4, nI 0, nI 0, nI 0, nI 0, ⟨.bool, (.b false)⟩]) <|
.call 1 [vI 0, vB 1, vI 2, vL 3, vI 4, ⟨.bool, (.b false)⟩] [kI, .list] <|
.call 2 [vI 5, vI 6, vI 7, vI 8] [kI, kI, .list] <|
.call 3 [vI 14, vL 15, vI 16, vI 17, vL 18] [.bool] <|
.ite (.v 19) (
 .call 4 [vL 3, vI 4, vI 16, vI 17, vL 18] [.list, kI, .bool] <|
 .ret [vI 0, vB 1, vI 2, vL 20, vI 21, nI 0, nI 0, nI 0, nI 0, ⟨.bool, (.b false)⟩]) <|
.letp .eqI [vI 5, nI 1] <|
.ite (.v 20) (
 .letp (.sub .i64) [vI 7, nI 1] <|
 .row (.v 15) (.v 21) [kI, kI] <|
 .letp .eqI [vI 23, nI 0] <|
 .ite (.v 24) (
 .ret [vI 0, vB 1, vI 2, vL 3, vI 4, nI 5, vI 0, vI 7, nI 0, ⟨.bool, (.b true)⟩]) <|
 .letp (.sub .i64) [vI 7, nI 1] <|
 .call 1 [vI 0, vB 1, vI 2, vL 3, vI 4, ⟨.bool, (.b true)⟩] [kI, .list] <|
 .row (.v 27) (.v 25) [kI, kI] <|
 .call 5 [vI 0, vB 1, vI 2, vL 3, vI 4, vI 5, vI 6, vI 7, vI 8, vI 29] [kI, kI, kI, kI, .bool] <|
 .ret [vI 0, vB 1, vI 2, vL 3, vI 4, vI 30, vI 31, vI 32, vI 33, vB 34]) <|
.letp (.sub .i64) [vI 7, nI 1] <|
.call 1 [vI 0, vB 1, vI 2, vL 3, vI 4, ⟨.bool, (.b true)⟩] [kI, .list] <|
.row (.v 23) (.v 21) [kI, kI] <|
.call 5 [vI 0, vB 1, vI 2, vL 3, vI 4, vI 5, vI 6, vI 7, vI 8, vI 25] [kI, kI, kI, kI, .bool] <|
.ret [vI 0, vB 1, vI 2, vL 3, vI 4, vI 26, vI 27, vI 28, vI 29, vB 30]
def Φ_ce : Phi := ph [φ_de, φ_bp, φ_dl, φ_dw, φ_ds, φ_ax]
def φ_ce := mir Φ_ce t_ce
def F_ce (x0 : Int) (x1 : Bool) (x2 : Int) (x3 : LL) (x4 x5 : Int) (x6 x7 x8 : Int) : Option Out :=
 let x9 := (!x1)
 iteD x9 (
 some (.ret [C.int .i64 x0, C.bool x1, C.int .i64 x2, C.list x3, C.int .i64 x4, C.int .i64 0, C.int .i64 0, C.int .i64 0, C.int .i64 0, C.bool false])) <|
 callD (φ_de [C.int .i64 x5, C.int .i64 x6, C.int .i64 x7, C.int .i64 x8]) [.bool] fun r10 =>
 let x10 := (getC r10 0).toBool
 let x11 := (!x10)
 iteD x11 (
 some (.ret [C.int .i64 x0, C.bool x1, C.int .i64 x2, C.list x3, C.int .i64 x4, C.int .i64 0, C.int .i64 0, C.int .i64 0, C.int .i64 0, C.bool false])) <|
 let x12 := (x6 != x0)
 iteD x12 (
 some (.ret [C.int .i64 x0, C.bool x1, C.int .i64 x2, C.list x3, C.int .i64 x4, C.int .i64 0, C.int .i64 0, C.int .i64 0, C.int .i64 0, C.bool false])) <|
 let x13 := decide (x5 > 3)
 iteD x13 (
 some (.ret [C.int .i64 x0, C.bool x1, C.int .i64 x2, C.list x3, C.int .i64 x4, C.int .i64 0, C.int .i64 0, C.int .i64 0, C.int .i64 0, C.bool false])) <|
 callD (φ_bp [C.int .i64 x0, C.bool x1, C.int .i64 x2, C.list x3, C.int .i64 x4, C.bool false]) [(.int .i64), .list] fun r14 =>
 let x14 := (getC r14 0).toInt
 let x15 := (getC r14 1).toList
 callD (φ_dl [C.int .i64 x5, C.int .i64 x6, C.int .i64 x7, C.int .i64 x8]) [(.int .i64), (.int .i64), .list] fun r16 =>
 let x16 := (getC r16 0).toInt
 let x17 := (getC r16 1).toInt
 let x18 := (getC r16 2).toList
 callD (φ_dw [C.int .i64 x14, C.list x15, C.int .i64 x16, C.int .i64 x17, C.list x18]) [.bool] fun r19 =>
 let x19 := (getC r19 0).toBool
 iteD x19 (
 callD (φ_ds [C.list x3, C.int .i64 x4, C.int .i64 x16, C.int .i64 x17, C.list x18]) [.list, (.int .i64), .bool] fun r20 =>
 let x20 := (getC r20 0).toList
 let x21 := (getC r20 1).toInt
 let x22 := (getC r20 2).toBool
 some (.ret [C.int .i64 x0, C.bool x1, C.int .i64 x2, C.list x20, C.int .i64 x21, C.int .i64 0, C.int .i64 0, C.int .i64 0, C.int .i64 0, C.bool false])) <|
 let x20 := (x5 == 1)
 iteD x20 (
 let x21 := IntKind.wrap .i64 (x7 - 1)
 rowD (.list x15) (.int .i64 x21) [(.int .i64), (.int .i64)] fun r22 =>
 let x22 := (getC r22 0).toInt
 let x23 := (getC r22 1).toInt
 let x24 := (x23 == 0)
 iteD x24 (
 some (.ret [C.int .i64 x0, C.bool x1, C.int .i64 x2, C.list x3, C.int .i64 x4, C.int .i64 5, C.int .i64 x0, C.int .i64 x7, C.int .i64 0, C.bool true])) <|
 let x25 := IntKind.wrap .i64 (x7 - 1)
 callD (φ_bp [C.int .i64 x0, C.bool x1, C.int .i64 x2, C.list x3, C.int .i64 x4, C.bool true]) [(.int .i64), .list] fun r26 =>
 let x26 := (getC r26 0).toInt
 let x27 := (getC r26 1).toList
 rowD (.list x27) (.int .i64 x25) [(.int .i64), (.int .i64)] fun r28 =>
 let x28 := (getC r28 0).toInt
 let x29 := (getC r28 1).toInt
 callD (φ_ax [C.int .i64 x0, C.bool x1, C.int .i64 x2, C.list x3, C.int .i64 x4, C.int .i64 x5, C.int .i64 x6, C.int .i64 x7, C.int .i64 x8, C.int .i64 x29]) [(.int .i64), (.int .i64), (.int .i64), (.int .i64), .bool] fun r30 =>
 let x30 := (getC r30 0).toInt
 let x31 := (getC r30 1).toInt
 let x32 := (getC r30 2).toInt
 let x33 := (getC r30 3).toInt
 let x34 := (getC r30 4).toBool
 some (.ret [C.int .i64 x0, C.bool x1, C.int .i64 x2, C.list x3, C.int .i64 x4, C.int .i64 x30, C.int .i64 x31, C.int .i64 x32, C.int .i64 x33, C.bool x34])) <|
 let x21 := IntKind.wrap .i64 (x7 - 1)
 callD (φ_bp [C.int .i64 x0, C.bool x1, C.int .i64 x2, C.list x3, C.int .i64 x4, C.bool true]) [(.int .i64), .list] fun r22 =>
 let x22 := (getC r22 0).toInt
 let x23 := (getC r22 1).toList
 rowD (.list x23) (.int .i64 x21) [(.int .i64), (.int .i64)] fun r24 =>
 let x24 := (getC r24 0).toInt
 let x25 := (getC r24 1).toInt
 callD (φ_ax [C.int .i64 x0, C.bool x1, C.int .i64 x2, C.list x3, C.int .i64 x4, C.int .i64 x5, C.int .i64 x6, C.int .i64 x7, C.int .i64 x8, C.int .i64 x25]) [(.int .i64), (.int .i64), (.int .i64), (.int .i64), .bool] fun r26 =>
 let x26 := (getC r26 0).toInt
 let x27 := (getC r26 1).toInt
 let x28 := (getC r26 2).toInt
 let x29 := (getC r26 3).toInt
 let x30 := (getC r26 4).toBool
 some (.ret [C.int .i64 x0, C.bool x1, C.int .i64 x2, C.list x3, C.int .i64 x4, C.int .i64 x26, C.int .i64 x27, C.int .i64 x28, C.int .i64 x29, C.bool x30])
def t_cq : Tree :=
.letp .geI [vI 6, nI 4] <|
.ite (.v 10) (
 .call 0 [vB 0, vL 1, vI 2, vL 3, vI 6, vI 7, vI 8, vI 9] [.bool, .list, kI, .list] <|
 .ret [vB 11, vL 12, vI 13, vL 14, vL 4, vL 5, nI 0, nI 0, nI 0, nI 0, ⟨.bool, (.b false)⟩]) <|
.letp (.sub .i64) [vI 7, nI 1] <|
.chk .idx [vI 11, vL 4] <|
.row (.v 4) (.v 11) [kI, .bool, kI, .list, kI] <|
.chk .eqI [vI 11, vI 11] <|
.call 1 [vI 12, vB 13, vI 14, vL 15, vI 16, vI 6, vI 7, vI 8, vI 9] [kI, .bool, kI, .list, kI, kI, kI, kI, kI, .bool] <|
.letp (.sub .i64) [vI 7, nI 1] <|
.chk .idx [vI 27, vL 4] <|
.chk .eqI [vI 27, vI 11] <|
.letp .setw [vL 4, vI 11, vI 17, vB 18, vI 19, vL 20, vI 21] <|
.ret [vB 0, vL 1, vI 2, vL 3, vL 28, vL 5, vI 22, vI 23, vI 24, vI 25, vB 26]
def Φ_cq : Phi := ph [φ_by, φ_ce]
def φ_cq := mir Φ_cq t_cq
def F_cq (x0 : Bool) (x1 : LL) (x2 : Int) (x3 x4 x5 : LL) (x6 x7 : Int) (x8 x9 : Int) : Option Out :=
 let x10 := decide (x6 >= 4)
 iteD x10 (
 callD (φ_by [C.bool x0, C.list x1, C.int .i64 x2, C.list x3, C.int .i64 x6, C.int .i64 x7, C.int .i64 x8, C.int .i64 x9]) [.bool, .list, (.int .i64), .list] fun r11 =>
 let x11 := (getC r11 0).toBool
 let x12 := (getC r11 1).toList
 let x13 := (getC r11 2).toInt
 let x14 := (getC r11 3).toList
 some (.ret [C.bool x11, C.list x12, C.int .i64 x13, C.list x14, C.list x4, C.list x5, C.int .i64 0, C.int .i64 0, C.int .i64 0, C.int .i64 0, C.bool false])) <|
 let x11 := IntKind.wrap .i64 (x7 - 1)
 whenD ((decide ((0 : Int) <= x11) && decide (x11 < (x4.length : Nat)))) <|
 rowD (.list x4) (.int .i64 x11) [(.int .i64), .bool, (.int .i64), .list, (.int .i64)] fun r12 =>
 let x12 := (getC r12 0).toInt
 let x13 := (getC r12 1).toBool
 let x14 := (getC r12 2).toInt
 let x15 := (getC r12 3).toList
 let x16 := (getC r12 4).toInt
 whenD ((x11 == x11)) <|
 callD (φ_ce [C.int .i64 x12, C.bool x13, C.int .i64 x14, C.list x15, C.int .i64 x16, C.int .i64 x6, C.int .i64 x7, C.int .i64 x8, C.int .i64 x9]) [(.int .i64), .bool, (.int .i64), .list, (.int .i64), (.int .i64), (.int .i64), (.int .i64), (.int .i64), .bool] fun r17 =>
 let x17 := (getC r17 0).toInt
 let x18 := (getC r17 1).toBool
 let x19 := (getC r17 2).toInt
 let x20 := (getC r17 3).toList
 let x21 := (getC r17 4).toInt
 let x22 := (getC r17 5).toInt
 let x23 := (getC r17 6).toInt
 let x24 := (getC r17 7).toInt
 let x25 := (getC r17 8).toInt
 let x26 := (getC r17 9).toBool
 let x27 := IntKind.wrap .i64 (x7 - 1)
 whenD ((decide ((0 : Int) <= x27) && decide (x27 < (x4.length : Nat)))) <|
 whenD ((x27 == x11)) <|
 let x28 := (x4.set (Int.toNat x11) [C.int .i64 x17, C.bool x18, C.int .i64 x19, C.list x20, C.int .i64 x21])
 some (.ret [C.bool x0, C.list x1, C.int .i64 x2, C.list x3, C.list x28, C.list x5, C.int .i64 x22, C.int .i64 x23, C.int .i64 x24, C.int .i64 x25, C.bool x26])
def t_cw : Tree :=
.letp .len [vL 5] <|
.letp (.sub .i64) [vI 10, nI 1] <|
.call 0 [vI 7, nI 0, vI 11] [.bool] <|
.letp .not [vB 12] <|
.ite (.v 13) (
 .ret [vB 0, vL 1, vI 2, vL 3, vL 4, vL 5]) <|
.chk .idx [vI 7, vL 5] <|
.row (.v 5) (.v 7) [kI, kI, kI, kI] <|
.letp .eqI [vI 6, nI 5] <|
.ite (.v 18) (
 .call 1 [vB 0, vL 1, vI 2, vL 3, vL 4, vL 5, vI 7] [.bool, .list, kI, .list, .list, .list] <|
 .ret [vB 19, vL 20, vI 21, vL 22, vL 23, vL 24]) <|
.letp .eqI [vI 6, nI 6] <|
.ite (.v 19) (
 .call 2 [vB 0, vL 1, vI 2, vL 3, vL 4, vL 5, vI 14, vI 15, vI 16, vI 17] [.bool, .list, kI, .list, .list, .list] <|
 .ret [vB 20, vL 21, vI 22, vL 23, vL 24, vL 25]) <|
.call 1 [vB 0, vL 1, vI 2, vL 3, vL 4, vL 5, vI 7] [.bool, .list, kI, .list, .list, .list] <|
.call 3 [vB 20, vL 21, vI 22, vL 23, vL 24, vL 25, vI 14, vI 15, vI 16, vI 17] [.bool, .list, kI, .list, .list, .list, kI, kI, kI, kI, .bool] <|
.ite (.v 36) (
 .call 2 [vB 26, vL 27, vI 28, vL 29, vL 30, vL 31, vI 32, vI 33, vI 34, vI 35] [.bool, .list, kI, .list, .list, .list] <|
 .ret [vB 37, vL 38, vI 39, vL 40, vL 41, vL 42]) <|
.ret [vB 26, vL 27, vI 28, vL 29, vL 30, vL 31]
def Φ_cw : Phi := ph [φ_ea, φ_co, φ_dd, φ_cq]
def φ_cw := mir Φ_cw t_cw
def F_cw (x0 : Bool) (x1 : LL) (x2 : Int) (x3 x4 x5 : LL) (x6 x7 x8 : Int) (x9 : LL) : Option Out :=
 let x10 : Int := x5.length
 let x11 := IntKind.wrap .i64 (x10 - 1)
 callD (φ_ea [C.int .i64 x7, C.int .i64 0, C.int .i64 x11]) [.bool] fun r12 =>
 let x12 := (getC r12 0).toBool
 let x13 := (!x12)
 iteD x13 (
 some (.ret [C.bool x0, C.list x1, C.int .i64 x2, C.list x3, C.list x4, C.list x5])) <|
 whenD ((decide ((0 : Int) <= x7) && decide (x7 < (x5.length : Nat)))) <|
 rowD (.list x5) (.int .i64 x7) [(.int .i64), (.int .i64), (.int .i64), (.int .i64)] fun r14 =>
 let x14 := (getC r14 0).toInt
 let x15 := (getC r14 1).toInt
 let x16 := (getC r14 2).toInt
 let x17 := (getC r14 3).toInt
 let x18 := (x6 == 5)
 iteD x18 (
 callD (φ_co [C.bool x0, C.list x1, C.int .i64 x2, C.list x3, C.list x4, C.list x5, C.int .i64 x7]) [.bool, .list, (.int .i64), .list, .list, .list] fun r19 =>
 let x19 := (getC r19 0).toBool
 let x20 := (getC r19 1).toList
 let x21 := (getC r19 2).toInt
 let x22 := (getC r19 3).toList
 let x23 := (getC r19 4).toList
 let x24 := (getC r19 5).toList
 some (.ret [C.bool x19, C.list x20, C.int .i64 x21, C.list x22, C.list x23, C.list x24])) <|
 let x19 := (x6 == 6)
 iteD x19 (
 callD (φ_dd [C.bool x0, C.list x1, C.int .i64 x2, C.list x3, C.list x4, C.list x5, C.int .i64 x14, C.int .i64 x15, C.int .i64 x16, C.int .i64 x17]) [.bool, .list, (.int .i64), .list, .list, .list] fun r20 =>
 let x20 := (getC r20 0).toBool
 let x21 := (getC r20 1).toList
 let x22 := (getC r20 2).toInt
 let x23 := (getC r20 3).toList
 let x24 := (getC r20 4).toList
 let x25 := (getC r20 5).toList
 some (.ret [C.bool x20, C.list x21, C.int .i64 x22, C.list x23, C.list x24, C.list x25])) <|
 callD (φ_co [C.bool x0, C.list x1, C.int .i64 x2, C.list x3, C.list x4, C.list x5, C.int .i64 x7]) [.bool, .list, (.int .i64), .list, .list, .list] fun r20 =>
 let x20 := (getC r20 0).toBool
 let x21 := (getC r20 1).toList
 let x22 := (getC r20 2).toInt
 let x23 := (getC r20 3).toList
 let x24 := (getC r20 4).toList
 let x25 := (getC r20 5).toList
 callD (φ_cq [C.bool x20, C.list x21, C.int .i64 x22, C.list x23, C.list x24, C.list x25, C.int .i64 x14, C.int .i64 x15, C.int .i64 x16, C.int .i64 x17]) [.bool, .list, (.int .i64), .list, .list, .list, (.int .i64), (.int .i64), (.int .i64), (.int .i64), .bool] fun r26 =>
 let x26 := (getC r26 0).toBool
 let x27 := (getC r26 1).toList
 let x28 := (getC r26 2).toInt
 let x29 := (getC r26 3).toList
 let x30 := (getC r26 4).toList
 let x31 := (getC r26 5).toList
 let x32 := (getC r26 6).toInt
 let x33 := (getC r26 7).toInt
 let x34 := (getC r26 8).toInt
 let x35 := (getC r26 9).toInt
 let x36 := (getC r26 10).toBool
 iteD x36 (
 callD (φ_dd [C.bool x26, C.list x27, C.int .i64 x28, C.list x29, C.list x30, C.list x31, C.int .i64 x32, C.int .i64 x33, C.int .i64 x34, C.int .i64 x35]) [.bool, .list, (.int .i64), .list, .list, .list] fun r37 =>
 let x37 := (getC r37 0).toBool
 let x38 := (getC r37 1).toList
 let x39 := (getC r37 2).toInt
 let x40 := (getC r37 3).toList
 let x41 := (getC r37 4).toList
 let x42 := (getC r37 5).toList
 some (.ret [C.bool x37, C.list x38, C.int .i64 x39, C.list x40, C.list x41, C.list x42])) <|
 some (.ret [C.bool x26, C.list x27, C.int .i64 x28, C.list x29, C.list x30, C.list x31])
def t_bu : Tree :=
.join [kI] (
 .letp .eqI [vI 6, nI 0] <|
 .ite (.v 7) (
 .ite (.v 0) (
 .letp .len [vL 1] <|
 .jump [vI 8]) <|
 .jump [vI 2]) <|
 .jump [vI 2]) <|
.call 0 [vI 6, nI 1, nI 3] [.bool] <|
.ite (.v 8) (
 .letp (.sub .i64) [vI 6, nI 1] <|
 .chk .idx [vI 9, vL 4] <|
 .row (.v 4) (.v 9) [kI, .bool, kI, .list, kI] <|
 .ite (.v 11) (
 .letp (.sub .i64) [vI 6, nI 1] <|
 .letp (.sub .i64) [vI 6, nI 1] <|
 .chk .idx [vI 16, vL 4] <|
 .row (.v 4) (.v 16) [kI, .bool, kI, .list, kI] <|
 .chk .eqI [vI 16, vI 16] <|
 .letp .len [vL 20] <|
 .chk .idx [vI 15, vL 4] <|
 .letp .setw [vL 4, vI 16, vI 17, vB 18, vI 19, vL 20, vI 21] <|
 .row (.v 23) (.v 15) [kI, .bool, kI, .list, kI] <|
 .chk .eqI [vI 15, vI 15] <|
 .letp .setw [vL 23, vI 15, vI 24, vB 25, vI 26, vL 27, vI 22] <|
 .ret [vB 0, vL 1, vI 7, vL 3, vL 29, vL 5]) <|
 .ret [vB 0, vL 1, vI 7, vL 3, vL 4, vL 5]) <|
.ret [vB 0, vL 1, vI 7, vL 3, vL 4, vL 5]
def Φ_bu : Phi := ph [φ_ea]
def φ_bu := mir Φ_bu t_bu
def J_bu_0 (x0 : Bool) (x1 x3 : LL) (x4 x5 : LL) (x6 x7 : Int) : Option Out :=
 callD (φ_ea [C.int .i64 x6, C.int .i64 1, C.int .i64 3]) [.bool] fun r8 =>
 let x8 := (getC r8 0).toBool
 iteD x8 (
 let x9 := IntKind.wrap .i64 (x6 - 1)
 whenD ((decide ((0 : Int) <= x9) && decide (x9 < (x4.length : Nat)))) <|
 rowD (.list x4) (.int .i64 x9) [(.int .i64), .bool, (.int .i64), .list, (.int .i64)] fun r10 =>
 let x10 := (getC r10 0).toInt
 let x11 := (getC r10 1).toBool
 let x12 := (getC r10 2).toInt
 let x13 := (getC r10 3).toList
 let x14 := (getC r10 4).toInt
 iteD x11 (
 let x15 := IntKind.wrap .i64 (x6 - 1)
 let x16 := IntKind.wrap .i64 (x6 - 1)
 whenD ((decide ((0 : Int) <= x16) && decide (x16 < (x4.length : Nat)))) <|
 rowD (.list x4) (.int .i64 x16) [(.int .i64), .bool, (.int .i64), .list, (.int .i64)] fun r17 =>
 let x17 := (getC r17 0).toInt
 let x18 := (getC r17 1).toBool
 let x19 := (getC r17 2).toInt
 let x20 := (getC r17 3).toList
 let x21 := (getC r17 4).toInt
 whenD ((x16 == x16)) <|
 let x22 : Int := x20.length
 whenD ((decide ((0 : Int) <= x15) && decide (x15 < (x4.length : Nat)))) <|
 let x23 := (x4.set (Int.toNat x16) [C.int .i64 x17, C.bool x18, C.int .i64 x19, C.list x20, C.int .i64 x21])
 rowD (.list x23) (.int .i64 x15) [(.int .i64), .bool, (.int .i64), .list, (.int .i64)] fun r24 =>
 let x24 := (getC r24 0).toInt
 let x25 := (getC r24 1).toBool
 let x26 := (getC r24 2).toInt
 let x27 := (getC r24 3).toList
 let x28 := (getC r24 4).toInt
 whenD ((x15 == x15)) <|
 let x29 := (x23.set (Int.toNat x15) [C.int .i64 x24, C.bool x25, C.int .i64 x26, C.list x27, C.int .i64 x22])
 some (.ret [C.bool x0, C.list x1, C.int .i64 x7, C.list x3, C.list x29, C.list x5])) <|
 some (.ret [C.bool x0, C.list x1, C.int .i64 x7, C.list x3, C.list x4, C.list x5])) <|
 some (.ret [C.bool x0, C.list x1, C.int .i64 x7, C.list x3, C.list x4, C.list x5])
def F_bu (x0 : Bool) (x1 : LL) (x2 : Int) (x3 x4 x5 : LL) (x6 : Int) : Option Out :=
 joinD (
 let x7 := (x6 == 0)
 iteD x7 (
 iteD x0 (
 let x8 : Int := x1.length
 some (.jump [C.int .i64 x8])) <|
 some (.jump [C.int .i64 x2])) <|
 some (.jump [C.int .i64 x2])) fun ps => J_bu_0 x0 x1 x3 x4 x5 x6 ((getC ps 0).toInt)
def t_cv : Tree :=
.letp .gtI [vI 2, nI 0] <|
.ite (.v 3) (
 .letp .len [vL 0] <|
 .letp (.sub .i64) [vI 4, vI 1] <|
 .letp (.min .i64) [vI 2, vI 5] <|
 .letp (.add .i64) [vI 1, vI 6] <|
 .chk .upto [vI 7, vL 0] <|
 .letp .take [vL 0, vI 7] <|
 .ret [vL 8, vI 7]) <|
.chk .upto [vI 1, vL 0] <|
.letp .take [vL 0, vI 1] <|
.ret [vL 4, vI 1]
def φ_cv := mir (ph []) t_cv
def F_cv (x0 : LL) (x1 x2 : Int) : Option Out :=
 let x3 := decide (x2 > 0)
 iteD x3 (
 let x4 : Int := x0.length
 let x5 := IntKind.wrap .i64 (x4 - x1)
 let x6 : Int := (if x5 < x2 then x5 else x2)
 let x7 := IntKind.wrap .i64 (x1 + x6)
 whenD ((decide ((0 : Int) <= x7) && decide (x7 <= (x0.length : Nat)))) <|
 let x8 := (x0.take (Int.toNat x7))
 some (.ret [C.list x8, C.int .i64 x7])) <|
 whenD ((decide ((0 : Int) <= x1) && decide (x1 <= (x0.length : Nat)))) <|
 let x4 := (x0.take (Int.toNat x1))
 some (.ret [C.list x4, C.int .i64 x1])
def t_cl : Tree :=
.call 0 [vL 1, vI 2, vI 4] [.list, kI] <|
.ret [⟨.bool, (.b false)⟩, vL 5, vI 6, ⟨.list, .e⟩]
def Φ_cl : Phi := ph [φ_cv]
def φ_cl := mir Φ_cl t_cl
def F_cl (x0 : Bool) (x1 : LL) (x2 : Int) (x3 : LL) (x4 : Int) : Option Out :=
 callD (φ_cv [C.list x1, C.int .i64 x2, C.int .i64 x4]) [.list, (.int .i64)] fun r5 =>
 let x5 := (getC r5 0).toList
 let x6 := (getC r5 1).toInt
 some (.ret [C.bool false, C.list x5, C.int .i64 x6, C.list ([] : LL)])
def t_cj : Tree :=
.call 0 [vI 7, nI 0, nI 3] [.bool] <|
.letp .not [vB 10] <|
.ite (.v 11) (
 .ret [vB 0, vL 1, vI 2, vL 3, vL 4, vL 5]) <|
.letp .eqI [vI 6, nI 7] <|
.ite (.v 12) (
 .call 1 [vB 0, vL 1, vI 2, vL 3, vL 4, vL 5, vI 7] [.bool, .list, kI, .list, .list, .list] <|
 .ret [vB 13, vL 14, vI 15, vL 16, vL 17, vL 18]) <|
.letp .eqI [vI 6, nI 8] <|
.ite (.v 13) (
 .letp .eqI [vI 7, nI 0] <|
 .ite (.v 14) (
 .call 2 [vB 0, vL 1, vI 2, vL 3, vI 8] [.bool, .list, kI, .list] <|
 .ret [vB 15, vL 16, vI 17, vL 18, vL 4, vL 5]) <|
 .letp (.sub .i64) [vI 7, nI 1] <|
 .chk .idx [vI 15, vL 4] <|
 .row (.v 4) (.v 15) [kI, .bool, kI, .list, kI] <|
 .chk .eqI [vI 15, vI 15] <|
 .letp (.sub .i64) [vI 7, nI 1] <|
 .letp (.sub .i64) [vI 7, nI 1] <|
 .chk .idx [vI 22, vL 4] <|
 .letp .setw [vL 4, vI 15, vI 16, ⟨.bool, (.b false)⟩, vI 18, vL 19, vI 20] <|
 .row (.v 23) (.v 22) [kI, .bool, kI, .list, kI] <|
 .chk .eqI [vI 22, vI 22] <|
 .call 3 [vL 27, vI 28, vI 8] [.list, kI] <|
 .chk .idx [vI 21, vL 23] <|
 .chk .eqI [vI 21, vI 22] <|
 .letp .setw [vL 23, vI 22, vI 24, vB 25, vI 26, vL 29, vI 30] <|
 .ret [vB 0, vL 1, vI 2, vL 3, vL 31, vL 5]) <|
.letp .eqI [vI 6, nI 9] <|
.ite (.v 14) (
 .letp .eqI [vI 7, nI 0] <|
 .ite (.v 15) (
 .ret [⟨.bool, (.b true)⟩, vL 1, vI 2, vL 3, vL 4, vL 5]) <|
 .letp (.sub .i64) [vI 7, nI 1] <|
 .chk .idx [vI 16, vL 4] <|
 .row (.v 4) (.v 16) [kI, .bool, kI, .list, kI] <|
 .chk .eqI [vI 16, vI 16] <|
 .letp .setw [vL 4, vI 16, vI 17, ⟨.bool, (.b true)⟩, vI 19, vL 20, vI 21] <|
 .ret [vB 0, vL 1, vI 2, vL 3, vL 22, vL 5]) <|
.ret [vB 0, vL 1, vI 2, vL 3, vL 4, vL 5]
def Φ_cj : Phi := ph [φ_ea, φ_bu, φ_cl, φ_cv]
def φ_cj := mir Φ_cj t_cj
def F_cj (x0 : Bool) (x1 : LL) (x2 : Int) (x3 x4 x5 : LL) (x6 x7 x8 : Int) (x9 : LL) : Option Out :=
 callD (φ_ea [C.int .i64 x7, C.int .i64 0, C.int .i64 3]) [.bool] fun r10 =>
 let x10 := (getC r10 0).toBool
 let x11 := (!x10)
 iteD x11 (
 some (.ret [C.bool x0, C.list x1, C.int .i64 x2, C.list x3, C.list x4, C.list x5])) <|
 let x12 := (x6 == 7)
 iteD x12 (
 callD (φ_bu [C.bool x0, C.list x1, C.int .i64 x2, C.list x3, C.list x4, C.list x5, C.int .i64 x7]) [.bool, .list, (.int .i64), .list, .list, .list] fun r13 =>
 let x13 := (getC r13 0).toBool
 let x14 := (getC r13 1).toList
 let x15 := (getC r13 2).toInt
 let x16 := (getC r13 3).toList
 let x17 := (getC r13 4).toList
 let x18 := (getC r13 5).toList
 some (.ret [C.bool x13, C.list x14, C.int .i64 x15, C.list x16, C.list x17, C.list x18])) <|
 let x13 := (x6 == 8)
 iteD x13 (
 let x14 := (x7 == 0)
 iteD x14 (
 callD (φ_cl [C.bool x0, C.list x1, C.int .i64 x2, C.list x3, C.int .i64 x8]) [.bool, .list, (.int .i64), .list] fun r15 =>
 let x15 := (getC r15 0).toBool
 let x16 := (getC r15 1).toList
 let x17 := (getC r15 2).toInt
 let x18 := (getC r15 3).toList
 some (.ret [C.bool x15, C.list x16, C.int .i64 x17, C.list x18, C.list x4, C.list x5])) <|
 let x15 := IntKind.wrap .i64 (x7 - 1)
 whenD ((decide ((0 : Int) <= x15) && decide (x15 < (x4.length : Nat)))) <|
 rowD (.list x4) (.int .i64 x15) [(.int .i64), .bool, (.int .i64), .list, (.int .i64)] fun r16 =>
 let x16 := (getC r16 0).toInt
 let x17 := (getC r16 1).toBool
 let x18 := (getC r16 2).toInt
 let x19 := (getC r16 3).toList
 let x20 := (getC r16 4).toInt
 whenD ((x15 == x15)) <|
 let x21 := IntKind.wrap .i64 (x7 - 1)
 let x22 := IntKind.wrap .i64 (x7 - 1)
 whenD ((decide ((0 : Int) <= x22) && decide (x22 < (x4.length : Nat)))) <|
 let x23 := (x4.set (Int.toNat x15) [C.int .i64 x16, C.bool false, C.int .i64 x18, C.list x19, C.int .i64 x20])
 rowD (.list x23) (.int .i64 x22) [(.int .i64), .bool, (.int .i64), .list, (.int .i64)] fun r24 =>
 let x24 := (getC r24 0).toInt
 let x25 := (getC r24 1).toBool
 let x26 := (getC r24 2).toInt
 let x27 := (getC r24 3).toList
 let x28 := (getC r24 4).toInt
 whenD ((x22 == x22)) <|
 callD (φ_cv [C.list x27, C.int .i64 x28, C.int .i64 x8]) [.list, (.int .i64)] fun r29 =>
 let x29 := (getC r29 0).toList
 let x30 := (getC r29 1).toInt
 whenD ((decide ((0 : Int) <= x21) && decide (x21 < (x23.length : Nat)))) <|
 whenD ((x21 == x22)) <|
 let x31 := (x23.set (Int.toNat x22) [C.int .i64 x24, C.bool x25, C.int .i64 x26, C.list x29, C.int .i64 x30])
 some (.ret [C.bool x0, C.list x1, C.int .i64 x2, C.list x3, C.list x31, C.list x5])) <|
 let x14 := (x6 == 9)
 iteD x14 (
 let x15 := (x7 == 0)
 iteD x15 (
 some (.ret [C.bool true, C.list x1, C.int .i64 x2, C.list x3, C.list x4, C.list x5])) <|
 let x16 := IntKind.wrap .i64 (x7 - 1)
 whenD ((decide ((0 : Int) <= x16) && decide (x16 < (x4.length : Nat)))) <|
 rowD (.list x4) (.int .i64 x16) [(.int .i64), .bool, (.int .i64), .list, (.int .i64)] fun r17 =>
 let x17 := (getC r17 0).toInt
 let x18 := (getC r17 1).toBool
 let x19 := (getC r17 2).toInt
 let x20 := (getC r17 3).toList
 let x21 := (getC r17 4).toInt
 whenD ((x16 == x16)) <|
 let x22 := (x4.set (Int.toNat x16) [C.int .i64 x17, C.bool true, C.int .i64 x19, C.list x20, C.int .i64 x21])
 some (.ret [C.bool x0, C.list x1, C.int .i64 x2, C.list x3, C.list x22, C.list x5])) <|
 some (.ret [C.bool x0, C.list x1, C.int .i64 x2, C.list x3, C.list x4, C.list x5])
def t_du : Tree :=
.join [.bool] (
 .letp .eqI [vI 6, nI 1] <|
 .ite (.v 10) (
 .jump [⟨.bool, (.b true)⟩]) <|
 .letp .eqI [vI 6, nI 2] <|
 .ite (.v 11) (
 .jump [⟨.bool, (.b true)⟩]) <|
 .letp .eqI [vI 6, nI 3] <|
 .jump [vB 12]) <|
.ite (.v 10) (
 .call 0 [vB 0, vL 1, vI 2, vL 3, vL 4, vL 5, vI 6, vI 7, vI 8, vL 9] [.bool, .list, kI, .list, .list, .list] <|
 .ret [vB 11, vL 12, vI 13, vL 14, vL 15, vL 16]) <|
.letp .eqI [vI 6, nI 4] <|
.ite (.v 11) (
 .call 1 [vB 0, vL 1, vI 2, vL 3, vL 4, vL 5, vI 6, vI 7, vI 8, vL 9] [.bool, .list, kI, .list, .list, .list] <|
 .ret [vB 12, vL 13, vI 14, vL 15, vL 16, vL 17]) <|
.letp .eqI [vI 6, nI 5] <|
.ite (.v 12) (
 .call 1 [vB 0, vL 1, vI 2, vL 3, vL 4, vL 5, vI 6, vI 7, vI 8, vL 9] [.bool, .list, kI, .list, .list, .list] <|
 .ret [vB 13, vL 14, vI 15, vL 16, vL 17, vL 18]) <|
.letp .eqI [vI 6, nI 6] <|
.ite (.v 13) (
 .call 1 [vB 0, vL 1, vI 2, vL 3, vL 4, vL 5, vI 6, vI 7, vI 8, vL 9] [.bool, .list, kI, .list, .list, .list] <|
 .ret [vB 14, vL 15, vI 16, vL 17, vL 18, vL 19]) <|
.letp .eqI [vI 6, nI 7] <|
.ite (.v 14) (
 .call 2 [vB 0, vL 1, vI 2, vL 3, vL 4, vL 5, vI 6, vI 7, vI 8, vL 9] [.bool, .list, kI, .list, .list, .list] <|
 .ret [vB 15, vL 16, vI 17, vL 18, vL 19, vL 20]) <|
.letp .eqI [vI 6, nI 8] <|
.ite (.v 15) (
 .call 2 [vB 0, vL 1, vI 2, vL 3, vL 4, vL 5, vI 6, vI 7, vI 8, vL 9] [.bool, .list, kI, .list, .list, .list] <|
 .ret [vB 16, vL 17, vI 18, vL 19, vL 20, vL 21]) <|
.letp .eqI [vI 6, nI 9] <|
.ite (.v 16) (
 .call 2 [vB 0, vL 1, vI 2, vL 3, vL 4, vL 5, vI 6, vI 7, vI 8, vL 9] [.bool, .list, kI, .list, .list, .list] <|
 .ret [vB 17, vL 18, vI 19, vL 20, vL 21, vL 22]) <|
.ret [vB 0, vL 1, vI 2, vL 3, vL 4, vL 5]
def Φ_du : Phi := ph [φ_cn, φ_cw, φ_cj]
def φ_du := mir Φ_du t_du
def J_du_0 (x0 : Bool) (x1 : LL) (x2 : Int) (x3 x4 x5 : LL) (x6 x7 x8 : Int) (x9 : LL) (x10 : Bool) : Option Out :=
 iteD x10 (
 callD (φ_cn [C.bool x0, C.list x1, C.int .i64 x2, C.list x3, C.list x4, C.list x5, C.int .i64 x6, C.int .i64 x7, C.int .i64 x8, C.list x9]) [.bool, .list, (.int .i64), .list, .list, .list] fun r11 =>
 let x11 := (getC r11 0).toBool
 let x12 := (getC r11 1).toList
 let x13 := (getC r11 2).toInt
 let x14 := (getC r11 3).toList
 let x15 := (getC r11 4).toList
 let x16 := (getC r11 5).toList
 some (.ret [C.bool x11, C.list x12, C.int .i64 x13, C.list x14, C.list x15, C.list x16])) <|
 let x11 := (x6 == 4)
 iteD x11 (
 callD (φ_cw [C.bool x0, C.list x1, C.int .i64 x2, C.list x3, C.list x4, C.list x5, C.int .i64 x6, C.int .i64 x7, C.int .i64 x8, C.list x9]) [.bool, .list, (.int .i64), .list, .list, .list] fun r12 =>
 let x12 := (getC r12 0).toBool
 let x13 := (getC r12 1).toList
 let x14 := (getC r12 2).toInt
 let x15 := (getC r12 3).toList
 let x16 := (getC r12 4).toList
 let x17 := (getC r12 5).toList
 some (.ret [C.bool x12, C.list x13, C.int .i64 x14, C.list x15, C.list x16, C.list x17])) <|
 let x12 := (x6 == 5)
 iteD x12 (
 callD (φ_cw [C.bool x0, C.list x1, C.int .i64 x2, C.list x3, C.list x4, C.list x5, C.int .i64 x6, C.int .i64 x7, C.int .i64 x8, C.list x9]) [.bool, .list, (.int .i64), .list, .list, .list] fun r13 =>
 let x13 := (getC r13 0).toBool
 let x14 := (getC r13 1).toList
 let x15 := (getC r13 2).toInt
 let x16 := (getC r13 3).toList
 let x17 := (getC r13 4).toList
 let x18 := (getC r13 5).toList
 some (.ret [C.bool x13, C.list x14, C.int .i64 x15, C.list x16, C.list x17, C.list x18])) <|
 let x13 := (x6 == 6)
 iteD x13 (
 callD (φ_cw [C.bool x0, C.list x1, C.int .i64 x2, C.list x3, C.list x4, C.list x5, C.int .i64 x6, C.int .i64 x7, C.int .i64 x8, C.list x9]) [.bool, .list, (.int .i64), .list, .list, .list] fun r14 =>
 let x14 := (getC r14 0).toBool
 let x15 := (getC r14 1).toList
 let x16 := (getC r14 2).toInt
 let x17 := (getC r14 3).toList
 let x18 := (getC r14 4).toList
 let x19 := (getC r14 5).toList
 some (.ret [C.bool x14, C.list x15, C.int .i64 x16, C.list x17, C.list x18, C.list x19])) <|
 let x14 := (x6 == 7)
 iteD x14 (
 callD (φ_cj [C.bool x0, C.list x1, C.int .i64 x2, C.list x3, C.list x4, C.list x5, C.int .i64 x6, C.int .i64 x7, C.int .i64 x8, C.list x9]) [.bool, .list, (.int .i64), .list, .list, .list] fun r15 =>
 let x15 := (getC r15 0).toBool
 let x16 := (getC r15 1).toList
 let x17 := (getC r15 2).toInt
 let x18 := (getC r15 3).toList
 let x19 := (getC r15 4).toList
 let x20 := (getC r15 5).toList
 some (.ret [C.bool x15, C.list x16, C.int .i64 x17, C.list x18, C.list x19, C.list x20])) <|
 let x15 := (x6 == 8)
 iteD x15 (
 callD (φ_cj [C.bool x0, C.list x1, C.int .i64 x2, C.list x3, C.list x4, C.list x5, C.int .i64 x6, C.int .i64 x7, C.int .i64 x8, C.list x9]) [.bool, .list, (.int .i64), .list, .list, .list] fun r16 =>
 let x16 := (getC r16 0).toBool
 let x17 := (getC r16 1).toList
 let x18 := (getC r16 2).toInt
 let x19 := (getC r16 3).toList
 let x20 := (getC r16 4).toList
 let x21 := (getC r16 5).toList
 some (.ret [C.bool x16, C.list x17, C.int .i64 x18, C.list x19, C.list x20, C.list x21])) <|
 let x16 := (x6 == 9)
 iteD x16 (
 callD (φ_cj [C.bool x0, C.list x1, C.int .i64 x2, C.list x3, C.list x4, C.list x5, C.int .i64 x6, C.int .i64 x7, C.int .i64 x8, C.list x9]) [.bool, .list, (.int .i64), .list, .list, .list] fun r17 =>
 let x17 := (getC r17 0).toBool
 let x18 := (getC r17 1).toList
 let x19 := (getC r17 2).toInt
 let x20 := (getC r17 3).toList
 let x21 := (getC r17 4).toList
 let x22 := (getC r17 5).toList
 some (.ret [C.bool x17, C.list x18, C.int .i64 x19, C.list x20, C.list x21, C.list x22])) <|
 some (.ret [C.bool x0, C.list x1, C.int .i64 x2, C.list x3, C.list x4, C.list x5])
def F_du (x0 : Bool) (x1 : LL) (x2 : Int) (x3 x4 x5 : LL) (x6 x7 x8 : Int) (x9 : LL) : Option Out :=
 joinD (
 let x10 := (x6 == 1)
 iteD x10 (
 some (.jump [C.bool true])) <|
 let x11 := (x6 == 2)
 iteD x11 (
 some (.jump [C.bool true])) <|
 let x12 := (x6 == 3)
 some (.jump [C.bool x12])) fun ps => J_du_0 x0 x1 x2 x3 x4 x5 x6 x7 x8 x9 ((getC ps 0).toBool)
def t_bn : Tree :=
.letp .len [vL 7] <|
.call 0 [vB 2, vL 3, vI 4, vL 5, ⟨.bool, (.b false)⟩] [.list] <|
.letp .len [vL 9] <|
.call 1 [vB 2, vL 3, vI 4, vL 5] [.list] <|
.letp .len [vL 11] <|
.join [.list, kI] (
 .letp .gtI [vI 8, nI 0] <|
 .ite (.v 13) (
 .call 2 [vL 0, vI 1, nI 5] [kI, .list, kI] <|
 .letp .ltI [vI 14, nI 2] <|
 .ite (.v 17) (
 .call 2 [vL 15, vI 16, vI 8] [kI, .list, kI] <|
 .up <|
 .ret [nI 4, vI 18, nI 0, ⟨.list, .e⟩, vL 19, vI 20]) <|
 .jump [vL 15, vI 16]) <|
 .jump [vL 0, vI 1]) <|
.call 2 [vL 13, vI 14, nI 20] [kI, .list, kI] <|
.join [.bool] (
 .letp .eqI [vI 15, nI 0] <|
 .ite (.v 18) (
 .jump [⟨.bool, (.b true)⟩]) <|
 .letp .eqI [vI 15, nI 1] <|
 .jump [vB 19]) <|
.ite (.v 18) (
 .call 2 [vL 16, vI 17, nI 3] [kI, .list, kI] <|
 .call 2 [vL 20, vI 21, nI 3] [kI, .list, kI] <|
 .call 2 [vL 23, vI 24, nI 2] [kI, .list, kI] <|
 .letp (.add .i64) [nI 1, vI 25] <|
 .letp (.mkl 1) [vI 19, vI 22, vI 28] <|
 .ret [nI 1, nI 0, nI 0, vL 29, vL 26, vI 27]) <|
.letp .eqI [vI 15, nI 2] <|
.ite (.v 19) (
 .letp (.add .i64) [vI 10, nI 1] <|
 .call 2 [vL 16, vI 17, vI 20] [kI, .list, kI] <|
 .letp (.add .i64) [nI 1, vI 21] <|
 .ret [nI 2, vI 24, nI 0, ⟨.list, .e⟩, vL 22, vI 23]) <|
.join [.bool] (
 .letp .eqI [vI 15, nI 3] <|
 .ite (.v 20) (
 .jump [⟨.bool, (.b true)⟩]) <|
 .letp .eqI [vI 15, nI 4] <|
 .ite (.v 21) (
 .jump [⟨.bool, (.b true)⟩]) <|
 .letp .eqI [vI 15, nI 5] <|
 .ite (.v 22) (
 .jump [⟨.bool, (.b true)⟩]) <|
 .letp .eqI [vI 15, nI 6] <|
 .ite (.v 23) (
 .jump [⟨.bool, (.b true)⟩]) <|
 .letp .eqI [vI 15, nI 7] <|
 .jump [vB 24]) <|
.ite (.v 20) (
 .letp (.add .i64) [vI 12, nI 1] <|
 .call 2 [vL 16, vI 17, vI 21] [kI, .list, kI] <|
 .ret [nI 3, vI 22, nI 0, ⟨.list, .e⟩, vL 23, vI 24]) <|
.letp .eqI [vI 15, nI 8] <|
.ite (.v 21) (
 .letp (.add .i64) [vI 8, nI 1] <|
 .call 2 [vL 16, vI 17, vI 22] [kI, .list, kI] <|
 .ret [nI 5, vI 23, nI 0, ⟨.list, .e⟩, vL 24, vI 25]) <|
.letp .eqI [vI 15, nI 9] <|
.ite (.v 22) (
 .letp (.add .i64) [vI 8, nI 1] <|
 .call 2 [vL 16, vI 17, vI 23] [kI, .list, kI] <|
 .ret [nI 6, vI 24, nI 0, ⟨.list, .e⟩, vL 25, vI 26]) <|
.join [.bool] (
 .letp .eqI [vI 15, nI 10] <|
 .ite (.v 23) (
 .jump [⟨.bool, (.b true)⟩]) <|
 .letp .eqI [vI 15, nI 11] <|
 .ite (.v 24) (
 .jump [⟨.bool, (.b true)⟩]) <|
 .letp .eqI [vI 15, nI 12] <|
 .jump [vB 25]) <|
.ite (.v 23) (
 .call 2 [vL 16, vI 17, nI 4] [kI, .list, kI] <|
 .ret [nI 7, vI 24, nI 0, ⟨.list, .e⟩, vL 25, vI 26]) <|
.letp .eqI [vI 15, nI 13] <|
.ite (.v 24) (
 .ret [nI 7, nI 0, nI 0, ⟨.list, .e⟩, vL 16, vI 17]) <|
.letp .eqI [vI 15, nI 14] <|
.ite (.v 25) (
 .ret [nI 7, nI 0, nI 0, ⟨.list, .e⟩, vL 16, vI 17]) <|
.letp .eqI [vI 15, nI 15] <|
.ite (.v 26) (
 .call 2 [vL 16, vI 17, nI 4] [kI, .list, kI] <|
 .call 2 [vL 28, vI 29, nI 4] [kI, .list, kI] <|
 .letp (.sub .i64) [vI 30, nI 1] <|
 .ret [nI 8, vI 27, vI 33, ⟨.list, .e⟩, vL 31, vI 32]) <|
.letp .eqI [vI 15, nI 16] <|
.ite (.v 27) (
 .call 2 [vL 16, vI 17, nI 4] [kI, .list, kI] <|
 .ret [nI 9, vI 28, nI 0, ⟨.list, .e⟩, vL 29, vI 30]) <|
.letp .eqI [vI 15, nI 17] <|
.ite (.v 28) (
 .call 2 [vL 16, vI 17, nI 4] [kI, .list, kI] <|
 .ret [nI 9, vI 29, nI 0, ⟨.list, .e⟩, vL 30, vI 31]) <|
.call 2 [vL 16, vI 17, nI 3] [kI, .list, kI] <|
.letp (.add .i64) [nI 1, vI 29] <|
.ret [nI 7, vI 32, nI 0, ⟨.list, .e⟩, vL 30, vI 31]
def Φ_bn : Phi := ph [φ_bv, φ_bm, φ_bi]
def φ_bn := mir Φ_bn t_bn
def J_bn_0 (x15 : Int) (x16 : LL) (x17 : Int) (x23 : Bool) : Option Out :=
 iteD x23 (
 callD (φ_bi [C.list x16, C.int .i64 x17, C.int .i64 4]) [(.int .i64), .list, (.int .i64)] fun r24 =>
 let x24 := (getC r24 0).toInt
 let x25 := (getC r24 1).toList
 let x26 := (getC r24 2).toInt
 some (.ret [C.int .i64 7, C.int .i64 x24, C.int .i64 0, C.list ([] : LL), C.list x25, C.int .i64 x26])) <|
 let x24 := (x15 == 13)
 iteD x24 (
 some (.ret [C.int .i64 7, C.int .i64 0, C.int .i64 0, C.list ([] : LL), C.list x16, C.int .i64 x17])) <|
 let x25 := (x15 == 14)
 iteD x25 (
 some (.ret [C.int .i64 7, C.int .i64 0, C.int .i64 0, C.list ([] : LL), C.list x16, C.int .i64 x17])) <|
 let x26 := (x15 == 15)
 iteD x26 (
 callD (φ_bi [C.list x16, C.int .i64 x17, C.int .i64 4]) [(.int .i64), .list, (.int .i64)] fun r27 =>
 let x27 := (getC r27 0).toInt
 let x28 := (getC r27 1).toList
 let x29 := (getC r27 2).toInt
 callD (φ_bi [C.list x28, C.int .i64 x29, C.int .i64 4]) [(.int .i64), .list, (.int .i64)] fun r30 =>
 let x30 := (getC r30 0).toInt
 let x31 := (getC r30 1).toList
 let x32 := (getC r30 2).toInt
 let x33 := IntKind.wrap .i64 (x30 - 1)
 some (.ret [C.int .i64 8, C.int .i64 x27, C.int .i64 x33, C.list ([] : LL), C.list x31, C.int .i64 x32])) <|
 let x27 := (x15 == 16)
 iteD x27 (
 callD (φ_bi [C.list x16, C.int .i64 x17, C.int .i64 4]) [(.int .i64), .list, (.int .i64)] fun r28 =>
 let x28 := (getC r28 0).toInt
 let x29 := (getC r28 1).toList
 let x30 := (getC r28 2).toInt
 some (.ret [C.int .i64 9, C.int .i64 x28, C.int .i64 0, C.list ([] : LL), C.list x29, C.int .i64 x30])) <|
 let x28 := (x15 == 17)
 iteD x28 (
 callD (φ_bi [C.list x16, C.int .i64 x17, C.int .i64 4]) [(.int .i64), .list, (.int .i64)] fun r29 =>
 let x29 := (getC r29 0).toInt
 let x30 := (getC r29 1).toList
 let x31 := (getC r29 2).toInt
 some (.ret [C.int .i64 9, C.int .i64 x29, C.int .i64 0, C.list ([] : LL), C.list x30, C.int .i64 x31])) <|
 callD (φ_bi [C.list x16, C.int .i64 x17, C.int .i64 3]) [(.int .i64), .list, (.int .i64)] fun r29 =>
 let x29 := (getC r29 0).toInt
 let x30 := (getC r29 1).toList
 let x31 := (getC r29 2).toInt
 let x32 := IntKind.wrap .i64 (1 + x29)
 some (.ret [C.int .i64 7, C.int .i64 x32, C.int .i64 0, C.list ([] : LL), C.list x30, C.int .i64 x31])
def J_bn_1 (x8 x12 x15 : Int) (x16 : LL) (x17 : Int) (x20 : Bool) : Option Out :=
 iteD x20 (
 let x21 := IntKind.wrap .i64 (x12 + 1)
 callD (φ_bi [C.list x16, C.int .i64 x17, C.int .i64 x21]) [(.int .i64), .list, (.int .i64)] fun r22 =>
 let x22 := (getC r22 0).toInt
 let x23 := (getC r22 1).toList
 let x24 := (getC r22 2).toInt
 some (.ret [C.int .i64 3, C.int .i64 x22, C.int .i64 0, C.list ([] : LL), C.list x23, C.int .i64 x24])) <|
 let x21 := (x15 == 8)
 iteD x21 (
 let x22 := IntKind.wrap .i64 (x8 + 1)
 callD (φ_bi [C.list x16, C.int .i64 x17, C.int .i64 x22]) [(.int .i64), .list, (.int .i64)] fun r23 =>
 let x23 := (getC r23 0).toInt
 let x24 := (getC r23 1).toList
 let x25 := (getC r23 2).toInt
 some (.ret [C.int .i64 5, C.int .i64 x23, C.int .i64 0, C.list ([] : LL), C.list x24, C.int .i64 x25])) <|
 let x22 := (x15 == 9)
 iteD x22 (
 let x23 := IntKind.wrap .i64 (x8 + 1)
 callD (φ_bi [C.list x16, C.int .i64 x17, C.int .i64 x23]) [(.int .i64), .list, (.int .i64)] fun r24 =>
 let x24 := (getC r24 0).toInt
 let x25 := (getC r24 1).toList
 let x26 := (getC r24 2).toInt
 some (.ret [C.int .i64 6, C.int .i64 x24, C.int .i64 0, C.list ([] : LL), C.list x25, C.int .i64 x26])) <|
 joinD (
 let x23 := (x15 == 10)
 iteD x23 (
 some (.jump [C.bool true])) <|
 let x24 := (x15 == 11)
 iteD x24 (
 some (.jump [C.bool true])) <|
 let x25 := (x15 == 12)
 some (.jump [C.bool x25])) fun ps => J_bn_0 x15 x16 x17 ((getC ps 0).toBool)
def J_bn_2 (x8 x10 : Int) (x12 x15 : Int) (x16 : LL) (x17 : Int) (x18 : Bool) : Option Out :=
 iteD x18 (
 callD (φ_bi [C.list x16, C.int .i64 x17, C.int .i64 3]) [(.int .i64), .list, (.int .i64)] fun r19 =>
 let x19 := (getC r19 0).toInt
 let x20 := (getC r19 1).toList
 let x21 := (getC r19 2).toInt
 callD (φ_bi [C.list x20, C.int .i64 x21, C.int .i64 3]) [(.int .i64), .list, (.int .i64)] fun r22 =>
 let x22 := (getC r22 0).toInt
 let x23 := (getC r22 1).toList
 let x24 := (getC r22 2).toInt
 callD (φ_bi [C.list x23, C.int .i64 x24, C.int .i64 2]) [(.int .i64), .list, (.int .i64)] fun r25 =>
 let x25 := (getC r25 0).toInt
 let x26 := (getC r25 1).toList
 let x27 := (getC r25 2).toInt
 let x28 := IntKind.wrap .i64 (1 + x25)
 let x29 := [[C.int .i64 x19], [C.int .i64 x22], [C.int .i64 x28]]
 some (.ret [C.int .i64 1, C.int .i64 0, C.int .i64 0, C.list x29, C.list x26, C.int .i64 x27])) <|
 let x19 := (x15 == 2)
 iteD x19 (
 let x20 := IntKind.wrap .i64 (x10 + 1)
 callD (φ_bi [C.list x16, C.int .i64 x17, C.int .i64 x20]) [(.int .i64), .list, (.int .i64)] fun r21 =>
 let x21 := (getC r21 0).toInt
 let x22 := (getC r21 1).toList
 let x23 := (getC r21 2).toInt
 let x24 := IntKind.wrap .i64 (1 + x21)
 some (.ret [C.int .i64 2, C.int .i64 x24, C.int .i64 0, C.list ([] : LL), C.list x22, C.int .i64 x23])) <|
 joinD (
 let x20 := (x15 == 3)
 iteD x20 (
 some (.jump [C.bool true])) <|
 let x21 := (x15 == 4)
 iteD x21 (
 some (.jump [C.bool true])) <|
 let x22 := (x15 == 5)
 iteD x22 (
 some (.jump [C.bool true])) <|
 let x23 := (x15 == 6)
 iteD x23 (
 some (.jump [C.bool true])) <|
 let x24 := (x15 == 7)
 some (.jump [C.bool x24])) fun ps => J_bn_1 x8 x12 x15 x16 x17 ((getC ps 0).toBool)
def J_bn_3 (x8 x10 x12 : Int) (x13 : LL) (x14 : Int) : Option Out :=
 callD (φ_bi [C.list x13, C.int .i64 x14, C.int .i64 20]) [(.int .i64), .list, (.int .i64)] fun r15 =>
 let x15 := (getC r15 0).toInt
 let x16 := (getC r15 1).toList
 let x17 := (getC r15 2).toInt
 joinD (
 let x18 := (x15 == 0)
 iteD x18 (
 some (.jump [C.bool true])) <|
 let x19 := (x15 == 1)
 some (.jump [C.bool x19])) fun ps => J_bn_2 x8 x10 x12 x15 x16 x17 ((getC ps 0).toBool)
def F_bn (x0 : LL) (x1 : Int) (x2 : Bool) (x3 : LL) (x4 : Int) (x5 x6 x7 : LL) : Option Out :=
 let x8 : Int := x7.length
 callD (φ_bv [C.bool x2, C.list x3, C.int .i64 x4, C.list x5, C.bool false]) [.list] fun r9 =>
 let x9 := (getC r9 0).toList
 let x10 : Int := x9.length
 callD (φ_bm [C.bool x2, C.list x3, C.int .i64 x4, C.list x5]) [.list] fun r11 =>
 let x11 := (getC r11 0).toList
 let x12 : Int := x11.length
 joinD (
 let x13 := decide (x8 > 0)
 iteD x13 (
 callD (φ_bi [C.list x0, C.int .i64 x1, C.int .i64 5]) [(.int .i64), .list, (.int .i64)] fun r14 =>
 let x14 := (getC r14 0).toInt
 let x15 := (getC r14 1).toList
 let x16 := (getC r14 2).toInt
 let x17 := decide (x14 < 2)
 iteD x17 (
 callD (φ_bi [C.list x15, C.int .i64 x16, C.int .i64 x8]) [(.int .i64), .list, (.int .i64)] fun r18 =>
 let x18 := (getC r18 0).toInt
 let x19 := (getC r18 1).toList
 let x20 := (getC r18 2).toInt
 upD <|
 some (.ret [C.int .i64 4, C.int .i64 x18, C.int .i64 0, C.list ([] : LL), C.list x19, C.int .i64 x20])) <|
 some (.jump [C.list x15, C.int .i64 x16])) <|
 some (.jump [C.list x0, C.int .i64 x1])) fun ps => J_bn_3 x8 x10 x12 ((getC ps 0).toList) ((getC ps 1).toInt)
def t_cg : Tree :=
.call 0 [vL 0, vI 1] [.list, .list, kI] <|
.call 1 [vL 2] [.bool, .list, kI, .list, .list, .list, .bool] <|
.join [.bool, kI, .list, kI, .list, .list, .list, .list, .list] (
 .call 2 [vL 3, vI 4, nI 3] [kI, .list, kI] <|
 .letp .gtI [vI 12, nI 0] <|
 .ite (.v 15) (
 .letp (.mkl 1) [nI 1, nI 1, nI 1] <|
 .letp (.mkl 4) [nI 1, nI 0, nI 0, vL 16, nI 7, nI 0, nI 0, ⟨.list, .e⟩] <|
 .letp .len [vL 17] <|
 .iter [nI 0, vB 5, vI 7, ⟨.list, .e⟩, vL 6, vL 8, vL 9, vL 10] <|
 .letp .ltI [vI 19, vI 18] <|
 .ite (.v 27) (
 .chk .idx [vI 19, vL 17] <|
 .row (.v 17) (.v 19) [kI, kI, kI, .list] <|
 .letp (.mkl 4) [vI 28, vI 29, vI 30, vL 31] <|
 .chk .fits [vL 22, vL 32] <|
 .letp .app [vL 22, vL 32] <|
 .call 3 [vB 20, vL 23, vI 21, vL 24, vL 25, vL 26, vI 28, vI 29, vI 30, vL 31] [.bool, .list, kI, .list, .list, .list] <|
 .letp (.add .i64) [vI 19, nI 1] <|
 .jump [vI 40, vB 34, vI 36, vL 33, vL 35, vL 37, vL 38, vL 39]) <|
 .up <|
 .jump [vB 20, vI 21, vL 13, vI 14, vL 22, vL 23, vL 24, vL 25, vL 26]) <|
 .jump [vB 5, vI 7, vL 13, vI 14, ⟨.list, .e⟩, vL 6, vL 8, vL 9, vL 10]) <|
.call 2 [vL 14, vI 15, nI 72] [kI, .list, kI] <|
.iter [vI 21, vL 22, vI 23, vB 12, vI 13, vL 16, vL 17, vL 18, vL 19, vL 20] <|
.letp .gtI [vI 24, nI 0] <|
.ite (.v 34) (
 .call 4 [vL 25, vI 26, vB 27, vL 30, vI 28, vL 31, vL 32, vL 33] [kI, kI, kI, .list, .list, kI] <|
 .letp (.mkl 4) [vI 35, vI 36, vI 37, vL 38] <|
 .chk .fits [vL 29, vL 41] <|
 .letp .app [vL 29, vL 41] <|
 .call 3 [vB 27, vL 30, vI 28, vL 31, vL 32, vL 33, vI 35, vI 36, vI 37, vL 38] [.bool, .list, kI, .list, .list, .list] <|
 .letp (.sub .i64) [vI 24, nI 1] <|
 .jump [vI 49, vL 39, vI 40, vB 43, vI 45, vL 42, vL 44, vL 46, vL 47, vL 48]) <|
.up <|
.ret [vL 2, vL 29, vB 27, vL 30, vI 28, vL 31, vL 32, vL 33, vL 25, vI 26]
def Φ_cg : Phi := ph [φ_bk, φ_bq, φ_bi, φ_du, φ_bn]
def φ_cg := mir Φ_cg t_cg
end
end Dx
