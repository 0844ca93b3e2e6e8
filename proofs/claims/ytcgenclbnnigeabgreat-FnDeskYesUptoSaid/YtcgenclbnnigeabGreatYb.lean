/- More of them. -/
import Derived.Test.YtcgenclbnnigeabGreatYa
set_option linter.all false
set_option linter.unusedVariables false
set_option linter.unusedSimpArgs false
set_option linter.unnecessarySimpa false
namespace Dx
open Go
noncomputable section
def L_cg_0 (x2 : LL) (x24 : Int) (x25 : LL) (x26 : Int) (x27 : Bool) (x28 : Int) (x29 x30 : LL) (x31 x32 x33 : LL) : Option Out :=
 let x34 := decide (x24 > 0)
 iteD x34 (
 callD (φ_bn [C.list x25, C.int .i64 x26, C.bool x27, C.list x30, C.int .i64 x28, C.list x31, C.list x32, C.list x33]) [(.int .i64), (.int .i64), (.int .i64), .list, .list, (.int .i64)] fun r35 =>
 let x35 := (getC r35 0).toInt
 let x36 := (getC r35 1).toInt
 let x37 := (getC r35 2).toInt
 let x38 := (getC r35 3).toList
 let x39 := (getC r35 4).toList
 let x40 := (getC r35 5).toInt
 let x41 := [[C.int .i64 x35, C.int .i64 x36, C.int .i64 x37, C.list x38]]
 whenD (decide (x29.length + x41.length <= LMAX)) <|
 let x42 := (x29 ++ x41)
 callD (φ_du [C.bool x27, C.list x30, C.int .i64 x28, C.list x31, C.list x32, C.list x33, C.int .i64 x35, C.int .i64 x36, C.int .i64 x37, C.list x38]) [.bool, .list, (.int .i64), .list, .list, .list] fun r43 =>
 let x43 := (getC r43 0).toBool
 let x44 := (getC r43 1).toList
 let x45 := (getC r43 2).toInt
 let x46 := (getC r43 3).toList
 let x47 := (getC r43 4).toList
 let x48 := (getC r43 5).toList
 let x49 := IntKind.wrap .i64 (x24 - 1)
 some (.jump [C.int .i64 x49, C.list x39, C.int .i64 x40, C.bool x43, C.int .i64 x45, C.list x42, C.list x44, C.list x46, C.list x47, C.list x48])) <|
 upD <|
 some (.ret [C.list x2, C.list x29, C.bool x27, C.list x30, C.int .i64 x28, C.list x31, C.list x32, C.list x33, C.list x25, C.int .i64 x26])
def J_cg_1 (x2 : LL) (x12 : Bool) (x13 : Int) (x14 : LL) (x15 : Int) (x16 x17 : LL) (x18 x19 x20 : LL) : Option Out :=
 callD (φ_bi [C.list x14, C.int .i64 x15, C.int .i64 72]) [(.int .i64), .list, (.int .i64)] fun r21 =>
 let x21 := (getC r21 0).toInt
 let x22 := (getC r21 1).toList
 let x23 := (getC r21 2).toInt
 iterD (fun ps => L_cg_0 x2 ((getC ps 0).toInt) ((getC ps 1).toList) ((getC ps 2).toInt) ((getC ps 3).toBool) ((getC ps 4).toInt) ((getC ps 5).toList) ((getC ps 6).toList) ((getC ps 7).toList) ((getC ps 8).toList) ((getC ps 9).toList)) [C.int .i64 x21, C.list x22, C.int .i64 x23, C.bool x12, C.int .i64 x13, C.list x16, C.list x17, C.list x18, C.list x19, C.list x20]
def L_cg_2 (x13 : LL) (x14 : Int) (x17 : LL) (x18 x19 : Int) (x20 : Bool) (x21 : Int) (x22 x23 : LL) (x24 x25 x26 : LL) : Option Out :=
 let x27 := decide (x19 < x18)
 iteD x27 (
 whenD ((decide ((0 : Int) <= x19) && decide (x19 < (x17.length : Nat)))) <|
 rowD (.list x17) (.int .i64 x19) [(.int .i64), (.int .i64), (.int .i64), .list] fun r28 =>
 let x28 := (getC r28 0).toInt
 let x29 := (getC r28 1).toInt
 let x30 := (getC r28 2).toInt
 let x31 := (getC r28 3).toList
 let x32 := [[C.int .i64 x28, C.int .i64 x29, C.int .i64 x30, C.list x31]]
 whenD (decide (x22.length + x32.length <= LMAX)) <|
 let x33 := (x22 ++ x32)
 callD (φ_du [C.bool x20, C.list x23, C.int .i64 x21, C.list x24, C.list x25, C.list x26, C.int .i64 x28, C.int .i64 x29, C.int .i64 x30, C.list x31]) [.bool, .list, (.int .i64), .list, .list, .list] fun r34 =>
 let x34 := (getC r34 0).toBool
 let x35 := (getC r34 1).toList
 let x36 := (getC r34 2).toInt
 let x37 := (getC r34 3).toList
 let x38 := (getC r34 4).toList
 let x39 := (getC r34 5).toList
 let x40 := IntKind.wrap .i64 (x19 + 1)
 some (.jump [C.int .i64 x40, C.bool x34, C.int .i64 x36, C.list x33, C.list x35, C.list x37, C.list x38, C.list x39])) <|
 upD <|
 some (.jump [C.bool x20, C.int .i64 x21, C.list x13, C.int .i64 x14, C.list x22, C.list x23, C.list x24, C.list x25, C.list x26])
def F_cg (x0 : LL) (x1 : Int) : Option Out :=
 callD (φ_bk [C.list x0, C.int .i64 x1]) [.list, .list, (.int .i64)] fun r2 =>
 let x2 := (getC r2 0).toList
 let x3 := (getC r2 1).toList
 let x4 := (getC r2 2).toInt
 callD (φ_bq [C.list x2]) [.bool, .list, (.int .i64), .list, .list, .list, .bool] fun r5 =>
 let x5 := (getC r5 0).toBool
 let x6 := (getC r5 1).toList
 let x7 := (getC r5 2).toInt
 let x8 := (getC r5 3).toList
 let x9 := (getC r5 4).toList
 let x10 := (getC r5 5).toList
 let x11 := (getC r5 6).toBool
 joinD (
 callD (φ_bi [C.list x3, C.int .i64 x4, C.int .i64 3]) [(.int .i64), .list, (.int .i64)] fun r12 =>
 let x12 := (getC r12 0).toInt
 let x13 := (getC r12 1).toList
 let x14 := (getC r12 2).toInt
 let x15 := decide (x12 > 0)
 iteD x15 (
 let x16 := [[C.int .i64 1], [C.int .i64 1], [C.int .i64 1]]
 let x17 := [[C.int .i64 1, C.int .i64 0, C.int .i64 0, C.list x16], [C.int .i64 7, C.int .i64 0, C.int .i64 0, C.list ([] : LL)]]
 let x18 : Int := x17.length
 iterD (fun ps => L_cg_2 x13 x14 x17 x18 ((getC ps 0).toInt) ((getC ps 1).toBool) ((getC ps 2).toInt) ((getC ps 3).toList) ((getC ps 4).toList) ((getC ps 5).toList) ((getC ps 6).toList) ((getC ps 7).toList)) [C.int .i64 0, C.bool x5, C.int .i64 x7, C.list ([] : LL), C.list x6, C.list x8, C.list x9, C.list x10]) <|
 some (.jump [C.bool x5, C.int .i64 x7, C.list x13, C.int .i64 x14, C.list ([] : LL), C.list x6, C.list x8, C.list x9, C.list x10])) fun ps => J_cg_1 x2 ((getC ps 0).toBool) ((getC ps 1).toInt) ((getC ps 2).toList) ((getC ps 3).toInt) ((getC ps 4).toList) ((getC ps 5).toList) ((getC ps 6).toList) ((getC ps 7).toList) ((getC ps 8).toList)
def t_cs : Tree :=
.call 0 [vL 0, vI 1, nI 3] [kI, .list, kI] <|
.call 0 [vL 3, vI 4, nI 3] [kI, .list, kI] <|
.call 0 [vL 6, vI 7, nI 3] [kI, .list, kI] <|
.letp (.mkl 1) [vI 2, vI 5, vI 8] <|
.join [.list, .list, kI] (
 .chk .idx [nI 0, vL 11] <|
 .chk .idx [nI 1, vL 11] <|
 .chk .idx [nI 2, vL 11] <|
 .both (
 .row (.v 11) (.n 0) [kI] <|
 .both (
 .row (.v 11) (.n 1) [kI] <|
 .letp (.add .i64) [vI 12, vI 13] <|
 .row (.v 11) (.n 2) [kI] <|
 .letp (.add .i64) [vI 14, vI 15] <|
 .letp .eqI [vI 16, nI 0] <|
 .ite (.v 17) (
 .call 0 [vL 9, vI 10, nI 3] [kI, .list, kI] <|
 .chk .idx [vI 18, vL 11] <|
 .letp (.setr 0) [vL 11, vI 18, nI 1] <|
 .jump [vL 21, vL 19, vI 20]) <|
 .jump [vL 11, vL 9, vI 10]) <|
 .row (.v 11) (.n 2) [kI] <|
 .row (.v 11) (.n 1) [kI] <|
 .letp (.add .i64) [vI 12, vI 14] <|
 .letp (.add .i64) [vI 15, vI 13] <|
 .letp .eqI [vI 16, nI 0] <|
 .ite (.v 17) (
 .call 0 [vL 9, vI 10, nI 3] [kI, .list, kI] <|
 .chk .idx [vI 18, vL 11] <|
 .letp (.setr 0) [vL 11, vI 18, nI 1] <|
 .jump [vL 21, vL 19, vI 20]) <|
 .jump [vL 11, vL 9, vI 10]) <|
 .both (
 .row (.v 11) (.n 1) [kI] <|
 .both (
 .row (.v 11) (.n 0) [kI] <|
 .letp (.add .i64) [vI 13, vI 12] <|
 .row (.v 11) (.n 2) [kI] <|
 .letp (.add .i64) [vI 14, vI 15] <|
 .letp .eqI [vI 16, nI 0] <|
 .ite (.v 17) (
 .call 0 [vL 9, vI 10, nI 3] [kI, .list, kI] <|
 .chk .idx [vI 18, vL 11] <|
 .letp (.setr 0) [vL 11, vI 18, nI 1] <|
 .jump [vL 21, vL 19, vI 20]) <|
 .jump [vL 11, vL 9, vI 10]) <|
 .row (.v 11) (.n 2) [kI] <|
 .row (.v 11) (.n 0) [kI] <|
 .letp (.add .i64) [vI 14, vI 12] <|
 .letp (.add .i64) [vI 15, vI 13] <|
 .letp .eqI [vI 16, nI 0] <|
 .ite (.v 17) (
 .call 0 [vL 9, vI 10, nI 3] [kI, .list, kI] <|
 .chk .idx [vI 18, vL 11] <|
 .letp (.setr 0) [vL 11, vI 18, nI 1] <|
 .jump [vL 21, vL 19, vI 20]) <|
 .jump [vL 11, vL 9, vI 10]) <|
 .row (.v 11) (.n 2) [kI] <|
 .both (
 .row (.v 11) (.n 0) [kI] <|
 .row (.v 11) (.n 1) [kI] <|
 .letp (.add .i64) [vI 13, vI 14] <|
 .letp (.add .i64) [vI 15, vI 12] <|
 .letp .eqI [vI 16, nI 0] <|
 .ite (.v 17) (
 .call 0 [vL 9, vI 10, nI 3] [kI, .list, kI] <|
 .chk .idx [vI 18, vL 11] <|
 .letp (.setr 0) [vL 11, vI 18, nI 1] <|
 .jump [vL 21, vL 19, vI 20]) <|
 .jump [vL 11, vL 9, vI 10]) <|
 .row (.v 11) (.n 1) [kI] <|
 .row (.v 11) (.n 0) [kI] <|
 .letp (.add .i64) [vI 14, vI 13] <|
 .letp (.add .i64) [vI 15, vI 12] <|
 .letp .eqI [vI 16, nI 0] <|
 .ite (.v 17) (
 .call 0 [vL 9, vI 10, nI 3] [kI, .list, kI] <|
 .chk .idx [vI 18, vL 11] <|
 .letp (.setr 0) [vL 11, vI 18, nI 1] <|
 .jump [vL 21, vL 19, vI 20]) <|
 .jump [vL 11, vL 9, vI 10]) <|
.call 0 [vL 13, vI 14, nI 24] [kI, .list, kI] <|
.letp .eqI [vI 15, nI 0] <|
.ite (.v 18) (
 .call 0 [vL 16, vI 17, nI 3] [kI, .list, kI] <|
 .letp (.mkl 1) [⟨kI, (.n (-1))⟩, nI 3, nI 4] <|
 .call 0 [vL 20, vI 21, nI 3] [kI, .list, kI] <|
 .chk .idx [vI 23, vL 22] <|
 .row (.v 22) (.v 23) [kI] <|
 .chk .idx [vI 19, vL 12] <|
 .letp (.setr 0) [vL 12, vI 19, vI 26] <|
 .ret [vL 27, vL 24, vI 25]) <|
.letp .eqI [vI 15, nI 1] <|
.ite (.v 19) (
 .chk .upto [nI 1, vL 12] <|
 .letp .drop [vL 12, nI 1] <|
 .ret [vL 20, vL 16, vI 17]) <|
.letp .eqI [vI 15, nI 2] <|
.ite (.v 20) (
 .letp (.mkl 1) [nI 0, nI 0, nI 0] <|
 .ret [vL 21, vL 16, vI 17]) <|
.ret [vL 12, vL 16, vI 17]
def Φ_cs : Phi := ph [φ_bi]
def φ_cs := mir Φ_cs t_cs
def J_cs_0 (x12 x13 : LL) (x14 : Int) : Option Out :=
 callD (φ_bi [C.list x13, C.int .i64 x14, C.int .i64 24]) [(.int .i64), .list, (.int .i64)] fun r15 =>
 let x15 := (getC r15 0).toInt
 let x16 := (getC r15 1).toList
 let x17 := (getC r15 2).toInt
 let x18 := (x15 == 0)
 iteD x18 (
 callD (φ_bi [C.list x16, C.int .i64 x17, C.int .i64 3]) [(.int .i64), .list, (.int .i64)] fun r19 =>
 let x19 := (getC r19 0).toInt
 let x20 := (getC r19 1).toList
 let x21 := (getC r19 2).toInt
 let x22 := [[C.int .i64 (-1)], [C.int .i64 3], [C.int .i64 4]]
 callD (φ_bi [C.list x20, C.int .i64 x21, C.int .i64 3]) [(.int .i64), .list, (.int .i64)] fun r23 =>
 let x23 := (getC r23 0).toInt
 let x24 := (getC r23 1).toList
 let x25 := (getC r23 2).toInt
 whenD ((decide ((0 : Int) <= x23) && decide (x23 < (x22.length : Nat)))) <|
 rowD (.list x22) (.int .i64 x23) [(.int .i64)] fun r26 =>
 let x26 := (getC r26 0).toInt
 whenD ((decide ((0 : Int) <= x19) && decide (x19 < (x12.length : Nat)))) <|
 let x27 := (setRow 0 x12 (Int.toNat x19) [C.int .i64 x26])
 some (.ret [C.list x27, C.list x24, C.int .i64 x25])) <|
 let x19 := (x15 == 1)
 iteD x19 (
 whenD ((decide ((0 : Int) <= 1) && decide ((1 : Int) <= (x12.length : Nat)))) <|
 let x20 := (x12.drop (Int.toNat 1))
 some (.ret [C.list x20, C.list x16, C.int .i64 x17])) <|
 let x20 := (x15 == 2)
 iteD x20 (
 let x21 := [[C.int .i64 0], [C.int .i64 0], [C.int .i64 0]]
 some (.ret [C.list x21, C.list x16, C.int .i64 x17])) <|
 some (.ret [C.list x12, C.list x16, C.int .i64 x17])
def F_cs (x0 : LL) (x1 : Int) : Option Out :=
 callD (φ_bi [C.list x0, C.int .i64 x1, C.int .i64 3]) [(.int .i64), .list, (.int .i64)] fun r2 =>
 let x2 := (getC r2 0).toInt
 let x3 := (getC r2 1).toList
 let x4 := (getC r2 2).toInt
 callD (φ_bi [C.list x3, C.int .i64 x4, C.int .i64 3]) [(.int .i64), .list, (.int .i64)] fun r5 =>
 let x5 := (getC r5 0).toInt
 let x6 := (getC r5 1).toList
 let x7 := (getC r5 2).toInt
 callD (φ_bi [C.list x6, C.int .i64 x7, C.int .i64 3]) [(.int .i64), .list, (.int .i64)] fun r8 =>
 let x8 := (getC r8 0).toInt
 let x9 := (getC r8 1).toList
 let x10 := (getC r8 2).toInt
 let x11 := [[C.int .i64 x2], [C.int .i64 x5], [C.int .i64 x8]]
 joinD (
 whenD ((decide ((0 : Int) <= 0) && decide ((0 : Int) < (x11.length : Nat)))) <|
 whenD ((decide ((0 : Int) <= 1) && decide ((1 : Int) < (x11.length : Nat)))) <|
 whenD ((decide ((0 : Int) <= 2) && decide ((2 : Int) < (x11.length : Nat)))) <|
 bothD (
 rowD (.list x11) (.int .i64 0) [(.int .i64)] fun r12 =>
 let x12 := (getC r12 0).toInt
 bothD (
 rowD (.list x11) (.int .i64 1) [(.int .i64)] fun r13 =>
 let x13 := (getC r13 0).toInt
 let x14 := IntKind.wrap .i64 (x12 + x13)
 rowD (.list x11) (.int .i64 2) [(.int .i64)] fun r15 =>
 let x15 := (getC r15 0).toInt
 let x16 := IntKind.wrap .i64 (x14 + x15)
 let x17 := (x16 == 0)
 iteD x17 (
 callD (φ_bi [C.list x9, C.int .i64 x10, C.int .i64 3]) [(.int .i64), .list, (.int .i64)] fun r18 =>
 let x18 := (getC r18 0).toInt
 let x19 := (getC r18 1).toList
 let x20 := (getC r18 2).toInt
 whenD ((decide ((0 : Int) <= x18) && decide (x18 < (x11.length : Nat)))) <|
 let x21 := (setRow 0 x11 (Int.toNat x18) [C.int .i64 1])
 some (.jump [C.list x21, C.list x19, C.int .i64 x20])) <|
 some (.jump [C.list x11, C.list x9, C.int .i64 x10])) <|
 rowD (.list x11) (.int .i64 2) [(.int .i64)] fun r13 =>
 let x13 := (getC r13 0).toInt
 rowD (.list x11) (.int .i64 1) [(.int .i64)] fun r14 =>
 let x14 := (getC r14 0).toInt
 let x15 := IntKind.wrap .i64 (x12 + x14)
 let x16 := IntKind.wrap .i64 (x15 + x13)
 let x17 := (x16 == 0)
 iteD x17 (
 callD (φ_bi [C.list x9, C.int .i64 x10, C.int .i64 3]) [(.int .i64), .list, (.int .i64)] fun r18 =>
 let x18 := (getC r18 0).toInt
 let x19 := (getC r18 1).toList
 let x20 := (getC r18 2).toInt
 whenD ((decide ((0 : Int) <= x18) && decide (x18 < (x11.length : Nat)))) <|
 let x21 := (setRow 0 x11 (Int.toNat x18) [C.int .i64 1])
 some (.jump [C.list x21, C.list x19, C.int .i64 x20])) <|
 some (.jump [C.list x11, C.list x9, C.int .i64 x10])) <|
 bothD (
 rowD (.list x11) (.int .i64 1) [(.int .i64)] fun r12 =>
 let x12 := (getC r12 0).toInt
 bothD (
 rowD (.list x11) (.int .i64 0) [(.int .i64)] fun r13 =>
 let x13 := (getC r13 0).toInt
 let x14 := IntKind.wrap .i64 (x13 + x12)
 rowD (.list x11) (.int .i64 2) [(.int .i64)] fun r15 =>
 let x15 := (getC r15 0).toInt
 let x16 := IntKind.wrap .i64 (x14 + x15)
 let x17 := (x16 == 0)
 iteD x17 (
 callD (φ_bi [C.list x9, C.int .i64 x10, C.int .i64 3]) [(.int .i64), .list, (.int .i64)] fun r18 =>
 let x18 := (getC r18 0).toInt
 let x19 := (getC r18 1).toList
 let x20 := (getC r18 2).toInt
 whenD ((decide ((0 : Int) <= x18) && decide (x18 < (x11.length : Nat)))) <|
 let x21 := (setRow 0 x11 (Int.toNat x18) [C.int .i64 1])
 some (.jump [C.list x21, C.list x19, C.int .i64 x20])) <|
 some (.jump [C.list x11, C.list x9, C.int .i64 x10])) <|
 rowD (.list x11) (.int .i64 2) [(.int .i64)] fun r13 =>
 let x13 := (getC r13 0).toInt
 rowD (.list x11) (.int .i64 0) [(.int .i64)] fun r14 =>
 let x14 := (getC r14 0).toInt
 let x15 := IntKind.wrap .i64 (x14 + x12)
 let x16 := IntKind.wrap .i64 (x15 + x13)
 let x17 := (x16 == 0)
 iteD x17 (
 callD (φ_bi [C.list x9, C.int .i64 x10, C.int .i64 3]) [(.int .i64), .list, (.int .i64)] fun r18 =>
 let x18 := (getC r18 0).toInt
 let x19 := (getC r18 1).toList
 let x20 := (getC r18 2).toInt
 whenD ((decide ((0 : Int) <= x18) && decide (x18 < (x11.length : Nat)))) <|
 let x21 := (setRow 0 x11 (Int.toNat x18) [C.int .i64 1])
 some (.jump [C.list x21, C.list x19, C.int .i64 x20])) <|
 some (.jump [C.list x11, C.list x9, C.int .i64 x10])) <|
 rowD (.list x11) (.int .i64 2) [(.int .i64)] fun r12 =>
 let x12 := (getC r12 0).toInt
 bothD (
 rowD (.list x11) (.int .i64 0) [(.int .i64)] fun r13 =>
 let x13 := (getC r13 0).toInt
 rowD (.list x11) (.int .i64 1) [(.int .i64)] fun r14 =>
 let x14 := (getC r14 0).toInt
 let x15 := IntKind.wrap .i64 (x13 + x14)
 let x16 := IntKind.wrap .i64 (x15 + x12)
 let x17 := (x16 == 0)
 iteD x17 (
 callD (φ_bi [C.list x9, C.int .i64 x10, C.int .i64 3]) [(.int .i64), .list, (.int .i64)] fun r18 =>
 let x18 := (getC r18 0).toInt
 let x19 := (getC r18 1).toList
 let x20 := (getC r18 2).toInt
 whenD ((decide ((0 : Int) <= x18) && decide (x18 < (x11.length : Nat)))) <|
 let x21 := (setRow 0 x11 (Int.toNat x18) [C.int .i64 1])
 some (.jump [C.list x21, C.list x19, C.int .i64 x20])) <|
 some (.jump [C.list x11, C.list x9, C.int .i64 x10])) <|
 rowD (.list x11) (.int .i64 1) [(.int .i64)] fun r13 =>
 let x13 := (getC r13 0).toInt
 rowD (.list x11) (.int .i64 0) [(.int .i64)] fun r14 =>
 let x14 := (getC r14 0).toInt
 let x15 := IntKind.wrap .i64 (x14 + x13)
 let x16 := IntKind.wrap .i64 (x15 + x12)
 let x17 := (x16 == 0)
 iteD x17 (
 callD (φ_bi [C.list x9, C.int .i64 x10, C.int .i64 3]) [(.int .i64), .list, (.int .i64)] fun r18 =>
 let x18 := (getC r18 0).toInt
 let x19 := (getC r18 1).toList
 let x20 := (getC r18 2).toInt
 whenD ((decide ((0 : Int) <= x18) && decide (x18 < (x11.length : Nat)))) <|
 let x21 := (setRow 0 x11 (Int.toNat x18) [C.int .i64 1])
 some (.jump [C.list x21, C.list x19, C.int .i64 x20])) <|
 some (.jump [C.list x11, C.list x9, C.int .i64 x10])) fun ps => J_cs_0 ((getC ps 0).toList) ((getC ps 1).toList) ((getC ps 2).toInt)
def t_da : Tree :=
.call 0 [vL 0, vI 1, nI 7] [kI, .list, kI] <|
.letp (.add .i64) [nI 1, vI 2] <|
.call 0 [vL 3, vI 4, nI 4] [kI, .list, kI] <|
.letp (.add .i64) [nI 1, vI 6] <|
.join [.bool, .list, kI, .list] (
 .letp .eqI [vI 5, nI 1] <|
 .ite (.v 10) (
 .call 0 [vL 7, vI 8, nI 3] [kI, .list, kI] <|
 .letp (.add .i64) [nI 1, vI 11] <|
 .letp (.mkl 1) [vI 14] <|
 .jump [⟨.bool, (.b true)⟩, vL 12, vI 13, vL 15]) <|
 .letp .eqI [vI 5, nI 4] <|
 .ite (.v 11) (
 .call 1 [vL 7, vI 8] [.list, .list, kI] <|
 .jump [⟨.bool, (.b false)⟩, vL 13, vI 14, vL 12]) <|
 .jump [⟨.bool, (.b false)⟩, vL 7, vI 8, ⟨.list, .e⟩]) <|
.call 0 [vL 11, vI 12, nI 20] [kI, .list, kI] <|
.letp .eqI [vI 14, nI 0] <|
.ite (.v 17) (
 .call 0 [vL 15, vI 16, nI 9] [kI, .list, kI] <|
 .ret [vI 18, vI 9, vL 13, vL 19, vI 20]) <|
.letp .eqI [vI 14, nI 1] <|
.ite (.v 18) (
 .letp (.mkl 1) [nI 0, nI 6, nI 7] <|
 .call 0 [vL 15, vI 16, nI 3] [kI, .list, kI] <|
 .chk .idx [vI 20, vL 19] <|
 .row (.v 19) (.v 20) [kI] <|
 .ret [vI 5, vI 23, vL 13, vL 21, vI 22]) <|
.letp .eqI [vI 14, nI 2] <|
.ite (.v 19) (
 .call 0 [vL 15, vI 16, nI 5] [kI, .list, kI] <|
 .letp (.mkl 1) [vI 20] <|
 .chk .fits [vL 13, vL 23] <|
 .letp .app [vL 13, vL 23] <|
 .ret [vI 5, vI 9, vL 24, vL 21, vI 22]) <|
.ret [vI 5, vI 9, vL 13, vL 15, vI 16]
def Φ_da : Phi := ph [φ_bi, φ_cs]
def φ_da := mir Φ_da t_da
def J_da_0 (x5 x9 : Int) (x10 : Bool) (x11 : LL) (x12 : Int) (x13 : LL) : Option Out :=
 callD (φ_bi [C.list x11, C.int .i64 x12, C.int .i64 20]) [(.int .i64), .list, (.int .i64)] fun r14 =>
 let x14 := (getC r14 0).toInt
 let x15 := (getC r14 1).toList
 let x16 := (getC r14 2).toInt
 let x17 := (x14 == 0)
 iteD x17 (
 callD (φ_bi [C.list x15, C.int .i64 x16, C.int .i64 9]) [(.int .i64), .list, (.int .i64)] fun r18 =>
 let x18 := (getC r18 0).toInt
 let x19 := (getC r18 1).toList
 let x20 := (getC r18 2).toInt
 some (.ret [C.int .i64 x18, C.int .i64 x9, C.list x13, C.list x19, C.int .i64 x20])) <|
 let x18 := (x14 == 1)
 iteD x18 (
 let x19 := [[C.int .i64 0], [C.int .i64 6], [C.int .i64 7]]
 callD (φ_bi [C.list x15, C.int .i64 x16, C.int .i64 3]) [(.int .i64), .list, (.int .i64)] fun r20 =>
 let x20 := (getC r20 0).toInt
 let x21 := (getC r20 1).toList
 let x22 := (getC r20 2).toInt
 whenD ((decide ((0 : Int) <= x20) && decide (x20 < (x19.length : Nat)))) <|
 rowD (.list x19) (.int .i64 x20) [(.int .i64)] fun r23 =>
 let x23 := (getC r23 0).toInt
 some (.ret [C.int .i64 x5, C.int .i64 x23, C.list x13, C.list x21, C.int .i64 x22])) <|
 let x19 := (x14 == 2)
 iteD x19 (
 callD (φ_bi [C.list x15, C.int .i64 x16, C.int .i64 5]) [(.int .i64), .list, (.int .i64)] fun r20 =>
 let x20 := (getC r20 0).toInt
 let x21 := (getC r20 1).toList
 let x22 := (getC r20 2).toInt
 let x23 := [[C.int .i64 x20]]
 whenD (decide (x13.length + x23.length <= LMAX)) <|
 let x24 := (x13 ++ x23)
 some (.ret [C.int .i64 x5, C.int .i64 x9, C.list x24, C.list x21, C.int .i64 x22])) <|
 some (.ret [C.int .i64 x5, C.int .i64 x9, C.list x13, C.list x15, C.int .i64 x16])
def F_da (x0 : LL) (x1 : Int) : Option Out :=
 callD (φ_bi [C.list x0, C.int .i64 x1, C.int .i64 7]) [(.int .i64), .list, (.int .i64)] fun r2 =>
 let x2 := (getC r2 0).toInt
 let x3 := (getC r2 1).toList
 let x4 := (getC r2 2).toInt
 let x5 := IntKind.wrap .i64 (1 + x2)
 callD (φ_bi [C.list x3, C.int .i64 x4, C.int .i64 4]) [(.int .i64), .list, (.int .i64)] fun r6 =>
 let x6 := (getC r6 0).toInt
 let x7 := (getC r6 1).toList
 let x8 := (getC r6 2).toInt
 let x9 := IntKind.wrap .i64 (1 + x6)
 joinD (
 let x10 := (x5 == 1)
 iteD x10 (
 callD (φ_bi [C.list x7, C.int .i64 x8, C.int .i64 3]) [(.int .i64), .list, (.int .i64)] fun r11 =>
 let x11 := (getC r11 0).toInt
 let x12 := (getC r11 1).toList
 let x13 := (getC r11 2).toInt
 let x14 := IntKind.wrap .i64 (1 + x11)
 let x15 := [[C.int .i64 x14]]
 some (.jump [C.bool true, C.list x12, C.int .i64 x13, C.list x15])) <|
 let x11 := (x5 == 4)
 iteD x11 (
 callD (φ_cs [C.list x7, C.int .i64 x8]) [.list, .list, (.int .i64)] fun r12 =>
 let x12 := (getC r12 0).toList
 let x13 := (getC r12 1).toList
 let x14 := (getC r12 2).toInt
 some (.jump [C.bool false, C.list x13, C.int .i64 x14, C.list x12])) <|
 some (.jump [C.bool false, C.list x7, C.int .i64 x8, C.list ([] : LL)])) fun ps => J_da_0 x5 x9 ((getC ps 0).toBool) ((getC ps 1).toList) ((getC ps 2).toInt) ((getC ps 3).toList)
def t_bz : Tree :=
.call 0 [vL 0, vI 1, nI 7] [kI, .list, kI] <|
.letp (.add .i64) [nI 1, vI 2] <|
.call 0 [vL 3, vI 4, nI 3] [kI, .list, kI] <|
.letp (.add .i64) [nI 1, vI 6] <|
.call 0 [vL 7, vI 8, nI 4] [kI, .list, kI] <|
.letp (.add .i64) [nI 1, vI 10] <|
.join [kI, .list, kI] (
 .letp .eqI [vI 5, nI 1] <|
 .ite (.v 14) (
 .call 0 [vL 11, vI 12, nI 3] [kI, .list, kI] <|
 .letp (.add .i64) [nI 1, vI 15] <|
 .jump [vI 18, vL 16, vI 17]) <|
 .jump [nI 0, vL 11, vI 12]) <|
.call 0 [vL 15, vI 16, nI 20] [kI, .list, kI] <|
.letp .eqI [vI 17, nI 0] <|
.ite (.v 20) (
 .call 0 [vL 18, vI 19, nI 9] [kI, .list, kI] <|
 .ret [vI 21, vI 9, vI 13, vI 14, vL 22, vI 23]) <|
.letp .eqI [vI 17, nI 1] <|
.ite (.v 21) (
 .call 0 [vL 18, vI 19, nI 5] [kI, .list, kI] <|
 .ret [vI 5, vI 22, vI 13, vI 14, vL 23, vI 24]) <|
.letp .eqI [vI 17, nI 2] <|
.ite (.v 22) (
 .call 0 [vL 18, vI 19, nI 8] [kI, .list, kI] <|
 .ret [vI 5, vI 9, vI 23, vI 14, vL 24, vI 25]) <|
.letp .eqI [vI 17, nI 3] <|
.ite (.v 23) (
 .call 0 [vL 18, vI 19, nI 5] [kI, .list, kI] <|
 .ret [vI 5, vI 9, vI 13, vI 24, vL 25, vI 26]) <|
.ret [vI 5, vI 9, vI 13, vI 14, vL 18, vI 19]
def Φ_bz : Phi := ph [φ_bi]
def φ_bz := mir Φ_bz t_bz
def J_bz_0 (x5 x9 : Int) (x13 x14 : Int) (x15 : LL) (x16 : Int) : Option Out :=
 callD (φ_bi [C.list x15, C.int .i64 x16, C.int .i64 20]) [(.int .i64), .list, (.int .i64)] fun r17 =>
 let x17 := (getC r17 0).toInt
 let x18 := (getC r17 1).toList
 let x19 := (getC r17 2).toInt
 let x20 := (x17 == 0)
 iteD x20 (
 callD (φ_bi [C.list x18, C.int .i64 x19, C.int .i64 9]) [(.int .i64), .list, (.int .i64)] fun r21 =>
 let x21 := (getC r21 0).toInt
 let x22 := (getC r21 1).toList
 let x23 := (getC r21 2).toInt
 some (.ret [C.int .i64 x21, C.int .i64 x9, C.int .i64 x13, C.int .i64 x14, C.list x22, C.int .i64 x23])) <|
 let x21 := (x17 == 1)
 iteD x21 (
 callD (φ_bi [C.list x18, C.int .i64 x19, C.int .i64 5]) [(.int .i64), .list, (.int .i64)] fun r22 =>
 let x22 := (getC r22 0).toInt
 let x23 := (getC r22 1).toList
 let x24 := (getC r22 2).toInt
 some (.ret [C.int .i64 x5, C.int .i64 x22, C.int .i64 x13, C.int .i64 x14, C.list x23, C.int .i64 x24])) <|
 let x22 := (x17 == 2)
 iteD x22 (
 callD (φ_bi [C.list x18, C.int .i64 x19, C.int .i64 8]) [(.int .i64), .list, (.int .i64)] fun r23 =>
 let x23 := (getC r23 0).toInt
 let x24 := (getC r23 1).toList
 let x25 := (getC r23 2).toInt
 some (.ret [C.int .i64 x5, C.int .i64 x9, C.int .i64 x23, C.int .i64 x14, C.list x24, C.int .i64 x25])) <|
 let x23 := (x17 == 3)
 iteD x23 (
 callD (φ_bi [C.list x18, C.int .i64 x19, C.int .i64 5]) [(.int .i64), .list, (.int .i64)] fun r24 =>
 let x24 := (getC r24 0).toInt
 let x25 := (getC r24 1).toList
 let x26 := (getC r24 2).toInt
 some (.ret [C.int .i64 x5, C.int .i64 x9, C.int .i64 x13, C.int .i64 x24, C.list x25, C.int .i64 x26])) <|
 some (.ret [C.int .i64 x5, C.int .i64 x9, C.int .i64 x13, C.int .i64 x14, C.list x18, C.int .i64 x19])
def F_bz (x0 : LL) (x1 : Int) : Option Out :=
 callD (φ_bi [C.list x0, C.int .i64 x1, C.int .i64 7]) [(.int .i64), .list, (.int .i64)] fun r2 =>
 let x2 := (getC r2 0).toInt
 let x3 := (getC r2 1).toList
 let x4 := (getC r2 2).toInt
 let x5 := IntKind.wrap .i64 (1 + x2)
 callD (φ_bi [C.list x3, C.int .i64 x4, C.int .i64 3]) [(.int .i64), .list, (.int .i64)] fun r6 =>
 let x6 := (getC r6 0).toInt
 let x7 := (getC r6 1).toList
 let x8 := (getC r6 2).toInt
 let x9 := IntKind.wrap .i64 (1 + x6)
 callD (φ_bi [C.list x7, C.int .i64 x8, C.int .i64 4]) [(.int .i64), .list, (.int .i64)] fun r10 =>
 let x10 := (getC r10 0).toInt
 let x11 := (getC r10 1).toList
 let x12 := (getC r10 2).toInt
 let x13 := IntKind.wrap .i64 (1 + x10)
 joinD (
 let x14 := (x5 == 1)
 iteD x14 (
 callD (φ_bi [C.list x11, C.int .i64 x12, C.int .i64 3]) [(.int .i64), .list, (.int .i64)] fun r15 =>
 let x15 := (getC r15 0).toInt
 let x16 := (getC r15 1).toList
 let x17 := (getC r15 2).toInt
 let x18 := IntKind.wrap .i64 (1 + x15)
 some (.jump [C.int .i64 x18, C.list x16, C.int .i64 x17])) <|
 some (.jump [C.int .i64 0, C.list x11, C.int .i64 x12])) fun ps => J_bz_0 x5 x9 x13 ((getC ps 0).toInt) ((getC ps 1).toList) ((getC ps 2).toInt)
def t_cp : Tree :=
.call 0 [vL 0, vI 1] [.list, .list, .bool, .list, kI, .list, .list, .list, .list, kI] <|
.call 1 [vL 10, vI 11, nI 30] [kI, .list, kI] <|
.letp .eqI [vI 12, nI 0] <|
.ite (.v 15) (
 .call 2 [vL 13, vI 14] [kI, kI, .list, .list, kI] <|
 .letp (.mkl 3) [vI 16, vI 17, vL 18] <|
 .chk .fits [vL 5, vL 21] <|
 .letp .app [vL 5, vL 21] <|
 .ret [vB 4, vL 22, vI 6, vL 7, vB 4, ⟨.hole, .e⟩, vI 6, ⟨.hole, .e⟩, vL 8, vL 9, vL 19, vI 20]) <|
.letp .eqI [vI 12, nI 1] <|
.ite (.v 16) (
 .call 3 [vL 13, vI 14] [kI, kI, kI, kI, .list, kI] <|
 .letp (.mkl 4) [vI 17, vI 18, vI 19, vI 20] <|
 .chk .fits [vL 7, vL 23] <|
 .letp .app [vL 7, vL 23] <|
 .ret [vB 4, vL 5, vI 6, vL 24, vB 4, ⟨.hole, .e⟩, vI 6, ⟨.hole, .e⟩, vL 8, vL 9, vL 21, vI 22]) <|
.letp .eqI [vI 12, nI 2] <|
.ite (.v 17) (
 .letp .not [vB 4] <|
 .ret [vB 18, vL 5, vI 6, vL 7, vB 4, ⟨.hole, .e⟩, vI 6, ⟨.hole, .e⟩, vL 8, vL 9, vL 13, vI 14]) <|
.letp .eqI [vI 12, nI 3] <|
.ite (.v 18) (
 .letp (.add .i64) [vI 6, nI 1] <|
 .ret [vB 4, vL 5, vI 19, vL 7, vB 4, ⟨.hole, .e⟩, vI 6, ⟨.hole, .e⟩, vL 8, vL 9, vL 13, vI 14]) <|
.ret [vB 4, vL 5, vI 6, vL 7, vB 4, ⟨.hole, .e⟩, vI 6, ⟨.hole, .e⟩, vL 8, vL 9, vL 13, vI 14]
def Φ_cp : Phi := ph [φ_cg, φ_bi, φ_da, φ_bz]
def φ_cp := mir Φ_cp t_cp
def F_cp (x0 : LL) (x1 : Int) : Option Out :=
 callD (φ_cg [C.list x0, C.int .i64 x1]) [.list, .list, .bool, .list, (.int .i64), .list, .list, .list, .list, (.int .i64)] fun r2 =>
 let x2 := (getC r2 0).toList
 let x3 := (getC r2 1).toList
 let x4 := (getC r2 2).toBool
 let x5 := (getC r2 3).toList
 let x6 := (getC r2 4).toInt
 let x7 := (getC r2 5).toList
 let x8 := (getC r2 6).toList
 let x9 := (getC r2 7).toList
 let x10 := (getC r2 8).toList
 let x11 := (getC r2 9).toInt
 callD (φ_bi [C.list x10, C.int .i64 x11, C.int .i64 30]) [(.int .i64), .list, (.int .i64)] fun r12 =>
 let x12 := (getC r12 0).toInt
 let x13 := (getC r12 1).toList
 let x14 := (getC r12 2).toInt
 let x15 := (x12 == 0)
 iteD x15 (
 callD (φ_da [C.list x13, C.int .i64 x14]) [(.int .i64), (.int .i64), .list, .list, (.int .i64)] fun r16 =>
 let x16 := (getC r16 0).toInt
 let x17 := (getC r16 1).toInt
 let x18 := (getC r16 2).toList
 let x19 := (getC r16 3).toList
 let x20 := (getC r16 4).toInt
 let x21 := [[C.int .i64 x16, C.int .i64 x17, C.list x18]]
 whenD (decide (x5.length + x21.length <= LMAX)) <|
 let x22 := (x5 ++ x21)
 some (.ret [C.bool x4, C.list x22, C.int .i64 x6, C.list x7, C.bool x4, C.hole, C.int .i64 x6, C.hole, C.list x8, C.list x9, C.list x19, C.int .i64 x20])) <|
 let x16 := (x12 == 1)
 iteD x16 (
 callD (φ_bz [C.list x13, C.int .i64 x14]) [(.int .i64), (.int .i64), (.int .i64), (.int .i64), .list, (.int .i64)] fun r17 =>
 let x17 := (getC r17 0).toInt
 let x18 := (getC r17 1).toInt
 let x19 := (getC r17 2).toInt
 let x20 := (getC r17 3).toInt
 let x21 := (getC r17 4).toList
 let x22 := (getC r17 5).toInt
 let x23 := [[C.int .i64 x17, C.int .i64 x18, C.int .i64 x19, C.int .i64 x20]]
 whenD (decide (x7.length + x23.length <= LMAX)) <|
 let x24 := (x7 ++ x23)
 some (.ret [C.bool x4, C.list x5, C.int .i64 x6, C.list x24, C.bool x4, C.hole, C.int .i64 x6, C.hole, C.list x8, C.list x9, C.list x21, C.int .i64 x22])) <|
 let x17 := (x12 == 2)
 iteD x17 (
 let x18 := (!x4)
 some (.ret [C.bool x18, C.list x5, C.int .i64 x6, C.list x7, C.bool x4, C.hole, C.int .i64 x6, C.hole, C.list x8, C.list x9, C.list x13, C.int .i64 x14])) <|
 let x18 := (x12 == 3)
 iteD x18 (
 let x19 := IntKind.wrap .i64 (x6 + 1)
 some (.ret [C.bool x4, C.list x5, C.int .i64 x19, C.list x7, C.bool x4, C.hole, C.int .i64 x6, C.hole, C.list x8, C.list x9, C.list x13, C.int .i64 x14])) <|
 some (.ret [C.bool x4, C.list x5, C.int .i64 x6, C.list x7, C.bool x4, C.hole, C.int .i64 x6, C.hole, C.list x8, C.list x9, C.list x13, C.int .i64 x14])
def t_dt : Tree :=
.iter [nI 0] <|
.letp .len [vL 0] <|
.letp .ltI [vI 2, vI 3] <|
.ite (.v 4) (
 .row (.v 0) (.v 2) [kI, kI, .list] <|
 .call 0 [vI 5, vI 6, vL 7] [.bool] <|
 .letp .not [vB 8] <|
 .ite (.v 9) (
 .up <|
 .ret [⟨.bool, (.b false)⟩]) <|
 .letp (.add .i64) [vI 2, nI 1] <|
 .jump [vI 10]) <|
.up <|
.letp .len [vL 0] <|
.letp .leI [vI 5, nI 40] <|
.ite (.v 6) (
 .letp .len [vL 0] <|
 .call 1 [vI 1, nI 0, vI 7] [.bool] <|
 .ret [vB 8]) <|
.ret [⟨.bool, (.b false)⟩]
def Φ_dt : Phi := ph [φ_dx, φ_ea]
def φ_dt := mir Φ_dt t_dt
def L_dt_0 (x0 : LL) (x1 x2 : Int) : Option Out :=
 let x3 : Int := x0.length
 let x4 := decide (x2 < x3)
 iteD x4 (
 rowD (.list x0) (.int .i64 x2) [(.int .i64), (.int .i64), .list] fun r5 =>
 let x5 := (getC r5 0).toInt
 let x6 := (getC r5 1).toInt
 let x7 := (getC r5 2).toList
 callD (φ_dx [C.int .i64 x5, C.int .i64 x6, C.list x7]) [.bool] fun r8 =>
 let x8 := (getC r8 0).toBool
 let x9 := (!x8)
 iteD x9 (
 upD <|
 some (.ret [C.bool false])) <|
 let x10 := IntKind.wrap .i64 (x2 + 1)
 some (.jump [C.int .i64 x10])) <|
 upD <|
 let x5 : Int := x0.length
 let x6 := decide (x5 <= 40)
 iteD x6 (
 let x7 : Int := x0.length
 callD (φ_ea [C.int .i64 x1, C.int .i64 0, C.int .i64 x7]) [.bool] fun r8 =>
 let x8 := (getC r8 0).toBool
 some (.ret [C.bool x8])) <|
 some (.ret [C.bool false])
def F_dt (x0 : LL) (x1 : Int) : Option Out :=
 iterD (fun ps => L_dt_0 x0 x1 ((getC ps 0).toInt)) [C.int .i64 0]
def t_ct : Tree :=
.call 0 [vL 1] [.list, .bool] <|
.call 1 [vL 1, vI 2] [.bool] <|
.letp .not [vB 6] <|
.ite (.v 7) (
 .ret [⟨.bool, (.b false)⟩]) <|
.letp .not [vB 5] <|
.ite (.v 8) (
 .ret [⟨.bool, (.b false)⟩]) <|
.iter [nI 0] <|
.letp .len [vL 3] <|
.letp .ltI [vI 9, vI 10] <|
.ite (.v 11) (
 .row (.v 3) (.v 9) [kI, kI, kI, kI] <|
 .call 2 [vI 12, vI 13, vI 14, vI 15] [.bool] <|
 .letp .not [vB 16] <|
 .ite (.v 17) (
 .up <|
 .ret [⟨.bool, (.b false)⟩]) <|
 .letp .ltI [vI 12, nI 4] <|
 .ite (.v 18) (
 .up <|
 .ret [⟨.bool, (.b false)⟩]) <|
 .letp .len [vL 4] <|
 .letp .gtI [vI 14, vI 19] <|
 .ite (.v 20) (
 .up <|
 .ret [⟨.bool, (.b false)⟩]) <|
 .chk .upto [vI 9, vL 3] <|
 .letp .take [vL 3, vI 9] <|
 .call 3 [vL 21, vI 12, vI 13, vI 14, vI 15] [.bool] <|
 .ite (.v 22) (
 .up <|
 .ret [⟨.bool, (.b false)⟩]) <|
 .letp (.add .i64) [vI 9, nI 1] <|
 .jump [vI 23]) <|
.up <|
.ite (.v 0) (
 .ret [⟨.bool, (.b true)⟩]) <|
.letp .len [vL 3] <|
.letp .eqI [vI 12, nI 0] <|
.ret [vB 13]
def Φ_ct : Phi := ph [φ_dr, φ_dt, φ_de, φ_cf]
def φ_ct := mir Φ_ct t_ct
def L_ct_0 (x0 : Bool) (x3 x4 : LL) (x9 : Int) : Option Out :=
 let x10 : Int := x3.length
 let x11 := decide (x9 < x10)
 iteD x11 (
 rowD (.list x3) (.int .i64 x9) [(.int .i64), (.int .i64), (.int .i64), (.int .i64)] fun r12 =>
 let x12 := (getC r12 0).toInt
 let x13 := (getC r12 1).toInt
 let x14 := (getC r12 2).toInt
 let x15 := (getC r12 3).toInt
 callD (φ_de [C.int .i64 x12, C.int .i64 x13, C.int .i64 x14, C.int .i64 x15]) [.bool] fun r16 =>
 let x16 := (getC r16 0).toBool
 let x17 := (!x16)
 iteD x17 (
 upD <|
 some (.ret [C.bool false])) <|
 let x18 := decide (x12 < 4)
 iteD x18 (
 upD <|
 some (.ret [C.bool false])) <|
 let x19 : Int := x4.length
 let x20 := decide (x14 > x19)
 iteD x20 (
 upD <|
 some (.ret [C.bool false])) <|
 whenD ((decide ((0 : Int) <= x9) && decide (x9 <= (x3.length : Nat)))) <|
 let x21 := (x3.take (Int.toNat x9))
 callD (φ_cf [C.list x21, C.int .i64 x12, C.int .i64 x13, C.int .i64 x14, C.int .i64 x15]) [.bool] fun r22 =>
 let x22 := (getC r22 0).toBool
 iteD x22 (
 upD <|
 some (.ret [C.bool false])) <|
 let x23 := IntKind.wrap .i64 (x9 + 1)
 some (.jump [C.int .i64 x23])) <|
 upD <|
 iteD x0 (
 some (.ret [C.bool true])) <|
 let x12 : Int := x3.length
 let x13 := (x12 == 0)
 some (.ret [C.bool x13])
def F_ct (x0 : Bool) (x1 : LL) (x2 : Int) (x3 : LL) : Option Out :=
 callD (φ_dr [C.list x1]) [.list, .bool] fun r4 =>
 let x4 := (getC r4 0).toList
 let x5 := (getC r4 1).toBool
 callD (φ_dt [C.list x1, C.int .i64 x2]) [.bool] fun r6 =>
 let x6 := (getC r6 0).toBool
 let x7 := (!x6)
 iteD x7 (
 some (.ret [C.bool false])) <|
 let x8 := (!x5)
 iteD x8 (
 some (.ret [C.bool false])) <|
 iterD (fun ps => L_ct_0 x0 x3 x4 ((getC ps 0).toInt)) [C.int .i64 0]
def t_bj : Tree :=
.call 0 [vB 0, vL 1, vI 2, vL 3] [.bool] <|
.letp .not [vB 4] <|
.ite (.v 5) (
 .ret [⟨.list, .e⟩]) <|
.call 1 [vB 0, vL 1, vI 2, vL 3] [.list] <|
.ret [vL 6]
def Φ_bj : Phi := ph [φ_ct, φ_bm]
def φ_bj := mir Φ_bj t_bj
def F_bj (x0 : Bool) (x1 : LL) (x2 : Int) (x3 : LL) : Option Out :=
 callD (φ_ct [C.bool x0, C.list x1, C.int .i64 x2, C.list x3]) [.bool] fun r4 =>
 let x4 := (getC r4 0).toBool
 let x5 := (!x4)
 iteD x5 (
 some (.ret [C.list ([] : LL)])) <|
 callD (φ_bm [C.bool x0, C.list x1, C.int .i64 x2, C.list x3]) [.list] fun r6 =>
 let x6 := (getC r6 0).toList
 some (.ret [C.list x6])
def t_al : Tree :=
.call 0 [vL 0] [.list, kI] <|
.call 1 [vL 1, vI 2] [.bool, .list, kI, .list, .bool, .hole, kI, .hole, .list, .list, .list, kI] <|
.call 2 [vL 13, vI 14] [kI, kI, kI, kI, .list, kI] <|
.call 3 [vB 3, vL 4, vI 5, vL 6] [.list] <|
.join [.bool, .list, kI] (
 .letp .len [vL 21] <|
 .letp .gtI [vI 22, nI 0] <|
 .ite (.v 23) (
 .call 4 [vL 19, vI 20, nI 4] [kI, .list, kI] <|
 .letp .gtI [vI 24, nI 0] <|
 .jump [vB 27, vL 25, vI 26]) <|
 .jump [⟨.bool, (.b false)⟩, vL 19, vI 20]) <|
.ite (.v 22) (
 .letp .len [vL 21] <|
 .call 4 [vL 23, vI 24, vI 25] [kI, .list, kI] <|
 .row (.v 21) (.v 26) [kI, kI, kI, kI] <|
 .letp (.mkl 1) [nI 0, nI 4, nI 6, nI 7] <|
 .chk .idx [vI 29, vL 33] <|
 .row (.v 33) (.v 29) [kI] <|
 .letp .eqI [vI 29, nI 1] <|
 .ite (.v 35) (
 .call 4 [vL 27, vI 28, nI 4] [kI, .list, kI] <|
 .letp .eqI [vI 36, nI 0] <|
 .ite (.v 39) (
 .ret [vB 3, vL 4, vI 5, vL 6, nI 5, vI 30, vI 31, nI 0]) <|
 .ret [vB 3, vL 4, vI 5, vL 6, vI 34, vI 30, vI 31, nI 0]) <|
 .ret [vB 3, vL 4, vI 5, vL 6, vI 34, vI 30, vI 31, nI 0]) <|
.letp .len [vL 12] <|
.letp .gtI [vI 25, nI 0] <|
.ite (.v 26) (
 .call 4 [vL 23, vI 24, nI 2] [kI, .list, kI] <|
 .letp .eqI [vI 27, nI 0] <|
 .ite (.v 30) (
 .letp .len [vL 12] <|
 .call 4 [vL 28, vI 29, vI 31] [kI, .list, kI] <|
 .row (.v 12) (.v 32) [kI, kI, kI, kI] <|
 .ret [vB 3, vL 4, vI 5, vL 6, vI 35, vI 36, vI 37, vI 38]) <|
 .ret [vB 3, vL 4, vI 5, vL 6, vI 15, vI 16, vI 17, vI 18]) <|
.ret [vB 3, vL 4, vI 5, vL 6, vI 15, vI 16, vI 17, vI 18]
def Φ_al : Phi := ph [φ_df, φ_cp, φ_bz, φ_bj, φ_bi]
def φ_al := mir Φ_al t_al
def J_al_0 (x3 : Bool) (x4 : LL) (x5 : Int) (x6 x12 : LL) (x15 x16 : Int) (x17 x18 : Int) (x21 : LL) (x22 : Bool) (x23 : LL) (x24 : Int) : Option Out :=
 iteD x22 (
 let x25 : Int := x21.length
 callD (φ_bi [C.list x23, C.int .i64 x24, C.int .i64 x25]) [(.int .i64), .list, (.int .i64)] fun r26 =>
 let x26 := (getC r26 0).toInt
 let x27 := (getC r26 1).toList
 let x28 := (getC r26 2).toInt
 rowD (.list x21) (.int .i64 x26) [(.int .i64), (.int .i64), (.int .i64), (.int .i64)] fun r29 =>
 let x29 := (getC r29 0).toInt
 let x30 := (getC r29 1).toInt
 let x31 := (getC r29 2).toInt
 let x32 := (getC r29 3).toInt
 let x33 := [[C.int .i64 0], [C.int .i64 4], [C.int .i64 6], [C.int .i64 7]]
 whenD ((decide ((0 : Int) <= x29) && decide (x29 < (x33.length : Nat)))) <|
 rowD (.list x33) (.int .i64 x29) [(.int .i64)] fun r34 =>
 let x34 := (getC r34 0).toInt
 let x35 := (x29 == 1)
 iteD x35 (
 callD (φ_bi [C.list x27, C.int .i64 x28, C.int .i64 4]) [(.int .i64), .list, (.int .i64)] fun r36 =>
 let x36 := (getC r36 0).toInt
 let x37 := (getC r36 1).toList
 let x38 := (getC r36 2).toInt
 let x39 := (x36 == 0)
 iteD x39 (
 some (.ret [C.bool x3, C.list x4, C.int .i64 x5, C.list x6, C.int .i64 5, C.int .i64 x30, C.int .i64 x31, C.int .i64 0])) <|
 some (.ret [C.bool x3, C.list x4, C.int .i64 x5, C.list x6, C.int .i64 x34, C.int .i64 x30, C.int .i64 x31, C.int .i64 0])) <|
 some (.ret [C.bool x3, C.list x4, C.int .i64 x5, C.list x6, C.int .i64 x34, C.int .i64 x30, C.int .i64 x31, C.int .i64 0])) <|
 let x25 : Int := x12.length
 let x26 := decide (x25 > 0)
 iteD x26 (
 callD (φ_bi [C.list x23, C.int .i64 x24, C.int .i64 2]) [(.int .i64), .list, (.int .i64)] fun r27 =>
 let x27 := (getC r27 0).toInt
 let x28 := (getC r27 1).toList
 let x29 := (getC r27 2).toInt
 let x30 := (x27 == 0)
 iteD x30 (
 let x31 : Int := x12.length
 callD (φ_bi [C.list x28, C.int .i64 x29, C.int .i64 x31]) [(.int .i64), .list, (.int .i64)] fun r32 =>
 let x32 := (getC r32 0).toInt
 let x33 := (getC r32 1).toList
 let x34 := (getC r32 2).toInt
 rowD (.list x12) (.int .i64 x32) [(.int .i64), (.int .i64), (.int .i64), (.int .i64)] fun r35 =>
 let x35 := (getC r35 0).toInt
 let x36 := (getC r35 1).toInt
 let x37 := (getC r35 2).toInt
 let x38 := (getC r35 3).toInt
 some (.ret [C.bool x3, C.list x4, C.int .i64 x5, C.list x6, C.int .i64 x35, C.int .i64 x36, C.int .i64 x37, C.int .i64 x38])) <|
 some (.ret [C.bool x3, C.list x4, C.int .i64 x5, C.list x6, C.int .i64 x15, C.int .i64 x16, C.int .i64 x17, C.int .i64 x18])) <|
 some (.ret [C.bool x3, C.list x4, C.int .i64 x5, C.list x6, C.int .i64 x15, C.int .i64 x16, C.int .i64 x17, C.int .i64 x18])
def F_al (x0 : LL) : Option Out :=
 callD (φ_df [C.list x0]) [.list, (.int .i64)] fun r1 =>
 let x1 := (getC r1 0).toList
 let x2 := (getC r1 1).toInt
 callD (φ_cp [C.list x1, C.int .i64 x2]) [.bool, .list, (.int .i64), .list, .bool, .hole, (.int .i64), .hole, .list, .list, .list, (.int .i64)] fun r3 =>
 let x3 := (getC r3 0).toBool
 let x4 := (getC r3 1).toList
 let x5 := (getC r3 2).toInt
 let x6 := (getC r3 3).toList
 let x7 := (getC r3 4).toBool
 let x8 := C.hole
 let x9 := (getC r3 6).toInt
 let x10 := C.hole
 let x11 := (getC r3 8).toList
 let x12 := (getC r3 9).toList
 let x13 := (getC r3 10).toList
 let x14 := (getC r3 11).toInt
 callD (φ_bz [C.list x13, C.int .i64 x14]) [(.int .i64), (.int .i64), (.int .i64), (.int .i64), .list, (.int .i64)] fun r15 =>
 let x15 := (getC r15 0).toInt
 let x16 := (getC r15 1).toInt
 let x17 := (getC r15 2).toInt
 let x18 := (getC r15 3).toInt
 let x19 := (getC r15 4).toList
 let x20 := (getC r15 5).toInt
 callD (φ_bj [C.bool x3, C.list x4, C.int .i64 x5, C.list x6]) [.list] fun r21 =>
 let x21 := (getC r21 0).toList
 joinD (
 let x22 : Int := x21.length
 let x23 := decide (x22 > 0)
 iteD x23 (
 callD (φ_bi [C.list x19, C.int .i64 x20, C.int .i64 4]) [(.int .i64), .list, (.int .i64)] fun r24 =>
 let x24 := (getC r24 0).toInt
 let x25 := (getC r24 1).toList
 let x26 := (getC r24 2).toInt
 let x27 := decide (x24 > 0)
 some (.jump [C.bool x27, C.list x25, C.int .i64 x26])) <|
 some (.jump [C.bool false, C.list x19, C.int .i64 x20])) fun ps => J_al_0 x3 x4 x5 x6 x12 x15 x16 x17 x18 x21 ((getC ps 0).toBool) ((getC ps 1).toList) ((getC ps 2).toInt)
def t_ec : Tree :=
.letp .geI [vI 0, vI 1] <|
.ite (.v 3) (
 .letp .leI [vI 0, vI 2] <|
 .ret [vB 4]) <|
.ret [⟨.bool, (.b false)⟩]
def φ_ec := mir (ph []) t_ec
def F_ec (x0 x1 x2 : Int) : Option Out :=
 let x3 := decide (x0 >= x1)
 iteD x3 (
 let x4 := decide (x0 <= x2)
 some (.ret [C.bool x4])) <|
 some (.ret [C.bool false])
def t_aq : Tree :=
.call 0 [vI 0, nI 0, nI 3] [.bool] <|
.letp .not [vB 1] <|
.ret [vB 2]
def Φ_aq : Phi := ph [φ_ec]
def φ_aq := mir Φ_aq t_aq
def F_aq (x0 : Int) : Option Out :=
 callD (φ_ec [C.int .i64 x0, C.int .i64 0, C.int .i64 3]) [.bool] fun r1 =>
 let x1 := (getC r1 0).toBool
 let x2 := (!x1)
 some (.ret [C.bool x2])
def t_ag : Tree :=
.letp .len [vL 0] <|
.iter [nI 0] <|
.letp .ltI [vI 2, vI 1] <|
.ite (.v 3) (
 .row (.v 0) (.v 2) [kI] <|
 .call 0 [vI 4] [.bool] <|
 .ite (.v 5) (
 .up <|
 .ret [vI 2]) <|
 .letp (.add .i64) [vI 2, nI 1] <|
 .jump [vI 6]) <|
.up <|
.ret [⟨kI, (.n (-1))⟩]
def Φ_ag : Phi := ph [φ_aq]
def φ_ag := mir Φ_ag t_ag
def L_ag_0 (x0 : LL) (x1 x2 : Int) : Option Out :=
 let x3 := decide (x2 < x1)
 iteD x3 (
 rowD (.list x0) (.int .i64 x2) [(.int .i64)] fun r4 =>
 let x4 := (getC r4 0).toInt
 callD (φ_aq [C.int .i64 x4]) [.bool] fun r5 =>
 let x5 := (getC r5 0).toBool
 iteD x5 (
 upD <|
 some (.ret [C.int .i64 x2])) <|
 let x6 := IntKind.wrap .i64 (x2 + 1)
 some (.jump [C.int .i64 x6])) <|
 upD <|
 some (.ret [C.int .i64 (-1)])
def F_ag (x0 : LL) : Option Out :=
 let x1 : Int := x0.length
 iterD (fun ps => L_ag_0 x0 x1 ((getC ps 0).toInt)) [C.int .i64 0]
def t_ae : Tree :=
.call 0 [vL 0] [kI] <|
.letp .geI [vI 1, nI 0] <|
.ret [vB 2]
def Φ_ae : Phi := ph [φ_ag]
def φ_ae := mir Φ_ae t_ae
def F_ae (x0 : LL) : Option Out :=
 callD (φ_ag [C.list x0]) [(.int .i64)] fun r1 =>
 let x1 := (getC r1 0).toInt
 let x2 := decide (x1 >= 0)
 some (.ret [C.bool x2])
def t_ar : Tree :=
.letp .neI [vI 0, nI 0] <|
.ret [vB 1]
def φ_ar := mir (ph []) t_ar
def F_ar (x0 : Int) : Option Out :=
 let x1 := (x0 != 0)
 some (.ret [C.bool x1])
def t_ah : Tree :=
.letp .len [vL 0] <|
.iter [nI 0] <|
.letp .ltI [vI 2, vI 1] <|
.ite (.v 3) (
 .row (.v 0) (.v 2) [kI] <|
 .call 0 [vI 4] [.bool] <|
 .ite (.v 5) (
 .up <|
 .ret [vI 2]) <|
 .letp (.add .i64) [vI 2, nI 1] <|
 .jump [vI 6]) <|
.up <|
.ret [⟨kI, (.n (-1))⟩]
def Φ_ah : Phi := ph [φ_ar]
def φ_ah := mir Φ_ah t_ah
def L_ah_0 (x0 : LL) (x1 x2 : Int) : Option Out :=
 let x3 := decide (x2 < x1)
 iteD x3 (
 rowD (.list x0) (.int .i64 x2) [(.int .i64)] fun r4 =>
 let x4 := (getC r4 0).toInt
 callD (φ_ar [C.int .i64 x4]) [.bool] fun r5 =>
 let x5 := (getC r5 0).toBool
 iteD x5 (
 upD <|
 some (.ret [C.int .i64 x2])) <|
 let x6 := IntKind.wrap .i64 (x2 + 1)
 some (.jump [C.int .i64 x6])) <|
 upD <|
 some (.ret [C.int .i64 (-1)])
def F_ah (x0 : LL) : Option Out :=
 let x1 : Int := x0.length
 iterD (fun ps => L_ah_0 x0 x1 ((getC ps 0).toInt)) [C.int .i64 0]
def t_ad : Tree :=
.call 0 [vL 0] [kI] <|
.letp .geI [vI 1, nI 0] <|
.ret [vB 2]
def Φ_ad : Phi := ph [φ_ah]
def φ_ad := mir Φ_ad t_ad
def F_ad (x0 : LL) : Option Out :=
 callD (φ_ah [C.list x0]) [(.int .i64)] fun r1 =>
 let x1 := (getC r1 0).toInt
 let x2 := decide (x1 >= 0)
 some (.ret [C.bool x2])
def t_br : Tree :=
.letp .len [vL 0] <|
.letp .eqI [vI 1, nI 3] <|
.ite (.v 2) (
 .call 0 [vL 0] [.bool] <|
 .letp .not [vB 3] <|
 .ite (.v 4) (
 .call 1 [vL 0] [.bool] <|
 .ret [vB 5]) <|
 .ret [⟨.bool, (.b false)⟩]) <|
.ret [⟨.bool, (.b false)⟩]
def Φ_br : Phi := ph [φ_ae, φ_ad]
def φ_br := mir Φ_br t_br
def F_br (x0 : LL) : Option Out :=
 let x1 : Int := x0.length
 let x2 := (x1 == 3)
 iteD x2 (
 callD (φ_ae [C.list x0]) [.bool] fun r3 =>
 let x3 := (getC r3 0).toBool
 let x4 := (!x3)
 iteD x4 (
 callD (φ_ad [C.list x0]) [.bool] fun r5 =>
 let x5 := (getC r5 0).toBool
 some (.ret [C.bool x5])) <|
 some (.ret [C.bool false])) <|
 some (.ret [C.bool false])
def t_cy : Tree :=
.call 0 [vI 0, nI 1, nI 6] [.bool] <|
.ret [vB 1]
def Φ_cy : Phi := ph [φ_ec]
def φ_cy := mir Φ_cy t_cy
def F_cy (x0 : Int) : Option Out :=
 callD (φ_ec [C.int .i64 x0, C.int .i64 1, C.int .i64 6]) [.bool] fun r1 =>
 let x1 := (getC r1 0).toBool
 some (.ret [C.bool x1])
def t_dy : Tree :=
.letp .len [vL 2] <|
.letp .eqI [vI 3, nI 0] <|
.letp .eqI [vI 0, nI 1] <|
.ite (.v 5) (
 .letp .len [vL 2] <|
 .letp .eqI [vI 6, nI 1] <|
 .ite (.v 7) (
 .row (.v 2) (.n 0) [kI] <|
 .call 0 [vI 8, nI 1, nI 3] [.bool] <|
 .call 0 [vI 0, nI 1, nI 7] [.bool] <|
 .ite (.v 10) (
 .call 2 [vI 1] [.bool] <|
 .ite (.v 11) (
 .ret [vB 9]) <|
 .ret [⟨.bool, (.b false)⟩]) <|
 .ret [⟨.bool, (.b false)⟩]) <|
 .call 0 [vI 0, nI 1, nI 7] [.bool] <|
 .ite (.v 8) (
 .call 2 [vI 1] [.bool] <|
 .ite (.v 9) (
 .ret [⟨.bool, (.b false)⟩]) <|
 .ret [⟨.bool, (.b false)⟩]) <|
 .ret [⟨.bool, (.b false)⟩]) <|
.letp .eqI [vI 0, nI 4] <|
.ite (.v 6) (
 .call 1 [vL 2] [.bool] <|
 .call 0 [vI 0, nI 1, nI 7] [.bool] <|
 .ite (.v 8) (
 .call 2 [vI 1] [.bool] <|
 .ite (.v 9) (
 .ret [vB 7]) <|
 .ret [⟨.bool, (.b false)⟩]) <|
 .ret [⟨.bool, (.b false)⟩]) <|
.call 0 [vI 0, nI 1, nI 7] [.bool] <|
.ite (.v 7) (
 .call 2 [vI 1] [.bool] <|
 .ite (.v 8) (
 .ret [vB 4]) <|
 .ret [⟨.bool, (.b false)⟩]) <|
.ret [⟨.bool, (.b false)⟩]
def Φ_dy : Phi := ph [φ_ec, φ_br, φ_cy]
def φ_dy := mir Φ_dy t_dy
def F_dy (x0 x1 : Int) (x2 : LL) : Option Out :=
 let x3 : Int := x2.length
 let x4 := (x3 == 0)
 let x5 := (x0 == 1)
 iteD x5 (
 let x6 : Int := x2.length
 let x7 := (x6 == 1)
 iteD x7 (
 rowD (.list x2) (.int .i64 0) [(.int .i64)] fun r8 =>
 let x8 := (getC r8 0).toInt
 callD (φ_ec [C.int .i64 x8, C.int .i64 1, C.int .i64 3]) [.bool] fun r9 =>
 let x9 := (getC r9 0).toBool
 callD (φ_ec [C.int .i64 x0, C.int .i64 1, C.int .i64 7]) [.bool] fun r10 =>
 let x10 := (getC r10 0).toBool
 iteD x10 (
 callD (φ_cy [C.int .i64 x1]) [.bool] fun r11 =>
 let x11 := (getC r11 0).toBool
 iteD x11 (
 some (.ret [C.bool x9])) <|
 some (.ret [C.bool false])) <|
 some (.ret [C.bool false])) <|
 callD (φ_ec [C.int .i64 x0, C.int .i64 1, C.int .i64 7]) [.bool] fun r8 =>
 let x8 := (getC r8 0).toBool
 iteD x8 (
 callD (φ_cy [C.int .i64 x1]) [.bool] fun r9 =>
 let x9 := (getC r9 0).toBool
 iteD x9 (
 some (.ret [C.bool false])) <|
 some (.ret [C.bool false])) <|
 some (.ret [C.bool false])) <|
 let x6 := (x0 == 4)
 iteD x6 (
 callD (φ_br [C.list x2]) [.bool] fun r7 =>
 let x7 := (getC r7 0).toBool
 callD (φ_ec [C.int .i64 x0, C.int .i64 1, C.int .i64 7]) [.bool] fun r8 =>
 let x8 := (getC r8 0).toBool
 iteD x8 (
 callD (φ_cy [C.int .i64 x1]) [.bool] fun r9 =>
 let x9 := (getC r9 0).toBool
 iteD x9 (
 some (.ret [C.bool x7])) <|
 some (.ret [C.bool false])) <|
 some (.ret [C.bool false])) <|
 callD (φ_ec [C.int .i64 x0, C.int .i64 1, C.int .i64 7]) [.bool] fun r7 =>
 let x7 := (getC r7 0).toBool
 iteD x7 (
 callD (φ_cy [C.int .i64 x1]) [.bool] fun r8 =>
 let x8 := (getC r8 0).toBool
 iteD x8 (
 some (.ret [C.bool x4])) <|
 some (.ret [C.bool false])) <|
 some (.ret [C.bool false])
def t_cd : Tree :=
.call 0 [vI 0, vI 1, vL 2] [.bool] <|
.letp .not [vB 3] <|
.ret [vB 4]
def Φ_cd : Phi := ph [φ_dy]
def φ_cd := mir Φ_cd t_cd
def F_cd (x0 x1 : Int) (x2 : LL) : Option Out :=
 callD (φ_dy [C.int .i64 x0, C.int .i64 x1, C.list x2]) [.bool] fun r3 =>
 let x3 := (getC r3 0).toBool
 let x4 := (!x3)
 some (.ret [C.bool x4])
def t_af : Tree :=
.letp .len [vL 0] <|
.iter [nI 0] <|
.letp .ltI [vI 2, vI 1] <|
.ite (.v 3) (
 .row (.v 0) (.v 2) [kI, kI, .list] <|
 .call 0 [vI 4, vI 5, vL 6] [.bool] <|
 .ite (.v 7) (
 .up <|
 .ret [vI 2]) <|
 .letp (.add .i64) [vI 2, nI 1] <|
 .jump [vI 8]) <|
.up <|
.ret [⟨kI, (.n (-1))⟩]
def Φ_af : Phi := ph [φ_cd]
def φ_af := mir Φ_af t_af
def L_af_0 (x0 : LL) (x1 x2 : Int) : Option Out :=
 let x3 := decide (x2 < x1)
 iteD x3 (
 rowD (.list x0) (.int .i64 x2) [(.int .i64), (.int .i64), .list] fun r4 =>
 let x4 := (getC r4 0).toInt
 let x5 := (getC r4 1).toInt
 let x6 := (getC r4 2).toList
 callD (φ_cd [C.int .i64 x4, C.int .i64 x5, C.list x6]) [.bool] fun r7 =>
 let x7 := (getC r7 0).toBool
 iteD x7 (
 upD <|
 some (.ret [C.int .i64 x2])) <|
 let x8 := IntKind.wrap .i64 (x2 + 1)
 some (.jump [C.int .i64 x8])) <|
 upD <|
 some (.ret [C.int .i64 (-1)])
def F_af (x0 : LL) : Option Out :=
 let x1 : Int := x0.length
 iterD (fun ps => L_af_0 x0 x1 ((getC ps 0).toInt)) [C.int .i64 0]
def t_ac : Tree :=
.call 0 [vL 0] [kI] <|
.letp .geI [vI 1, nI 0] <|
.ret [vB 2]
def Φ_ac : Phi := ph [φ_af]
def φ_ac := mir Φ_ac t_ac
def F_ac (x0 : LL) : Option Out :=
 callD (φ_af [C.list x0]) [(.int .i64)] fun r1 =>
 let x1 := (getC r1 0).toInt
 let x2 := decide (x1 >= 0)
 some (.ret [C.bool x2])
def t_dp : Tree :=
.letp .len [vL 0] <|
.letp .leI [vI 2, nI 40] <|
.ite (.v 3) (
 .letp .len [vL 0] <|
 .call 0 [vI 1, nI 0, vI 4] [.bool] <|
 .ite (.v 5) (
 .call 1 [vL 0] [.bool] <|
 .letp .not [vB 6] <|
 .ret [vB 7]) <|
 .ret [⟨.bool, (.b false)⟩]) <|
.ret [⟨.bool, (.b false)⟩]
def Φ_dp : Phi := ph [φ_ec, φ_ac]
def φ_dp := mir Φ_dp t_dp
def F_dp (x0 : LL) (x1 : Int) : Option Out :=
 let x2 : Int := x0.length
 let x3 := decide (x2 <= 40)
 iteD x3 (
 let x4 : Int := x0.length
 callD (φ_ec [C.int .i64 x1, C.int .i64 0, C.int .i64 x4]) [.bool] fun r5 =>
 let x5 := (getC r5 0).toBool
 iteD x5 (
 callD (φ_ac [C.list x0]) [.bool] fun r6 =>
 let x6 := (getC r6 0).toBool
 let x7 := (!x6)
 some (.ret [C.bool x7])) <|
 some (.ret [C.bool false])) <|
 some (.ret [C.bool false])
def t_bh : Tree :=
.call 0 [vL 0] [.bool] <|
.letp .not [vB 2] <|
.ite (.v 3) (
 .ret [⟨.bool, (.b true)⟩]) <|
.call 1 [vI 1, nI 1, nI 5] [.bool] <|
.letp .not [vB 4] <|
.ret [vB 5]
def Φ_bh : Phi := ph [φ_br, φ_ec]
def φ_bh := mir Φ_bh t_bh
def F_bh (x0 : LL) (x1 : Int) : Option Out :=
 callD (φ_br [C.list x0]) [.bool] fun r2 =>
 let x2 := (getC r2 0).toBool
 let x3 := (!x2)
 iteD x3 (
 some (.ret [C.bool true])) <|
 callD (φ_ec [C.int .i64 x1, C.int .i64 1, C.int .i64 5]) [.bool] fun r4 =>
 let x4 := (getC r4 0).toBool
 let x5 := (!x4)
 some (.ret [C.bool x5])
def t_ab : Tree :=
.letp .len [vL 0] <|
.iter [nI 0] <|
.letp .ltI [vI 2, vI 1] <|
.ite (.v 3) (
 .row (.v 0) (.v 2) [.list, kI] <|
 .call 0 [vL 4, vI 5] [.bool] <|
 .ite (.v 6) (
 .up <|
 .ret [vI 2]) <|
 .letp (.add .i64) [vI 2, nI 1] <|
 .jump [vI 7]) <|
.up <|
.ret [⟨kI, (.n (-1))⟩]
def Φ_ab : Phi := ph [φ_bh]
def φ_ab := mir Φ_ab t_ab
def L_ab_0 (x0 : LL) (x1 x2 : Int) : Option Out :=
 let x3 := decide (x2 < x1)
 iteD x3 (
 rowD (.list x0) (.int .i64 x2) [.list, (.int .i64)] fun r4 =>
 let x4 := (getC r4 0).toList
 let x5 := (getC r4 1).toInt
 callD (φ_bh [C.list x4, C.int .i64 x5]) [.bool] fun r6 =>
 let x6 := (getC r6 0).toBool
 iteD x6 (
 upD <|
 some (.ret [C.int .i64 x2])) <|
 let x7 := IntKind.wrap .i64 (x2 + 1)
 some (.jump [C.int .i64 x7])) <|
 upD <|
 some (.ret [C.int .i64 (-1)])
def F_ab (x0 : LL) : Option Out :=
 let x1 : Int := x0.length
 iterD (fun ps => L_ab_0 x0 x1 ((getC ps 0).toInt)) [C.int .i64 0]
def t_aa : Tree :=
.call 0 [vL 0] [kI] <|
.letp .geI [vI 1, nI 0] <|
.ret [vB 2]
def Φ_aa : Phi := ph [φ_ab]
def φ_aa := mir Φ_aa t_aa
def F_aa (x0 : LL) : Option Out :=
 callD (φ_ab [C.list x0]) [(.int .i64)] fun r1 =>
 let x1 := (getC r1 0).toInt
 let x2 := decide (x1 >= 0)
 some (.ret [C.bool x2])
def t_ck : Tree :=
.letp .len [vL 0] <|
.letp .leI [vI 1, nI 6] <|
.ite (.v 2) (
 .call 0 [vL 0] [.bool] <|
 .letp .not [vB 3] <|
 .ret [vB 4]) <|
.ret [⟨.bool, (.b false)⟩]
def Φ_ck : Phi := ph [φ_aa]
def φ_ck := mir Φ_ck t_ck
def F_ck (x0 : LL) : Option Out :=
 let x1 : Int := x0.length
 let x2 := decide (x1 <= 6)
 iteD x2 (
 callD (φ_aa [C.list x0]) [.bool] fun r3 =>
 let x3 := (getC r3 0).toBool
 let x4 := (!x3)
 some (.ret [C.bool x4])) <|
 some (.ret [C.bool false])
def t_cr : Tree :=
.letp .len [vL 0] <|
.call 0 [vI 1, nI 1, vI 2] [.bool] <|
.letp .not [vB 3] <|
.ite (.v 4) (
 .ret [nI 0]) <|
.letp (.sub .i64) [vI 1, nI 1] <|
.row (.v 0) (.v 5) [.list, kI] <|
.ret [vI 7]
def Φ_cr : Phi := ph [φ_ec]
def φ_cr := mir Φ_cr t_cr
def F_cr (x0 : LL) (x1 : Int) : Option Out :=
 let x2 : Int := x0.length
 callD (φ_ec [C.int .i64 x1, C.int .i64 1, C.int .i64 x2]) [.bool] fun r3 =>
 let x3 := (getC r3 0).toBool
 let x4 := (!x3)
 iteD x4 (
 some (.ret [C.int .i64 0])) <|
 let x5 := IntKind.wrap .i64 (x1 - 1)
 rowD (.list x0) (.int .i64 x5) [.list, (.int .i64)] fun r6 =>
 let x6 := (getC r6 0).toList
 let x7 := (getC r6 1).toInt
 some (.ret [C.int .i64 x7])
def t_bt : Tree :=
.call 0 [vL 0] [.bool] <|
.letp .not [vB 4] <|
.ite (.v 5) (
 .ret [⟨.bool, (.b false)⟩]) <|
.call 1 [vI 1, vI 2, vL 3] [.bool] <|
.letp .not [vB 6] <|
.ite (.v 7) (
 .ret [⟨.bool, (.b false)⟩]) <|
.call 2 [vL 0, vI 2] [kI] <|
.letp .eqI [vI 1, nI 4] <|
.ite (.v 9) (
 .letp .len [vL 0] <|
 .letp (.add .i64) [vI 10, nI 1] <|
 .letp .eqI [vI 2, vI 11] <|
 .ret [vB 12]) <|
.letp .eqI [vI 1, nI 5] <|
.ite (.v 10) (
 .letp .eqI [vI 8, nI 1] <|
 .ret [vB 11]) <|
.letp .eqI [vI 1, nI 6] <|
.ite (.v 11) (
 .letp .eqI [vI 8, nI 1] <|
 .ret [vB 12]) <|
.letp .eqI [vI 1, nI 7] <|
.ite (.v 12) (
 .letp .eqI [vI 8, nI 2] <|
 .ite (.v 13) (
 .ret [⟨.bool, (.b true)⟩]) <|
 .letp .eqI [vI 8, nI 3] <|
 .ret [vB 14]) <|
.ret [⟨.bool, (.b false)⟩]
def Φ_bt : Phi := ph [φ_ck, φ_dy, φ_cr]
def φ_bt := mir Φ_bt t_bt
def F_bt (x0 : LL) (x1 x2 : Int) (x3 : LL) : Option Out :=
 callD (φ_ck [C.list x0]) [.bool] fun r4 =>
 let x4 := (getC r4 0).toBool
 let x5 := (!x4)
 iteD x5 (
 some (.ret [C.bool false])) <|
 callD (φ_dy [C.int .i64 x1, C.int .i64 x2, C.list x3]) [.bool] fun r6 =>
 let x6 := (getC r6 0).toBool
 let x7 := (!x6)
 iteD x7 (
 some (.ret [C.bool false])) <|
 callD (φ_cr [C.list x0, C.int .i64 x2]) [(.int .i64)] fun r8 =>
 let x8 := (getC r8 0).toInt
 let x9 := (x1 == 4)
 iteD x9 (
 let x10 : Int := x0.length
 let x11 := IntKind.wrap .i64 (x10 + 1)
 let x12 := (x2 == x11)
 some (.ret [C.bool x12])) <|
 let x10 := (x1 == 5)
 iteD x10 (
 let x11 := (x8 == 1)
 some (.ret [C.bool x11])) <|
 let x11 := (x1 == 6)
 iteD x11 (
 let x12 := (x8 == 1)
 some (.ret [C.bool x12])) <|
 let x12 := (x1 == 7)
 iteD x12 (
 let x13 := (x8 == 2)
 iteD x13 (
 some (.ret [C.bool true])) <|
 let x14 := (x8 == 3)
 some (.ret [C.bool x14])) <|
 some (.ret [C.bool false])
def t_ap : Tree :=
.letp .isNil [vL 0] <|
.ite (.v 1) (
 .both (
 .ret [⟨.list, .e⟩]) <|
 .chk (.rowsk [kI]) [vL 0] <|
 .chk .fits [⟨.list, .e⟩, vL 0] <|
 .letp .app [⟨.list, .e⟩, vL 0] <|
 .ret [vL 2]) <|
.chk (.rowsk [kI]) [vL 0] <|
.chk .fits [⟨.list, .e⟩, vL 0] <|
.letp .app [⟨.list, .e⟩, vL 0] <|
.ret [vL 2]
def φ_ap := mir (ph []) t_ap
def F_ap (x0 : LL) : Option Out :=
 let x1 := x0.isEmpty
 iteD x1 (
 bothD (
 some (.ret [C.list ([] : LL)])) <|
 whenD ((x0.all (kindsB [(.int .i64)]))) <|
 whenD (decide (([] : LL).length + x0.length <= LMAX)) <|
 let x2 := (([] : LL) ++ x0)
 some (.ret [C.list x2])) <|
 whenD ((x0.all (kindsB [(.int .i64)]))) <|
 whenD (decide (([] : LL).length + x0.length <= LMAX)) <|
 let x2 := (([] : LL) ++ x0)
 some (.ret [C.list x2])
def t_cc : Tree :=
.call 0 [vL 0, vI 1, vI 2, vL 3] [.bool] <|
.letp .not [vB 4] <|
.ite (.v 5) (
 .ret [⟨.list, .e⟩, ⟨.bool, (.b false)⟩]) <|
.letp .len [vL 0] <|
.iter [nI 0, ⟨.list, .e⟩] <|
.letp .ltI [vI 7, vI 6] <|
.ite (.v 9) (
 .row (.v 0) (.v 7) [.list, kI] <|
 .call 1 [vL 10] [.list] <|
 .letp (.mkl 2) [vL 12, vI 11] <|
 .chk .fits [vL 8, vL 13] <|
 .letp .app [vL 8, vL 13] <|
 .letp (.add .i64) [vI 7, nI 1] <|
 .jump [vI 15, vL 14]) <|
.up <|
.letp .eqI [vI 1, nI 4] <|
.ite (.v 10) (
 .call 1 [vL 3] [.list] <|
 .letp (.mkl 2) [vL 11, nI 1] <|
 .chk .fits [vL 8, vL 12] <|
 .letp .app [vL 8, vL 12] <|
 .ret [vL 13, ⟨.bool, (.b true)⟩]) <|
.letp (.sub .i64) [vI 2, nI 1] <|
.chk .idx [vI 11, vL 8] <|
.letp .eqI [vI 1, nI 5] <|
.ite (.v 12) (
 .letp (.setr 1) [vL 8, vI 11, nI 2] <|
 .ret [vL 13, ⟨.bool, (.b true)⟩]) <|
.letp .eqI [vI 1, nI 6] <|
.ite (.v 13) (
 .letp (.setr 1) [vL 8, vI 11, nI 3] <|
 .ret [vL 14, ⟨.bool, (.b true)⟩]) <|
.row (.v 8) (.v 11) [.list, kI] <|
.letp .eqI [vI 15, nI 2] <|
.ite (.v 16) (
 .letp (.setr 1) [vL 8, vI 11, nI 4] <|
 .ret [vL 17, ⟨.bool, (.b true)⟩]) <|
.letp (.setr 1) [vL 8, vI 11, nI 5] <|
.ret [vL 17, ⟨.bool, (.b true)⟩]
def Φ_cc : Phi := ph [φ_bt, φ_ap]
def φ_cc := mir Φ_cc t_cc
def L_cc_0 (x0 : LL) (x1 x2 : Int) (x3 : LL) (x6 x7 : Int) (x8 : LL) : Option Out :=
 let x9 := decide (x7 < x6)
 iteD x9 (
 rowD (.list x0) (.int .i64 x7) [.list, (.int .i64)] fun r10 =>
 let x10 := (getC r10 0).toList
 let x11 := (getC r10 1).toInt
 callD (φ_ap [C.list x10]) [.list] fun r12 =>
 let x12 := (getC r12 0).toList
 let x13 := [[C.list x12, C.int .i64 x11]]
 whenD (decide (x8.length + x13.length <= LMAX)) <|
 let x14 := (x8 ++ x13)
 let x15 := IntKind.wrap .i64 (x7 + 1)
 some (.jump [C.int .i64 x15, C.list x14])) <|
 upD <|
 let x10 := (x1 == 4)
 iteD x10 (
 callD (φ_ap [C.list x3]) [.list] fun r11 =>
 let x11 := (getC r11 0).toList
 let x12 := [[C.list x11, C.int .i64 1]]
 whenD (decide (x8.length + x12.length <= LMAX)) <|
 let x13 := (x8 ++ x12)
 some (.ret [C.list x13, C.bool true])) <|
 let x11 := IntKind.wrap .i64 (x2 - 1)
 whenD ((decide ((0 : Int) <= x11) && decide (x11 < (x8.length : Nat)))) <|
 let x12 := (x1 == 5)
 iteD x12 (
 let x13 := (setRow 1 x8 (Int.toNat x11) [C.int .i64 2])
 some (.ret [C.list x13, C.bool true])) <|
 let x13 := (x1 == 6)
 iteD x13 (
 let x14 := (setRow 1 x8 (Int.toNat x11) [C.int .i64 3])
 some (.ret [C.list x14, C.bool true])) <|
 rowD (.list x8) (.int .i64 x11) [.list, (.int .i64)] fun r14 =>
 let x14 := (getC r14 0).toList
 let x15 := (getC r14 1).toInt
 let x16 := (x15 == 2)
 iteD x16 (
 let x17 := (setRow 1 x8 (Int.toNat x11) [C.int .i64 4])
 some (.ret [C.list x17, C.bool true])) <|
 let x17 := (setRow 1 x8 (Int.toNat x11) [C.int .i64 5])
 some (.ret [C.list x17, C.bool true])
def F_cc (x0 : LL) (x1 x2 : Int) (x3 : LL) : Option Out :=
 callD (φ_bt [C.list x0, C.int .i64 x1, C.int .i64 x2, C.list x3]) [.bool] fun r4 =>
 let x4 := (getC r4 0).toBool
 let x5 := (!x4)
 iteD x5 (
 some (.ret [C.list ([] : LL), C.bool false])) <|
 let x6 : Int := x0.length
 iterD (fun ps => L_cc_0 x0 x1 x2 x3 x6 ((getC ps 0).toInt) ((getC ps 1).toList)) [C.int .i64 0, C.list ([] : LL)]
def t_ca : Tree :=
.iter [⟨.list, .e⟩, ⟨.bool, (.b true)⟩, nI 0] <|
.ite (.v 2) (
 .letp .len [vL 0] <|
 .letp .ltI [vI 3, vI 4] <|
 .ite (.v 5) (
 .row (.v 0) (.v 3) [kI, kI, .list] <|
 .call 0 [vL 1, vI 6, vI 7, vL 8] [.list, .bool] <|
 .letp (.add .i64) [vI 3, nI 1] <|
 .jump [vL 9, vB 10, vI 11]) <|
 .up <|
 .ret [vL 1, vB 2]) <|
.up <|
.ret [vL 1, vB 2]
def Φ_ca : Phi := ph [φ_cc]
def φ_ca := mir Φ_ca t_ca
def L_ca_0 (x0 x1 : LL) (x2 : Bool) (x3 : Int) : Option Out :=
 iteD x2 (
 let x4 : Int := x0.length
 let x5 := decide (x3 < x4)
 iteD x5 (
 rowD (.list x0) (.int .i64 x3) [(.int .i64), (.int .i64), .list] fun r6 =>
 let x6 := (getC r6 0).toInt
 let x7 := (getC r6 1).toInt
 let x8 := (getC r6 2).toList
 callD (φ_cc [C.list x1, C.int .i64 x6, C.int .i64 x7, C.list x8]) [.list, .bool] fun r9 =>
 let x9 := (getC r9 0).toList
 let x10 := (getC r9 1).toBool
 let x11 := IntKind.wrap .i64 (x3 + 1)
 some (.jump [C.list x9, C.bool x10, C.int .i64 x11])) <|
 upD <|
 some (.ret [C.list x1, C.bool x2])) <|
 upD <|
 some (.ret [C.list x1, C.bool x2])
def F_ca (x0 : LL) : Option Out :=
 iterD (fun ps => L_ca_0 x0 ((getC ps 0).toList) ((getC ps 1).toBool) ((getC ps 2).toInt)) [C.list ([] : LL), C.bool true, C.int .i64 0]
def t_ci : Tree :=
.call 0 [vI 0, nI 1, nI 3] [.bool] <|
.ret [vB 1]
def Φ_ci : Phi := ph [φ_ec]
def φ_ci := mir Φ_ci t_ci
def F_ci (x0 : Int) : Option Out :=
 callD (φ_ec [C.int .i64 x0, C.int .i64 1, C.int .i64 3]) [.bool] fun r1 =>
 let x1 := (getC r1 0).toBool
 some (.ret [C.bool x1])
def t_db : Tree :=
.letp .eqI [vI 3, nI 0] <|
.letp .eqI [vI 0, nI 1] <|
.ite (.v 5) (
 .call 0 [vI 3, nI 1, nI 3] [.bool] <|
 .call 0 [vI 0, nI 1, nI 7] [.bool] <|
 .ite (.v 7) (
 .call 1 [vI 1] [.bool] <|
 .ite (.v 8) (
 .call 2 [vI 2] [.bool] <|
 .ite (.v 9) (
 .ret [vB 6]) <|
 .ret [⟨.bool, (.b false)⟩]) <|
 .ret [⟨.bool, (.b false)⟩]) <|
 .ret [⟨.bool, (.b false)⟩]) <|
.call 0 [vI 0, nI 1, nI 7] [.bool] <|
.ite (.v 6) (
 .call 1 [vI 1] [.bool] <|
 .ite (.v 7) (
 .call 2 [vI 2] [.bool] <|
 .ite (.v 8) (
 .ret [vB 4]) <|
 .ret [⟨.bool, (.b false)⟩]) <|
 .ret [⟨.bool, (.b false)⟩]) <|
.ret [⟨.bool, (.b false)⟩]
def Φ_db : Phi := ph [φ_ec, φ_ci, φ_cy]
def φ_db := mir Φ_db t_db
def F_db (x0 x1 : Int) (x2 x3 : Int) : Option Out :=
 let x4 := (x3 == 0)
 let x5 := (x0 == 1)
 iteD x5 (
 callD (φ_ec [C.int .i64 x3, C.int .i64 1, C.int .i64 3]) [.bool] fun r6 =>
 let x6 := (getC r6 0).toBool
 callD (φ_ec [C.int .i64 x0, C.int .i64 1, C.int .i64 7]) [.bool] fun r7 =>
 let x7 := (getC r7 0).toBool
 iteD x7 (
 callD (φ_ci [C.int .i64 x1]) [.bool] fun r8 =>
 let x8 := (getC r8 0).toBool
 iteD x8 (
 callD (φ_cy [C.int .i64 x2]) [.bool] fun r9 =>
 let x9 := (getC r9 0).toBool
 iteD x9 (
 some (.ret [C.bool x6])) <|
 some (.ret [C.bool false])) <|
 some (.ret [C.bool false])) <|
 some (.ret [C.bool false])) <|
 callD (φ_ec [C.int .i64 x0, C.int .i64 1, C.int .i64 7]) [.bool] fun r6 =>
 let x6 := (getC r6 0).toBool
 iteD x6 (
 callD (φ_ci [C.int .i64 x1]) [.bool] fun r7 =>
 let x7 := (getC r7 0).toBool
 iteD x7 (
 callD (φ_cy [C.int .i64 x2]) [.bool] fun r8 =>
 let x8 := (getC r8 0).toBool
 iteD x8 (
 some (.ret [C.bool x4])) <|
 some (.ret [C.bool false])) <|
 some (.ret [C.bool false])) <|
 some (.ret [C.bool false])
def t_ao : Tree :=
.letp .geI [vI 0, nI 4] <|
.ret [vB 4]
def φ_ao := mir (ph []) t_ao
def F_ao (x0 x1 : Int) (x2 x3 : Int) : Option Out :=
 let x4 := decide (x0 >= 4)
 some (.ret [C.bool x4])
def t_ak : Tree :=
.letp .len [vL 0] <|
.iter [nI 0] <|
.letp .ltI [vI 6, vI 5] <|
.ite (.v 7) (
 .row (.v 0) (.v 6) [kI, kI, kI, kI] <|
 .letp (.eqs 4) [vI 1, vI 2, vI 3, vI 4, vI 8, vI 9, vI 10, vI 11] <|
 .ite (.v 12) (
 .up <|
 .ret [vI 6]) <|
 .letp (.add .i64) [vI 6, nI 1] <|
 .jump [vI 13]) <|
.up <|
.ret [⟨kI, (.n (-1))⟩]
def φ_ak := mir (ph []) t_ak
def L_ak_0 (x0 : LL) (x1 x2 : Int) (x3 x4 : Int) (x5 x6 : Int) : Option Out :=
 let x7 := decide (x6 < x5)
 iteD x7 (
 rowD (.list x0) (.int .i64 x6) [(.int .i64), (.int .i64), (.int .i64), (.int .i64)] fun r8 =>
 let x8 := (getC r8 0).toInt
 let x9 := (getC r8 1).toInt
 let x10 := (getC r8 2).toInt
 let x11 := (getC r8 3).toInt
 let x12 := ([x1, x2, x3, x4] == ([x8, x9, x10, x11] : List Int))
 iteD x12 (
 upD <|
 some (.ret [C.int .i64 x6])) <|
 let x13 := IntKind.wrap .i64 (x6 + 1)
 some (.jump [C.int .i64 x13])) <|
 upD <|
 some (.ret [C.int .i64 (-1)])
def F_ak (x0 : LL) (x1 x2 : Int) (x3 x4 : Int) : Option Out :=
 let x5 : Int := x0.length
 iterD (fun ps => L_ak_0 x0 x1 x2 x3 x4 x5 ((getC ps 0).toInt)) [C.int .i64 0]
def t_ai : Tree :=
.call 0 [vL 0, vI 1, vI 2, vI 3, vI 4] [kI] <|
.letp .geI [vI 5, nI 0] <|
.ret [vB 6]
def Φ_ai : Phi := ph [φ_ak]
def φ_ai := mir Φ_ai t_ai
def F_ai (x0 : LL) (x1 x2 : Int) (x3 x4 : Int) : Option Out :=
 callD (φ_ak [C.list x0, C.int .i64 x1, C.int .i64 x2, C.int .i64 x3, C.int .i64 x4]) [(.int .i64)] fun r5 =>
 let x5 := (getC r5 0).toInt
 let x6 := decide (x5 >= 0)
 some (.ret [C.bool x6])
def t_cz : Tree :=
.join [] (
 .call 0 [vL 1, vI 2] [.bool] <|
 .letp .not [vB 4] <|
 .ite (.v 5) (
 .up <|
 .ret [⟨.bool, (.b false)⟩]) <|
 .letp .not [vB 0] <|
 .ite (.v 6) (
 .letp .len [vL 3] <|
 .letp .gtI [vI 7, nI 0] <|
 .ite (.v 8) (
 .up <|
 .ret [⟨.bool, (.b false)⟩]) <|
 .jump []) <|
 .jump []) <|
.call 1 [vL 1] [.list, .bool] <|
.letp .len [vL 3] <|
.iter [nI 0] <|
.letp .ltI [vI 7, vI 6] <|
.ite (.v 8) (
 .row (.v 3) (.v 7) [kI, kI, kI, kI] <|
 .call 2 [vI 9, vI 10, vI 11, vI 12] [.bool] <|
 .letp .not [vB 13] <|
 .ite (.v 14) (
 .up <|
 .ret [⟨.bool, (.b false)⟩]) <|
 .call 3 [vI 9, vI 10, vI 11, vI 12] [.bool] <|
 .letp .not [vB 15] <|
 .ite (.v 16) (
 .up <|
 .ret [⟨.bool, (.b false)⟩]) <|
 .letp .len [vL 4] <|
 .letp .gtI [vI 11, vI 17] <|
 .ite (.v 18) (
 .up <|
 .ret [⟨.bool, (.b false)⟩]) <|
 .chk .upto [vI 7, vL 3] <|
 .letp .take [vL 3, vI 7] <|
 .call 4 [vL 19, vI 9, vI 10, vI 11, vI 12] [.bool] <|
 .ite (.v 20) (
 .up <|
 .ret [⟨.bool, (.b false)⟩]) <|
 .letp (.add .i64) [vI 7, nI 1] <|
 .jump [vI 21]) <|
.up <|
.ret [vB 5]
def Φ_cz : Phi := ph [φ_dp, φ_ca, φ_db, φ_ao, φ_ai]
def φ_cz := mir Φ_cz t_cz
def L_cz_0 (x3 x4 : LL) (x5 : Bool) (x6 x7 : Int) : Option Out :=
 let x8 := decide (x7 < x6)
 iteD x8 (
 rowD (.list x3) (.int .i64 x7) [(.int .i64), (.int .i64), (.int .i64), (.int .i64)] fun r9 =>
 let x9 := (getC r9 0).toInt
 let x10 := (getC r9 1).toInt
 let x11 := (getC r9 2).toInt
 let x12 := (getC r9 3).toInt
 callD (φ_db [C.int .i64 x9, C.int .i64 x10, C.int .i64 x11, C.int .i64 x12]) [.bool] fun r13 =>
 let x13 := (getC r13 0).toBool
 let x14 := (!x13)
 iteD x14 (
 upD <|
 some (.ret [C.bool false])) <|
 callD (φ_ao [C.int .i64 x9, C.int .i64 x10, C.int .i64 x11, C.int .i64 x12]) [.bool] fun r15 =>
 let x15 := (getC r15 0).toBool
 let x16 := (!x15)
 iteD x16 (
 upD <|
 some (.ret [C.bool false])) <|
 let x17 : Int := x4.length
 let x18 := decide (x11 > x17)
 iteD x18 (
 upD <|
 some (.ret [C.bool false])) <|
 whenD ((decide ((0 : Int) <= x7) && decide (x7 <= (x3.length : Nat)))) <|
 let x19 := (x3.take (Int.toNat x7))
 callD (φ_ai [C.list x19, C.int .i64 x9, C.int .i64 x10, C.int .i64 x11, C.int .i64 x12]) [.bool] fun r20 =>
 let x20 := (getC r20 0).toBool
 iteD x20 (
 upD <|
 some (.ret [C.bool false])) <|
 let x21 := IntKind.wrap .i64 (x7 + 1)
 some (.jump [C.int .i64 x21])) <|
 upD <|
 some (.ret [C.bool x5])
def J_cz_1 (x1 x3 : LL) : Option Out :=
 callD (φ_ca [C.list x1]) [.list, .bool] fun r4 =>
 let x4 := (getC r4 0).toList
 let x5 := (getC r4 1).toBool
 let x6 : Int := x3.length
 iterD (fun ps => L_cz_0 x3 x4 x5 x6 ((getC ps 0).toInt)) [C.int .i64 0]
def F_cz (x0 : Bool) (x1 : LL) (x2 : Int) (x3 : LL) : Option Out :=
 joinD (
 callD (φ_dp [C.list x1, C.int .i64 x2]) [.bool] fun r4 =>
 let x4 := (getC r4 0).toBool
 let x5 := (!x4)
 iteD x5 (
 upD <|
 some (.ret [C.bool false])) <|
 let x6 := (!x0)
 iteD x6 (
 let x7 : Int := x3.length
 let x8 := decide (x7 > 0)
 iteD x8 (
 upD <|
 some (.ret [C.bool false])) <|
 some (.jump [])) <|
 some (.jump [])) fun ps => J_cz_1 x1 x3
def t_at : Tree :=
.call 0 [vL 2] [.list] <|
.ret [vI 0, vI 1, vL 3]
def Φ_at : Phi := ph [φ_ap]
def φ_at := mir Φ_at t_at
def F_at (x0 x1 : Int) (x2 : LL) : Option Out :=
 callD (φ_ap [C.list x2]) [.list] fun r3 =>
 let x3 := (getC r3 0).toList
 some (.ret [C.int .i64 x0, C.int .i64 x1, C.list x3])
def t_bc : Tree :=
.chk .upto [vI 2, vL 0] <|
.letp .take [vL 0, vI 2] <|
.letp .len [vL 4] <|
.iter [nI 0, ⟨.list, .e⟩] <|
.letp .ltI [vI 6, vI 5] <|
.ite (.v 8) (
 .row (.v 4) (.v 6) [kI, kI, .list] <|
 .call 0 [vI 9, vI 10, vL 11] [kI, kI, .list] <|
 .letp (.mkl 3) [vI 12, vI 13, vL 14] <|
 .chk .fits [vL 7, vL 15] <|
 .letp .app [vL 7, vL 15] <|
 .letp (.add .i64) [vI 6, nI 1] <|
 .jump [vI 17, vL 16]) <|
.up <|
.ret [vL 7, vI 3]
def Φ_bc : Phi := ph [φ_at]
def φ_bc := mir Φ_bc t_bc
def L_bc_0 (x3 : Int) (x4 : LL) (x5 x6 : Int) (x7 : LL) : Option Out :=
 let x8 := decide (x6 < x5)
 iteD x8 (
 rowD (.list x4) (.int .i64 x6) [(.int .i64), (.int .i64), .list] fun r9 =>
 let x9 := (getC r9 0).toInt
 let x10 := (getC r9 1).toInt
 let x11 := (getC r9 2).toList
 callD (φ_at [C.int .i64 x9, C.int .i64 x10, C.list x11]) [(.int .i64), (.int .i64), .list] fun r12 =>
 let x12 := (getC r12 0).toInt
 let x13 := (getC r12 1).toInt
 let x14 := (getC r12 2).toList
 let x15 := [[C.int .i64 x12, C.int .i64 x13, C.list x14]]
 whenD (decide (x7.length + x15.length <= LMAX)) <|
 let x16 := (x7 ++ x15)
 let x17 := IntKind.wrap .i64 (x6 + 1)
 some (.jump [C.int .i64 x17, C.list x16])) <|
 upD <|
 some (.ret [C.list x7, C.int .i64 x3])
def F_bc (x0 : LL) (x1 x2 x3 : Int) : Option Out :=
 whenD ((decide ((0 : Int) <= x2) && decide (x2 <= (x0.length : Nat)))) <|
 let x4 := (x0.take (Int.toNat x2))
 let x5 : Int := x4.length
 iterD (fun ps => L_bc_0 x3 x4 x5 ((getC ps 0).toInt) ((getC ps 1).toList)) [C.int .i64 0, C.list ([] : LL)]
def t_av : Tree :=
.letp .len [vL 0] <|
.call 0 [vL 0, vI 1, vI 2, vI 1] [.list, kI] <|
.ret [vL 3, vI 4]
def Φ_av : Phi := ph [φ_bc]
def φ_av := mir Φ_av t_av
def F_av (x0 : LL) (x1 : Int) : Option Out :=
 let x2 : Int := x0.length
 callD (φ_bc [C.list x0, C.int .i64 x1, C.int .i64 x2, C.int .i64 x1]) [.list, (.int .i64)] fun r3 =>
 let x3 := (getC r3 0).toList
 let x4 := (getC r3 1).toInt
 some (.ret [C.list x3, C.int .i64 x4])
def t_aj : Tree :=
.letp .isNil [vL 0] <|
.ite (.v 1) (
 .both (
 .ret [⟨.list, .e⟩]) <|
 .chk (.rowsk [kI, kI, kI, kI]) [vL 0] <|
 .chk .fits [⟨.list, .e⟩, vL 0] <|
 .letp .app [⟨.list, .e⟩, vL 0] <|
 .ret [vL 2]) <|
.chk (.rowsk [kI, kI, kI, kI]) [vL 0] <|
.chk .fits [⟨.list, .e⟩, vL 0] <|
.letp .app [⟨.list, .e⟩, vL 0] <|
.ret [vL 2]
def φ_aj := mir (ph []) t_aj
def F_aj (x0 : LL) : Option Out :=
 let x1 := x0.isEmpty
 iteD x1 (
 bothD (
 some (.ret [C.list ([] : LL)])) <|
 whenD ((x0.all (kindsB [(.int .i64), (.int .i64), (.int .i64), (.int .i64)]))) <|
 whenD (decide (([] : LL).length + x0.length <= LMAX)) <|
 let x2 := (([] : LL) ++ x0)
 some (.ret [C.list x2])) <|
 whenD ((x0.all (kindsB [(.int .i64), (.int .i64), (.int .i64), (.int .i64)]))) <|
 whenD (decide (([] : LL).length + x0.length <= LMAX)) <|
 let x2 := (([] : LL) ++ x0)
 some (.ret [C.list x2])
def t_am : Tree :=
.call 0 [vL 1, vI 2] [.list, kI] <|
.call 1 [vL 3] [.list] <|
.ret [vB 0, vL 4, vI 5, vL 6]
def Φ_am : Phi := ph [φ_av, φ_aj]
def φ_am := mir Φ_am t_am
def F_am (x0 : Bool) (x1 : LL) (x2 : Int) (x3 : LL) : Option Out :=
 callD (φ_av [C.list x1, C.int .i64 x2]) [.list, (.int .i64)] fun r4 =>
 let x4 := (getC r4 0).toList
 let x5 := (getC r4 1).toInt
 callD (φ_aj [C.list x3]) [.list] fun r6 =>
 let x6 := (getC r6 0).toList
 some (.ret [C.bool x0, C.list x4, C.int .i64 x5, C.list x6])
def t_bb : Tree :=
.ite (.v 2) (
 .chk .upto [vI 1, vL 0] <|
 .letp .take [vL 0, vI 1] <|
 .ret [vL 3]) <|
.ret [vL 0]
def φ_bb := mir (ph []) t_bb
def F_bb (x0 : LL) (x1 : Int) (x2 : Bool) : Option Out :=
 iteD x2 (
 whenD ((decide ((0 : Int) <= x1) && decide (x1 <= (x0.length : Nat)))) <|
 let x3 := (x0.take (Int.toNat x1))
 some (.ret [C.list x3])) <|
 some (.ret [C.list x0])
def t_as : Tree :=
.call 0 [vL 1, vI 2, vB 4] [.list] <|
.call 1 [vL 5] [.list, .bool] <|
.ret [vL 6]
def Φ_as : Phi := ph [φ_bb, φ_ca]
def φ_as := mir Φ_as t_as
def F_as (x0 : Bool) (x1 : LL) (x2 : Int) (x3 : LL) (x4 : Bool) : Option Out :=
 callD (φ_bb [C.list x1, C.int .i64 x2, C.bool x4]) [.list] fun r5 =>
 let x5 := (getC r5 0).toList
 callD (φ_ca [C.list x5]) [.list, .bool] fun r6 =>
 let x6 := (getC r6 0).toList
 let x7 := (getC r6 1).toBool
 some (.ret [C.list x6])
def t_bg : Tree :=
.call 0 [vL 3, vI 4, vI 5, vI 6, nI 0] [.bool] <|
.ret [vB 7]
def Φ_bg : Phi := ph [φ_ai]
def φ_bg := mir Φ_bg t_bg
def F_bg (x0 : Bool) (x1 : LL) (x2 : Int) (x3 : LL) (x4 x5 x6 : Int) : Option Out :=
 callD (φ_ai [C.list x3, C.int .i64 x4, C.int .i64 x5, C.int .i64 x6, C.int .i64 0]) [.bool] fun r7 =>
 let x7 := (getC r7 0).toBool
 some (.ret [C.bool x7])
def t_au : Tree :=
.letp .len [vL 6] <|
.iter [⟨.bool, (.b false)⟩, ⟨.bool, (.b true)⟩, nI 0] <|
.letp .ltI [vI 10, vI 7] <|
.ite (.v 11) (
 .row (.v 6) (.v 10) [kI] <|
 .letp .eqI [vI 12, nI 0] <|
 .ite (.v 13) (
 .letp (.add .i64) [vI 10, nI 1] <|
 .jump [vB 8, vB 9, vI 14]) <|
 .letp (.add .i64) [vI 10, nI 1] <|
 .call 0 [vB 0, vL 1, vI 2, vL 3, vI 4, vI 14, vI 5] [.bool] <|
 .ite (.v 8) (
 .ite (.v 9) (
 .letp (.add .i64) [vI 10, nI 1] <|
 .jump [⟨.bool, (.b true)⟩, vB 15, vI 16]) <|
 .letp (.add .i64) [vI 10, nI 1] <|
 .jump [⟨.bool, (.b true)⟩, ⟨.bool, (.b false)⟩, vI 16]) <|
 .ite (.v 9) (
 .letp (.add .i64) [vI 10, nI 1] <|
 .jump [vB 15, vB 15, vI 16]) <|
 .letp (.add .i64) [vI 10, nI 1] <|
 .jump [vB 15, ⟨.bool, (.b false)⟩, vI 16]) <|
.up <|
.ret [vB 8, vB 9]
def Φ_au : Phi := ph [φ_bg]
def φ_au := mir Φ_au t_au
def L_au_0 (x0 : Bool) (x1 : LL) (x2 : Int) (x3 : LL) (x4 x5 : Int) (x6 : LL) (x7 : Int) (x8 x9 : Bool) (x10 : Int) : Option Out :=
 let x11 := decide (x10 < x7)
 iteD x11 (
 rowD (.list x6) (.int .i64 x10) [(.int .i64)] fun r12 =>
 let x12 := (getC r12 0).toInt
 let x13 := (x12 == 0)
 iteD x13 (
 let x14 := IntKind.wrap .i64 (x10 + 1)
 some (.jump [C.bool x8, C.bool x9, C.int .i64 x14])) <|
 let x14 := IntKind.wrap .i64 (x10 + 1)
 callD (φ_bg [C.bool x0, C.list x1, C.int .i64 x2, C.list x3, C.int .i64 x4, C.int .i64 x14, C.int .i64 x5]) [.bool] fun r15 =>
 let x15 := (getC r15 0).toBool
 iteD x8 (
 iteD x9 (
 let x16 := IntKind.wrap .i64 (x10 + 1)
 some (.jump [C.bool true, C.bool x15, C.int .i64 x16])) <|
 let x16 := IntKind.wrap .i64 (x10 + 1)
 some (.jump [C.bool true, C.bool false, C.int .i64 x16])) <|
 iteD x9 (
 let x16 := IntKind.wrap .i64 (x10 + 1)
 some (.jump [C.bool x15, C.bool x15, C.int .i64 x16])) <|
 let x16 := IntKind.wrap .i64 (x10 + 1)
 some (.jump [C.bool x15, C.bool false, C.int .i64 x16])) <|
 upD <|
 some (.ret [C.bool x8, C.bool x9])
def F_au (x0 : Bool) (x1 : LL) (x2 : Int) (x3 : LL) (x4 x5 : Int) (x6 : LL) : Option Out :=
 let x7 : Int := x6.length
 iterD (fun ps => L_au_0 x0 x1 x2 x3 x4 x5 x6 x7 ((getC ps 0).toBool) ((getC ps 1).toBool) ((getC ps 2).toInt)) [C.bool false, C.bool true, C.int .i64 0]
def t_dg : Tree :=
.call 0 [vL 0, vI 1] [.bool] <|
.letp .not [vB 5] <|
.ite (.v 6) (
 .ret [⟨.list, .e⟩, nI 0, ⟨.bool, (.b false)⟩]) <|
.call 1 [vI 2, vI 3, vL 4] [.bool] <|
.letp .not [vB 7] <|
.ite (.v 8) (
 .ret [⟨.list, .e⟩, nI 0, ⟨.bool, (.b false)⟩]) <|
.call 2 [vL 0, vI 1] [.list, kI] <|
.letp .len [vL 9] <|
.letp .eqI [vI 11, nI 40] <|
.ite (.v 12) (
 .ret [vL 9, vI 10, ⟨.bool, (.b false)⟩]) <|
.call 3 [vI 2, vI 3, vL 4] [kI, kI, .list] <|
.letp (.mkl 3) [vI 13, vI 14, vL 15] <|
.chk .fits [vL 9, vL 16] <|
.letp .app [vL 9, vL 16] <|
.ret [vL 17, vI 10, ⟨.bool, (.b true)⟩]
def Φ_dg : Phi := ph [φ_dp, φ_dy, φ_av, φ_at]
def φ_dg := mir Φ_dg t_dg
def F_dg (x0 : LL) (x1 x2 x3 : Int) (x4 : LL) : Option Out :=
 callD (φ_dp [C.list x0, C.int .i64 x1]) [.bool] fun r5 =>
 let x5 := (getC r5 0).toBool
 let x6 := (!x5)
 iteD x6 (
 some (.ret [C.list ([] : LL), C.int .i64 0, C.bool false])) <|
 callD (φ_dy [C.int .i64 x2, C.int .i64 x3, C.list x4]) [.bool] fun r7 =>
 let x7 := (getC r7 0).toBool
 let x8 := (!x7)
 iteD x8 (
 some (.ret [C.list ([] : LL), C.int .i64 0, C.bool false])) <|
 callD (φ_av [C.list x0, C.int .i64 x1]) [.list, (.int .i64)] fun r9 =>
 let x9 := (getC r9 0).toList
 let x10 := (getC r9 1).toInt
 let x11 : Int := x9.length
 let x12 := (x11 == 40)
 iteD x12 (
 some (.ret [C.list x9, C.int .i64 x10, C.bool false])) <|
 callD (φ_at [C.int .i64 x2, C.int .i64 x3, C.list x4]) [(.int .i64), (.int .i64), .list] fun r13 =>
 let x13 := (getC r13 0).toInt
 let x14 := (getC r13 1).toInt
 let x15 := (getC r13 2).toList
 let x16 := [[C.int .i64 x13, C.int .i64 x14, C.list x15]]
 whenD (decide (x9.length + x16.length <= LMAX)) <|
 let x17 := (x9 ++ x16)
 some (.ret [C.list x17, C.int .i64 x10, C.bool true])
def t_aw : Tree :=
.letp .not [vB 0] <|
.ite (.v 7) (
 .ret [⟨.bool, (.b false)⟩, vB 0, vL 1, vI 2, vL 3]) <|
.call 0 [vB 0, vL 1, vI 2, vL 3, ⟨.bool, (.b false)⟩] [.list] <|
.call 1 [vL 8, vI 4, vI 5, vL 6] [.bool] <|
.letp .not [vB 9] <|
.ite (.v 10) (
 .ret [⟨.bool, (.b false)⟩, vB 0, vL 1, vI 2, vL 3]) <|
.call 2 [vL 1, vI 2, vI 4, vI 5, vL 6] [.list, kI, .bool] <|
.ret [vB 13, vB 0, vL 11, vI 12, vL 3]
def Φ_aw : Phi := ph [φ_as, φ_bt, φ_dg]
def φ_aw := mir Φ_aw t_aw
def F_aw (x0 : Bool) (x1 : LL) (x2 : Int) (x3 : LL) (x4 x5 : Int) (x6 : LL) : Option Out :=
 let x7 := (!x0)
 iteD x7 (
 some (.ret [C.bool false, C.bool x0, C.list x1, C.int .i64 x2, C.list x3])) <|
 callD (φ_as [C.bool x0, C.list x1, C.int .i64 x2, C.list x3, C.bool false]) [.list] fun r8 =>
 let x8 := (getC r8 0).toList
 callD (φ_bt [C.list x8, C.int .i64 x4, C.int .i64 x5, C.list x6]) [.bool] fun r9 =>
 let x9 := (getC r9 0).toBool
 let x10 := (!x9)
 iteD x10 (
 some (.ret [C.bool false, C.bool x0, C.list x1, C.int .i64 x2, C.list x3])) <|
 callD (φ_dg [C.list x1, C.int .i64 x2, C.int .i64 x4, C.int .i64 x5, C.list x6]) [.list, (.int .i64), .bool] fun r11 =>
 let x11 := (getC r11 0).toList
 let x12 := (getC r11 1).toInt
 let x13 := (getC r11 2).toBool
 some (.ret [C.bool x13, C.bool x0, C.list x11, C.int .i64 x12, C.list x3])
def t_an : Tree :=
.call 0 [⟨.bool, (.v 0)⟩, ⟨.list, (.v 1)⟩, ⟨(.int .i64), (.v 2)⟩, ⟨.list, (.v 3)⟩, ⟨.bool, (.b false)⟩] [.list] <|
.letp (.sub .i64) [⟨(.int .i64), (.v 4)⟩, ⟨(.int .i64), (.n 1)⟩] <|
.row (.v 5) (.v 6) [.list, (.int .i64)] <|
.call 1 [⟨.bool, (.v 0)⟩, ⟨.list, (.v 1)⟩, ⟨(.int .i64), (.v 2)⟩, ⟨.list, (.v 3)⟩, ⟨(.int .i64), (.n 5)⟩, ⟨(.int .i64), (.v 4)⟩, ⟨.list, (.v 7)⟩] [.bool, .bool] <|
.call 1 [⟨.bool, (.v 0)⟩, ⟨.list, (.v 1)⟩, ⟨(.int .i64), (.v 2)⟩, ⟨.list, (.v 3)⟩, ⟨(.int .i64), (.n 4)⟩, ⟨(.int .i64), (.v 4)⟩, ⟨.list, (.v 7)⟩] [.bool, .bool] <|
.call 1 [⟨.bool, (.v 0)⟩, ⟨.list, (.v 1)⟩, ⟨(.int .i64), (.v 2)⟩, ⟨.list, (.v 3)⟩, ⟨(.int .i64), (.n 6)⟩, ⟨(.int .i64), (.v 4)⟩, ⟨.list, (.v 7)⟩] [.bool, .bool] <|
.call 1 [⟨.bool, (.v 0)⟩, ⟨.list, (.v 1)⟩, ⟨(.int .i64), (.v 2)⟩, ⟨.list, (.v 3)⟩, ⟨(.int .i64), (.n 7)⟩, ⟨(.int .i64), (.v 4)⟩, ⟨.list, (.v 7)⟩] [.bool, .bool] <|
.call 0 [⟨.bool, (.v 0)⟩, ⟨.list, (.v 1)⟩, ⟨(.int .i64), (.v 2)⟩, ⟨.list, (.v 3)⟩, ⟨.bool, (.b true)⟩] [.list] <|
.call 2 [⟨.list, (.v 17)⟩, ⟨(.int .i64), (.v 4)⟩] [(.int .i64)] <|
.letp .eqI [⟨(.int .i64), (.v 18)⟩, ⟨(.int .i64), (.v 8)⟩] <|
.join [.bool] (
 .letp .eqI [⟨(.int .i64), (.v 8)⟩, ⟨(.int .i64), (.n 1)⟩] <|
 .ite (.v 20) (
 .jump [⟨.bool, (.v 9)⟩]) <|
 .jump [⟨.bool, (.b false)⟩]) <|
.ite (.v 20) (
 .call 3 [⟨.bool, (.v 0)⟩, ⟨.list, (.v 1)⟩, ⟨(.int .i64), (.v 2)⟩, ⟨.list, (.v 3)⟩, ⟨(.int .i64), (.n 6)⟩, ⟨(.int .i64), (.v 4)⟩, ⟨.list, .e⟩] [.bool, .bool, .list, (.int .i64), .list] <|
 .ret [⟨.bool, (.v 22)⟩, ⟨.list, (.v 23)⟩, ⟨(.int .i64), (.v 24)⟩, ⟨.list, (.v 25)⟩]) <|
.join [.bool] (
 .letp .eqI [⟨(.int .i64), (.v 8)⟩, ⟨(.int .i64), (.n 1)⟩] <|
 .ite (.v 21) (
 .jump [⟨.bool, (.v 12)⟩]) <|
 .jump [⟨.bool, (.b false)⟩]) <|
.ite (.v 21) (
 .call 3 [⟨.bool, (.v 0)⟩, ⟨.list, (.v 1)⟩, ⟨(.int .i64), (.v 2)⟩, ⟨.list, (.v 3)⟩, ⟨(.int .i64), (.n 5)⟩, ⟨(.int .i64), (.v 4)⟩, ⟨.list, .e⟩] [.bool, .bool, .list, (.int .i64), .list] <|
 .ret [⟨.bool, (.v 23)⟩, ⟨.list, (.v 24)⟩, ⟨(.int .i64), (.v 25)⟩, ⟨.list, (.v 26)⟩]) <|
.letp .eqI [⟨(.int .i64), (.v 8)⟩, ⟨(.int .i64), (.n 2)⟩] <|
.ite (.v 22) (
 .ite (.v 19) (
 .ite (.v 14) (
 .call 3 [⟨.bool, (.v 0)⟩, ⟨.list, (.v 1)⟩, ⟨(.int .i64), (.v 2)⟩, ⟨.list, (.v 3)⟩, ⟨(.int .i64), (.n 7)⟩, ⟨(.int .i64), (.v 4)⟩, ⟨.list, .e⟩] [.bool, .bool, .list, (.int .i64), .list] <|
 .ret [⟨.bool, (.v 24)⟩, ⟨.list, (.v 25)⟩, ⟨(.int .i64), (.v 26)⟩, ⟨.list, (.v 27)⟩]) <|
 .letp .eqI [⟨(.int .i64), (.v 8)⟩, ⟨(.int .i64), (.n 3)⟩] <|
 .ite (.v 23) (
 .ite (.v 19) (
 .ite (.v 16) (
 .call 3 [⟨.bool, (.v 0)⟩, ⟨.list, (.v 1)⟩, ⟨(.int .i64), (.v 2)⟩, ⟨.list, (.v 3)⟩, ⟨(.int .i64), (.n 7)⟩, ⟨(.int .i64), (.v 4)⟩, ⟨.list, .e⟩] [.bool, .bool, .list, (.int .i64), .list] <|
 .ret [⟨.bool, (.v 25)⟩, ⟨.list, (.v 26)⟩, ⟨(.int .i64), (.v 27)⟩, ⟨.list, (.v 28)⟩]) <|
 .ret [⟨.bool, (.v 0)⟩, ⟨.list, (.v 1)⟩, ⟨(.int .i64), (.v 2)⟩, ⟨.list, (.v 3)⟩]) <|
 .ret [⟨.bool, (.v 0)⟩, ⟨.list, (.v 1)⟩, ⟨(.int .i64), (.v 2)⟩, ⟨.list, (.v 3)⟩]) <|
 .ret [⟨.bool, (.v 0)⟩, ⟨.list, (.v 1)⟩, ⟨(.int .i64), (.v 2)⟩, ⟨.list, (.v 3)⟩]) <|
 .letp .eqI [⟨(.int .i64), (.v 8)⟩, ⟨(.int .i64), (.n 3)⟩] <|
 .ite (.v 23) (
 .ite (.v 19) (
 .ite (.v 16) (
 .call 3 [⟨.bool, (.v 0)⟩, ⟨.list, (.v 1)⟩, ⟨(.int .i64), (.v 2)⟩, ⟨.list, (.v 3)⟩, ⟨(.int .i64), (.n 7)⟩, ⟨(.int .i64), (.v 4)⟩, ⟨.list, .e⟩] [.bool, .bool, .list, (.int .i64), .list] <|
 .ret [⟨.bool, (.v 25)⟩, ⟨.list, (.v 26)⟩, ⟨(.int .i64), (.v 27)⟩, ⟨.list, (.v 28)⟩]) <|
 .ret [⟨.bool, (.v 0)⟩, ⟨.list, (.v 1)⟩, ⟨(.int .i64), (.v 2)⟩, ⟨.list, (.v 3)⟩]) <|
 .ret [⟨.bool, (.v 0)⟩, ⟨.list, (.v 1)⟩, ⟨(.int .i64), (.v 2)⟩, ⟨.list, (.v 3)⟩]) <|
 .ret [⟨.bool, (.v 0)⟩, ⟨.list, (.v 1)⟩, ⟨(.int .i64), (.v 2)⟩, ⟨.list, (.v 3)⟩]) <|
.letp .eqI [⟨(.int .i64), (.v 8)⟩, ⟨(.int .i64), (.n 3)⟩] <|
.ite (.v 23) (
 .ite (.v 19) (
 .ite (.v 16) (
 .call 3 [⟨.bool, (.v 0)⟩, ⟨.list, (.v 1)⟩, ⟨(.int .i64), (.v 2)⟩, ⟨.list, (.v 3)⟩, ⟨(.int .i64), (.n 7)⟩, ⟨(.int .i64), (.v 4)⟩, ⟨.list, .e⟩] [.bool, .bool, .list, (.int .i64), .list] <|
 .ret [⟨.bool, (.v 25)⟩, ⟨.list, (.v 26)⟩, ⟨(.int .i64), (.v 27)⟩, ⟨.list, (.v 28)⟩]) <|
 .ret [⟨.bool, (.v 0)⟩, ⟨.list, (.v 1)⟩, ⟨(.int .i64), (.v 2)⟩, ⟨.list, (.v 3)⟩]) <|
 .ret [⟨.bool, (.v 0)⟩, ⟨.list, (.v 1)⟩, ⟨(.int .i64), (.v 2)⟩, ⟨.list, (.v 3)⟩]) <|
.ret [⟨.bool, (.v 0)⟩, ⟨.list, (.v 1)⟩, ⟨(.int .i64), (.v 2)⟩, ⟨.list, (.v 3)⟩]
def Φ_an : Phi := fun n => match n with
  | 0 => φ_as
  | 1 => φ_au
  | 2 => φ_cr
  | 3 => φ_aw
  | _ => fun _ => none
def φ_an (cs : List C) : Option (List C) := retOf (den Φ_an t_an cs)
def J_an_0 (x0 : Bool) (x1 : LL) (x2 : Int) (x3 : LL) (x4 x8 : Int) (x14 x16 : Bool) (x19 x21 : Bool) : Option Out :=
 iteD x21 (
 callD (φ_aw [C.bool x0, C.list x1, C.int .i64 x2, C.list x3, C.int .i64 5, C.int .i64 x4, C.list ([] : LL)]) [.bool, .bool, .list, (.int .i64), .list] fun r22 =>
 let x22 := (getC r22 0).toBool
 let x23 := (getC r22 1).toBool
 let x24 := (getC r22 2).toList
 let x25 := (getC r22 3).toInt
 let x26 := (getC r22 4).toList
 some (.ret [C.bool x23, C.list x24, C.int .i64 x25, C.list x26])) <|
 let x22 := (x8 == 2)
 iteD x22 (
 iteD x19 (
 iteD x14 (
 callD (φ_aw [C.bool x0, C.list x1, C.int .i64 x2, C.list x3, C.int .i64 7, C.int .i64 x4, C.list ([] : LL)]) [.bool, .bool, .list, (.int .i64), .list] fun r23 =>
 let x23 := (getC r23 0).toBool
 let x24 := (getC r23 1).toBool
 let x25 := (getC r23 2).toList
 let x26 := (getC r23 3).toInt
 let x27 := (getC r23 4).toList
 some (.ret [C.bool x24, C.list x25, C.int .i64 x26, C.list x27])) <|
 let x23 := (x8 == 3)
 iteD x23 (
 iteD x19 (
 iteD x16 (
 callD (φ_aw [C.bool x0, C.list x1, C.int .i64 x2, C.list x3, C.int .i64 7, C.int .i64 x4, C.list ([] : LL)]) [.bool, .bool, .list, (.int .i64), .list] fun r24 =>
 let x24 := (getC r24 0).toBool
 let x25 := (getC r24 1).toBool
 let x26 := (getC r24 2).toList
 let x27 := (getC r24 3).toInt
 let x28 := (getC r24 4).toList
 some (.ret [C.bool x25, C.list x26, C.int .i64 x27, C.list x28])) <|
 some (.ret [C.bool x0, C.list x1, C.int .i64 x2, C.list x3])) <|
 some (.ret [C.bool x0, C.list x1, C.int .i64 x2, C.list x3])) <|
 some (.ret [C.bool x0, C.list x1, C.int .i64 x2, C.list x3])) <|
 let x23 := (x8 == 3)
 iteD x23 (
 iteD x19 (
 iteD x16 (
 callD (φ_aw [C.bool x0, C.list x1, C.int .i64 x2, C.list x3, C.int .i64 7, C.int .i64 x4, C.list ([] : LL)]) [.bool, .bool, .list, (.int .i64), .list] fun r24 =>
 let x24 := (getC r24 0).toBool
 let x25 := (getC r24 1).toBool
 let x26 := (getC r24 2).toList
 let x27 := (getC r24 3).toInt
 let x28 := (getC r24 4).toList
 some (.ret [C.bool x25, C.list x26, C.int .i64 x27, C.list x28])) <|
 some (.ret [C.bool x0, C.list x1, C.int .i64 x2, C.list x3])) <|
 some (.ret [C.bool x0, C.list x1, C.int .i64 x2, C.list x3])) <|
 some (.ret [C.bool x0, C.list x1, C.int .i64 x2, C.list x3])) <|
 let x23 := (x8 == 3)
 iteD x23 (
 iteD x19 (
 iteD x16 (
 callD (φ_aw [C.bool x0, C.list x1, C.int .i64 x2, C.list x3, C.int .i64 7, C.int .i64 x4, C.list ([] : LL)]) [.bool, .bool, .list, (.int .i64), .list] fun r24 =>
 let x24 := (getC r24 0).toBool
 let x25 := (getC r24 1).toBool
 let x26 := (getC r24 2).toList
 let x27 := (getC r24 3).toInt
 let x28 := (getC r24 4).toList
 some (.ret [C.bool x25, C.list x26, C.int .i64 x27, C.list x28])) <|
 some (.ret [C.bool x0, C.list x1, C.int .i64 x2, C.list x3])) <|
 some (.ret [C.bool x0, C.list x1, C.int .i64 x2, C.list x3])) <|
 some (.ret [C.bool x0, C.list x1, C.int .i64 x2, C.list x3])
def J_an_1 (x0 : Bool) (x1 : LL) (x2 : Int) (x3 : LL) (x4 x8 : Int) (x12 x14 : Bool) (x16 x19 x20 : Bool) : Option Out :=
 iteD x20 (
 callD (φ_aw [C.bool x0, C.list x1, C.int .i64 x2, C.list x3, C.int .i64 6, C.int .i64 x4, C.list ([] : LL)]) [.bool, .bool, .list, (.int .i64), .list] fun r21 =>
 let x21 := (getC r21 0).toBool
 let x22 := (getC r21 1).toBool
 let x23 := (getC r21 2).toList
 let x24 := (getC r21 3).toInt
 let x25 := (getC r21 4).toList
 some (.ret [C.bool x22, C.list x23, C.int .i64 x24, C.list x25])) <|
 joinD (
 let x21 := (x8 == 1)
 iteD x21 (
 some (.jump [C.bool x12])) <|
 some (.jump [C.bool false])) fun ps => J_an_0 x0 x1 x2 x3 x4 x8 x14 x16 x19 ((getC ps 0).toBool)
def F_an (x0 : Bool) (x1 : LL) (x2 : Int) (x3 : LL) (x4 : Int) : Option Out :=
 callD (φ_as [C.bool x0, C.list x1, C.int .i64 x2, C.list x3, C.bool false]) [.list] fun r5 =>
 let x5 := (getC r5 0).toList
 let x6 := IntKind.wrap .i64 (x4 - 1)
 rowD (.list x5) (.int .i64 x6) [.list, (.int .i64)] fun r7 =>
 let x7 := (getC r7 0).toList
 let x8 := (getC r7 1).toInt
 callD (φ_au [C.bool x0, C.list x1, C.int .i64 x2, C.list x3, C.int .i64 5, C.int .i64 x4, C.list x7]) [.bool, .bool] fun r9 =>
 let x9 := (getC r9 0).toBool
 let x10 := (getC r9 1).toBool
 callD (φ_au [C.bool x0, C.list x1, C.int .i64 x2, C.list x3, C.int .i64 4, C.int .i64 x4, C.list x7]) [.bool, .bool] fun r11 =>
 let x11 := (getC r11 0).toBool
 let x12 := (getC r11 1).toBool
 callD (φ_au [C.bool x0, C.list x1, C.int .i64 x2, C.list x3, C.int .i64 6, C.int .i64 x4, C.list x7]) [.bool, .bool] fun r13 =>
 let x13 := (getC r13 0).toBool
 let x14 := (getC r13 1).toBool
 callD (φ_au [C.bool x0, C.list x1, C.int .i64 x2, C.list x3, C.int .i64 7, C.int .i64 x4, C.list x7]) [.bool, .bool] fun r15 =>
 let x15 := (getC r15 0).toBool
 let x16 := (getC r15 1).toBool
 callD (φ_as [C.bool x0, C.list x1, C.int .i64 x2, C.list x3, C.bool true]) [.list] fun r17 =>
 let x17 := (getC r17 0).toList
 callD (φ_cr [C.list x17, C.int .i64 x4]) [(.int .i64)] fun r18 =>
 let x18 := (getC r18 0).toInt
 let x19 := (x18 == x8)
 joinD (
 let x20 := (x8 == 1)
 iteD x20 (
 some (.jump [C.bool x9])) <|
 some (.jump [C.bool false])) fun ps => J_an_1 x0 x1 x2 x3 x4 x8 x12 x14 x16 x19 ((getC ps 0).toBool)
def t_ba : Tree :=
.letp .not [vB 0] <|
.ite (.v 8) (
 .ret [vB 0, vL 1, vI 2, vL 3]) <|
.call 0 [vI 4, vI 5, vI 6, vI 7] [.bool] <|
.letp .not [vB 9] <|
.ite (.v 10) (
 .ret [vB 0, vL 1, vI 2, vL 3]) <|
.call 1 [vI 4, vI 5, vI 6, vI 7] [.bool] <|
.letp .not [vB 11] <|
.ite (.v 12) (
 .ret [vB 0, vL 1, vI 2, vL 3]) <|
.call 2 [vB 0, vL 1, vI 2, vL 3, ⟨.bool, (.b false)⟩] [.list] <|
.letp .len [vL 13] <|
.letp .gtI [vI 6, vI 14] <|
.ite (.v 15) (
 .ret [vB 0, vL 1, vI 2, vL 3]) <|
.call 3 [vL 3, vI 4, vI 5, vI 6, vI 7] [.bool] <|
.letp .not [vB 16] <|
.ite (.v 17) (
 .letp (.mkl 4) [vI 4, vI 5, vI 6, vI 7] <|
 .chk .fits [vL 3, vL 18] <|
 .letp .app [vL 3, vL 18] <|
 .call 4 [vB 0, vL 1, vI 2, vL 19, vI 6] [.bool, .list, kI, .list] <|
 .ret [vB 20, vL 21, vI 22, vL 23]) <|
.call 4 [vB 0, vL 1, vI 2, vL 3, vI 6] [.bool, .list, kI, .list] <|
.ret [vB 18, vL 19, vI 20, vL 21]
def Φ_ba : Phi := ph [φ_db, φ_ao, φ_as, φ_ai, φ_an]
def φ_ba := mir Φ_ba t_ba
def F_ba (x0 : Bool) (x1 : LL) (x2 : Int) (x3 : LL) (x4 x5 : Int) (x6 x7 : Int) : Option Out :=
 let x8 := (!x0)
 iteD x8 (
 some (.ret [C.bool x0, C.list x1, C.int .i64 x2, C.list x3])) <|
 callD (φ_db [C.int .i64 x4, C.int .i64 x5, C.int .i64 x6, C.int .i64 x7]) [.bool] fun r9 =>
 let x9 := (getC r9 0).toBool
 let x10 := (!x9)
 iteD x10 (
 some (.ret [C.bool x0, C.list x1, C.int .i64 x2, C.list x3])) <|
 callD (φ_ao [C.int .i64 x4, C.int .i64 x5, C.int .i64 x6, C.int .i64 x7]) [.bool] fun r11 =>
 let x11 := (getC r11 0).toBool
 let x12 := (!x11)
 iteD x12 (
 some (.ret [C.bool x0, C.list x1, C.int .i64 x2, C.list x3])) <|
 callD (φ_as [C.bool x0, C.list x1, C.int .i64 x2, C.list x3, C.bool false]) [.list] fun r13 =>
 let x13 := (getC r13 0).toList
 let x14 : Int := x13.length
 let x15 := decide (x6 > x14)
 iteD x15 (
 some (.ret [C.bool x0, C.list x1, C.int .i64 x2, C.list x3])) <|
 callD (φ_ai [C.list x3, C.int .i64 x4, C.int .i64 x5, C.int .i64 x6, C.int .i64 x7]) [.bool] fun r16 =>
 let x16 := (getC r16 0).toBool
 let x17 := (!x16)
 iteD x17 (
 let x18 := [[C.int .i64 x4, C.int .i64 x5, C.int .i64 x6, C.int .i64 x7]]
 whenD (decide (x3.length + x18.length <= LMAX)) <|
 let x19 := (x3 ++ x18)
 callD (φ_an [C.bool x0, C.list x1, C.int .i64 x2, C.list x19, C.int .i64 x6]) [.bool, .list, (.int .i64), .list] fun r20 =>
 let x20 := (getC r20 0).toBool
 let x21 := (getC r20 1).toList
 let x22 := (getC r20 2).toInt
 let x23 := (getC r20 3).toList
 some (.ret [C.bool x20, C.list x21, C.int .i64 x22, C.list x23])) <|
 callD (φ_an [C.bool x0, C.list x1, C.int .i64 x2, C.list x3, C.int .i64 x6]) [.bool, .list, (.int .i64), .list] fun r18 =>
 let x18 := (getC r18 0).toBool
 let x19 := (getC r18 1).toList
 let x20 := (getC r18 2).toInt
 let x21 := (getC r18 3).toList
 some (.ret [C.bool x18, C.list x19, C.int .i64 x20, C.list x21])
def t_bs : Tree :=
.call 0 [vB 0, vL 1, vI 2, vL 3] [.bool] <|
.letp .not [vB 8] <|
.ite (.v 9) (
 .ret [⟨.bool, (.b false)⟩, ⟨.list, .e⟩, nI 0, ⟨.list, .e⟩]) <|
.call 1 [vB 0, vL 1, vI 2, vL 3] [.bool, .list, kI, .list] <|
.call 2 [vB 10, vL 11, vI 12, vL 13, vI 4, vI 5, vI 6, vI 7] [.bool, .list, kI, .list] <|
.ret [vB 14, vL 15, vI 16, vL 17]
def Φ_bs : Phi := ph [φ_cz, φ_am, φ_ba]
def φ_bs := mir Φ_bs t_bs
def F_bs (x0 : Bool) (x1 : LL) (x2 : Int) (x3 : LL) (x4 x5 : Int) (x6 x7 : Int) : Option Out :=
 callD (φ_cz [C.bool x0, C.list x1, C.int .i64 x2, C.list x3]) [.bool] fun r8 =>
 let x8 := (getC r8 0).toBool
 let x9 := (!x8)
 iteD x9 (
 some (.ret [C.bool false, C.list ([] : LL), C.int .i64 0, C.list ([] : LL)])) <|
 callD (φ_am [C.bool x0, C.list x1, C.int .i64 x2, C.list x3]) [.bool, .list, (.int .i64), .list] fun r10 =>
 let x10 := (getC r10 0).toBool
 let x11 := (getC r10 1).toList
 let x12 := (getC r10 2).toInt
 let x13 := (getC r10 3).toList
 callD (φ_ba [C.bool x10, C.list x11, C.int .i64 x12, C.list x13, C.int .i64 x4, C.int .i64 x5, C.int .i64 x6, C.int .i64 x7]) [.bool, .list, (.int .i64), .list] fun r14 =>
 let x14 := (getC r14 0).toBool
 let x15 := (getC r14 1).toList
 let x16 := (getC r14 2).toInt
 let x17 := (getC r14 3).toList
 some (.ret [C.bool x14, C.list x15, C.int .i64 x16, C.list x17])
def t_be : Tree :=
.chk (.rowsk [kI]) [vL 2] <|
.chk .fits [⟨.list, .e⟩, vL 2] <|
.letp .app [⟨.list, .e⟩, vL 2] <|
.ret [vI 0, vI 1, vL 3]
def φ_be := mir (ph []) t_be
def F_be (x0 x1 : Int) (x2 : LL) : Option Out :=
 whenD ((x2.all (kindsB [(.int .i64)]))) <|
 whenD (decide (([] : LL).length + x2.length <= LMAX)) <|
 let x3 := (([] : LL) ++ x2)
 some (.ret [C.int .i64 x0, C.int .i64 x1, C.list x3])
def t_dh : Tree :=
.iter [nI 0, ⟨.list, .e⟩] <|
.letp .len [vL 0] <|
.letp .ltI [vI 2, vI 4] <|
.ite (.v 5) (
 .row (.v 0) (.v 2) [kI, kI, .list] <|
 .call 0 [vI 6, vI 7, vL 8] [kI, kI, .list] <|
 .letp (.mkl 3) [vI 9, vI 10, vL 11] <|
 .chk .fits [vL 3, vL 12] <|
 .letp .app [vL 3, vL 12] <|
 .letp (.add .i64) [vI 2, nI 1] <|
 .jump [vI 14, vL 13]) <|
.up <|
.ret [vL 3, vI 1]
def Φ_dh : Phi := ph [φ_be]
def φ_dh := mir Φ_dh t_dh
def L_dh_0 (x0 : LL) (x1 x2 : Int) (x3 : LL) : Option Out :=
 let x4 : Int := x0.length
 let x5 := decide (x2 < x4)
 iteD x5 (
 rowD (.list x0) (.int .i64 x2) [(.int .i64), (.int .i64), .list] fun r6 =>
 let x6 := (getC r6 0).toInt
 let x7 := (getC r6 1).toInt
 let x8 := (getC r6 2).toList
 callD (φ_be [C.int .i64 x6, C.int .i64 x7, C.list x8]) [(.int .i64), (.int .i64), .list] fun r9 =>
 let x9 := (getC r9 0).toInt
 let x10 := (getC r9 1).toInt
 let x11 := (getC r9 2).toList
 let x12 := [[C.int .i64 x9, C.int .i64 x10, C.list x11]]
 whenD (decide (x3.length + x12.length <= LMAX)) <|
 let x13 := (x3 ++ x12)
 let x14 := IntKind.wrap .i64 (x2 + 1)
 some (.jump [C.int .i64 x14, C.list x13])) <|
 upD <|
 some (.ret [C.list x3, C.int .i64 x1])
def F_dh (x0 : LL) (x1 : Int) : Option Out :=
 iterD (fun ps => L_dh_0 x0 x1 ((getC ps 0).toInt) ((getC ps 1).toList)) [C.int .i64 0, C.list ([] : LL)]
def t_cm : Tree :=
.call 0 [vL 1, vI 2] [.list, kI] <|
.chk (.rowsk [kI, kI, kI, kI]) [vL 3] <|
.chk .fits [⟨.list, .e⟩, vL 3] <|
.letp .app [⟨.list, .e⟩, vL 3] <|
.ret [vB 0, vL 4, vI 5, vL 6]
def Φ_cm : Phi := ph [φ_dh]
def φ_cm := mir Φ_cm t_cm
def F_cm (x0 : Bool) (x1 : LL) (x2 : Int) (x3 : LL) : Option Out :=
 callD (φ_dh [C.list x1, C.int .i64 x2]) [.list, (.int .i64)] fun r4 =>
 let x4 := (getC r4 0).toList
 let x5 := (getC r4 1).toInt
 whenD ((x3.all (kindsB [(.int .i64), (.int .i64), (.int .i64), (.int .i64)]))) <|
 whenD (decide (([] : LL).length + x3.length <= LMAX)) <|
 let x6 := (([] : LL) ++ x3)
 some (.ret [C.bool x0, C.list x4, C.int .i64 x5, C.list x6])
def t_bx : Tree :=
.call 0 [vB 0, vL 1, vI 2, vL 3] [.bool] <|
.letp .not [vB 8] <|
.ite (.v 9) (
 .ret [⟨.bool, (.b false)⟩, ⟨.list, .e⟩, nI 0, ⟨.list, .e⟩]) <|
.call 1 [vB 0, vL 1, vI 2, vL 3] [.bool, .list, kI, .list] <|
.call 2 [vB 10, vL 11, vI 12, vL 13, vI 4, vI 5, vI 6, vI 7] [.bool, .list, kI, .list] <|
.ret [vB 14, vL 15, vI 16, vL 17]
def Φ_bx : Phi := ph [φ_ct, φ_cm, φ_by]
def φ_bx := mir Φ_bx t_bx
def F_bx (x0 : Bool) (x1 : LL) (x2 : Int) (x3 : LL) (x4 x5 : Int) (x6 x7 : Int) : Option Out :=
 callD (φ_ct [C.bool x0, C.list x1, C.int .i64 x2, C.list x3]) [.bool] fun r8 =>
 let x8 := (getC r8 0).toBool
 let x9 := (!x8)
 iteD x9 (
 some (.ret [C.bool false, C.list ([] : LL), C.int .i64 0, C.list ([] : LL)])) <|
 callD (φ_cm [C.bool x0, C.list x1, C.int .i64 x2, C.list x3]) [.bool, .list, (.int .i64), .list] fun r10 =>
 let x10 := (getC r10 0).toBool
 let x11 := (getC r10 1).toList
 let x12 := (getC r10 2).toInt
 let x13 := (getC r10 3).toList
 callD (φ_by [C.bool x10, C.list x11, C.int .i64 x12, C.list x13, C.int .i64 x4, C.int .i64 x5, C.int .i64 x6, C.int .i64 x7]) [.bool, .list, (.int .i64), .list] fun r14 =>
 let x14 := (getC r14 0).toBool
 let x15 := (getC r14 1).toList
 let x16 := (getC r14 2).toInt
 let x17 := (getC r14 3).toList
 some (.ret [C.bool x14, C.list x15, C.int .i64 x16, C.list x17])
def t_dk : Tree :=
.letp .len [vL 0] <|
.letp .len [vL 1] <|
.letp .neI [vI 2, vI 3] <|
.ite (.v 4) (
 .ret [⟨.bool, (.b false)⟩]) <|
.iter [nI 0] <|
.letp .len [vL 0] <|
.letp .ltI [vI 5, vI 6] <|
.ite (.v 7) (
 .row (.v 0) (.v 5) [kI] <|
 .row (.v 1) (.v 5) [kI] <|
 .letp .neI [vI 8, vI 9] <|
 .ite (.v 10) (
 .up <|
 .ret [⟨.bool, (.b false)⟩]) <|
 .letp (.add .i64) [vI 5, nI 1] <|
 .jump [vI 11]) <|
.up <|
.ret [⟨.bool, (.b true)⟩]
def φ_dk := mir (ph []) t_dk
def L_dk_0 (x0 x1 : LL) (x5 : Int) : Option Out :=
 let x6 : Int := x0.length
 let x7 := decide (x5 < x6)
 iteD x7 (
 rowD (.list x0) (.int .i64 x5) [(.int .i64)] fun r8 =>
 let x8 := (getC r8 0).toInt
 rowD (.list x1) (.int .i64 x5) [(.int .i64)] fun r9 =>
 let x9 := (getC r9 0).toInt
 let x10 := (x8 != x9)
 iteD x10 (
 upD <|
 some (.ret [C.bool false])) <|
 let x11 := IntKind.wrap .i64 (x5 + 1)
 some (.jump [C.int .i64 x11])) <|
 upD <|
 some (.ret [C.bool true])
def F_dk (x0 x1 : LL) : Option Out :=
 let x2 : Int := x0.length
 let x3 : Int := x1.length
 let x4 := (x2 != x3)
 iteD x4 (
 some (.ret [C.bool false])) <|
 iterD (fun ps => L_dk_0 x0 x1 ((getC ps 0).toInt)) [C.int .i64 0]
def t_dq : Tree :=
.letp .eqI [vI 0, vI 3] <|
.ite (.v 6) (
 .letp .eqI [vI 1, vI 4] <|
 .ite (.v 7) (
 .call 0 [vL 2, vL 5] [.bool] <|
 .ret [vB 8]) <|
 .ret [⟨.bool, (.b false)⟩]) <|
.ret [⟨.bool, (.b false)⟩]
def Φ_dq : Phi := ph [φ_dk]
def φ_dq := mir Φ_dq t_dq
def F_dq (x0 x1 : Int) (x2 : LL) (x3 x4 : Int) (x5 : LL) : Option Out :=
 let x6 := (x0 == x3)
 iteD x6 (
 let x7 := (x1 == x4)
 iteD x7 (
 callD (φ_dk [C.list x2, C.list x5]) [.bool] fun r8 =>
 let x8 := (getC r8 0).toBool
 some (.ret [C.bool x8])) <|
 some (.ret [C.bool false])) <|
 some (.ret [C.bool false])
def t_dn : Tree :=
.letp .len [vL 0] <|
.letp .len [vL 1] <|
.letp .neI [vI 2, vI 3] <|
.ite (.v 4) (
 .ret [⟨.bool, (.b false)⟩]) <|
.iter [nI 0] <|
.letp .len [vL 0] <|
.letp .ltI [vI 5, vI 6] <|
.ite (.v 7) (
 .row (.v 0) (.v 5) [kI, kI, .list] <|
 .row (.v 1) (.v 5) [kI, kI, .list] <|
 .call 0 [vI 8, vI 9, vL 10, vI 11, vI 12, vL 13] [.bool] <|
 .letp .not [vB 14] <|
 .ite (.v 15) (
 .up <|
 .ret [⟨.bool, (.b false)⟩]) <|
 .letp (.add .i64) [vI 5, nI 1] <|
 .jump [vI 16]) <|
.up <|
.ret [⟨.bool, (.b true)⟩]
def Φ_dn : Phi := ph [φ_dq]
def φ_dn := mir Φ_dn t_dn
def L_dn_0 (x0 x1 : LL) (x5 : Int) : Option Out :=
 let x6 : Int := x0.length
 let x7 := decide (x5 < x6)
 iteD x7 (
 rowD (.list x0) (.int .i64 x5) [(.int .i64), (.int .i64), .list] fun r8 =>
 let x8 := (getC r8 0).toInt
 let x9 := (getC r8 1).toInt
 let x10 := (getC r8 2).toList
 rowD (.list x1) (.int .i64 x5) [(.int .i64), (.int .i64), .list] fun r11 =>
 let x11 := (getC r11 0).toInt
 let x12 := (getC r11 1).toInt
 let x13 := (getC r11 2).toList
 callD (φ_dq [C.int .i64 x8, C.int .i64 x9, C.list x10, C.int .i64 x11, C.int .i64 x12, C.list x13]) [.bool] fun r14 =>
 let x14 := (getC r14 0).toBool
 let x15 := (!x14)
 iteD x15 (
 upD <|
 some (.ret [C.bool false])) <|
 let x16 := IntKind.wrap .i64 (x5 + 1)
 some (.jump [C.int .i64 x16])) <|
 upD <|
 some (.ret [C.bool true])
def F_dn (x0 x1 : LL) : Option Out :=
 let x2 : Int := x0.length
 let x3 : Int := x1.length
 let x4 := (x2 != x3)
 iteD x4 (
 some (.ret [C.bool false])) <|
 iterD (fun ps => L_dn_0 x0 x1 ((getC ps 0).toInt)) [C.int .i64 0]
def t_dz : Tree :=
.letp .eqI [vI 1, vI 3] <|
.ite (.v 4) (
 .call 0 [vL 0, vL 2] [.bool] <|
 .ret [vB 5]) <|
.ret [⟨.bool, (.b false)⟩]
def Φ_dz : Phi := ph [φ_dn]
def φ_dz := mir Φ_dz t_dz
def F_dz (x0 : LL) (x1 : Int) (x2 : LL) (x3 : Int) : Option Out :=
 let x4 := (x1 == x3)
 iteD x4 (
 callD (φ_dn [C.list x0, C.list x2]) [.bool] fun r5 =>
 let x5 := (getC r5 0).toBool
 some (.ret [C.bool x5])) <|
 some (.ret [C.bool false])
def t_ch : Tree :=
.letp .len [vL 0] <|
.letp .len [vL 1] <|
.letp .neI [vI 2, vI 3] <|
.ite (.v 4) (
 .ret [⟨.bool, (.b false)⟩]) <|
.iter [nI 0] <|
.letp .len [vL 0] <|
.letp .ltI [vI 5, vI 6] <|
.ite (.v 7) (
 .row (.v 0) (.v 5) [kI, kI, kI, kI] <|
 .row (.v 1) (.v 5) [kI, kI, kI, kI] <|
 .letp (.nes 4) [vI 8, vI 9, vI 10, vI 11, vI 12, vI 13, vI 14, vI 15] <|
 .ite (.v 16) (
 .up <|
 .ret [⟨.bool, (.b false)⟩]) <|
 .letp (.add .i64) [vI 5, nI 1] <|
 .jump [vI 17]) <|
.up <|
.ret [⟨.bool, (.b true)⟩]
def φ_ch := mir (ph []) t_ch
def L_ch_0 (x0 x1 : LL) (x5 : Int) : Option Out :=
 let x6 : Int := x0.length
 let x7 := decide (x5 < x6)
 iteD x7 (
 rowD (.list x0) (.int .i64 x5) [(.int .i64), (.int .i64), (.int .i64), (.int .i64)] fun r8 =>
 let x8 := (getC r8 0).toInt
 let x9 := (getC r8 1).toInt
 let x10 := (getC r8 2).toInt
 let x11 := (getC r8 3).toInt
 rowD (.list x1) (.int .i64 x5) [(.int .i64), (.int .i64), (.int .i64), (.int .i64)] fun r12 =>
 let x12 := (getC r12 0).toInt
 let x13 := (getC r12 1).toInt
 let x14 := (getC r12 2).toInt
 let x15 := (getC r12 3).toInt
 let x16 := (!([x8, x9, x10, x11] == ([x12, x13, x14, x15] : List Int)))
 iteD x16 (
 upD <|
 some (.ret [C.bool false])) <|
 let x17 := IntKind.wrap .i64 (x5 + 1)
 some (.jump [C.int .i64 x17])) <|
 upD <|
 some (.ret [C.bool true])
def F_ch (x0 x1 : LL) : Option Out :=
 let x2 : Int := x0.length
 let x3 : Int := x1.length
 let x4 := (x2 != x3)
 iteD x4 (
 some (.ret [C.bool false])) <|
 iterD (fun ps => L_ch_0 x0 x1 ((getC ps 0).toInt)) [C.int .i64 0]
def t_cx : Tree :=
.letp .eqB [vB 0, vB 4] <|
.ite (.v 8) (
 .call 0 [vL 1, vI 2, vL 5, vI 6] [.bool] <|
 .ite (.v 9) (
 .call 1 [vL 3, vL 7] [.bool] <|
 .ret [vB 10]) <|
 .ret [⟨.bool, (.b false)⟩]) <|
.ret [⟨.bool, (.b false)⟩]
def Φ_cx : Phi := ph [φ_dz, φ_ch]
def φ_cx := mir Φ_cx t_cx
def F_cx (x0 : Bool) (x1 : LL) (x2 : Int) (x3 : LL) (x4 : Bool) (x5 : LL) (x6 : Int) (x7 : LL) : Option Out :=
 let x8 := (x0 == x4)
 iteD x8 (
 callD (φ_dz [C.list x1, C.int .i64 x2, C.list x5, C.int .i64 x6]) [.bool] fun r9 =>
 let x9 := (getC r9 0).toBool
 iteD x9 (
 callD (φ_ch [C.list x3, C.list x7]) [.bool] fun r10 =>
 let x10 := (getC r10 0).toBool
 some (.ret [C.bool x10])) <|
 some (.ret [C.bool false])) <|
 some (.ret [C.bool false])
def t_bf : Tree :=
.call 0 [vB 0, vL 1, vI 2, vL 3] [.bool] <|
.letp .not [vB 5] <|
.ite (.v 6) (
 .ret [⟨.list, .e⟩]) <|
.call 1 [vB 0, vL 1, vI 2, vL 3, vB 4] [.list] <|
.ret [vL 7]
def Φ_bf : Phi := ph [φ_cz, φ_as]
def φ_bf := mir Φ_bf t_bf
def F_bf (x0 : Bool) (x1 : LL) (x2 : Int) (x3 : LL) (x4 : Bool) : Option Out :=
 callD (φ_cz [C.bool x0, C.list x1, C.int .i64 x2, C.list x3]) [.bool] fun r5 =>
 let x5 := (getC r5 0).toBool
 let x6 := (!x5)
 iteD x6 (
 some (.ret [C.list ([] : LL)])) <|
 callD (φ_as [C.bool x0, C.list x1, C.int .i64 x2, C.list x3, C.bool x4]) [.list] fun r7 =>
 let x7 := (getC r7 0).toList
 some (.ret [C.list x7])
def t_di : Tree :=
.iter [nI 0] <|
.letp .len [vL 0] <|
.letp .ltI [vI 5, vI 6] <|
.ite (.v 7) (
 .row (.v 0) (.v 5) [kI, kI, kI, kI] <|
 .letp (.eqs 4) [vI 8, vI 9, vI 10, vI 11, vI 1, vI 2, vI 3, vI 4] <|
 .ite (.v 12) (
 .up <|
 .ret [⟨.bool, (.b true)⟩]) <|
 .letp (.add .i64) [vI 5, nI 1] <|
 .jump [vI 13]) <|
.up <|
.ret [⟨.bool, (.b false)⟩]
def φ_di := mir (ph []) t_di
def L_di_0 (x0 : LL) (x1 x2 : Int) (x3 x4 x5 : Int) : Option Out :=
 let x6 : Int := x0.length
 let x7 := decide (x5 < x6)
 iteD x7 (
 rowD (.list x0) (.int .i64 x5) [(.int .i64), (.int .i64), (.int .i64), (.int .i64)] fun r8 =>
 let x8 := (getC r8 0).toInt
 let x9 := (getC r8 1).toInt
 let x10 := (getC r8 2).toInt
 let x11 := (getC r8 3).toInt
 let x12 := ([x8, x9, x10, x11] == ([x1, x2, x3, x4] : List Int))
 iteD x12 (
 upD <|
 some (.ret [C.bool true])) <|
 let x13 := IntKind.wrap .i64 (x5 + 1)
 some (.jump [C.int .i64 x13])) <|
 upD <|
 some (.ret [C.bool false])
def F_di (x0 : LL) (x1 x2 : Int) (x3 x4 : Int) : Option Out :=
 iterD (fun ps => L_di_0 x0 x1 x2 x3 x4 ((getC ps 0).toInt)) [C.int .i64 0]
def t_dv : Tree :=
.iter [nI 0] <|
.letp .len [vL 2] <|
.letp .ltI [vI 4, vI 5] <|
.ite (.v 6) (
 .row (.v 2) (.v 4) [kI] <|
 .letp .gtI [vI 7, nI 0] <|
 .ite (.v 8) (
 .letp (.add .i64) [vI 4, nI 1] <|
 .call 0 [vL 0, vI 3, vI 9, vI 1, nI 0] [.bool] <|
 .letp .not [vB 10] <|
 .ite (.v 11) (
 .up <|
 .ret [⟨.bool, (.b false)⟩]) <|
 .letp (.add .i64) [vI 4, nI 1] <|
 .jump [vI 12]) <|
 .letp (.add .i64) [vI 4, nI 1] <|
 .jump [vI 9]) <|
.up <|
.ret [⟨.bool, (.b true)⟩]
def Φ_dv : Phi := ph [φ_di]
def φ_dv := mir Φ_dv t_dv
def L_dv_0 (x0 : LL) (x1 : Int) (x2 : LL) (x3 x4 : Int) : Option Out :=
 let x5 : Int := x2.length
 let x6 := decide (x4 < x5)
 iteD x6 (
 rowD (.list x2) (.int .i64 x4) [(.int .i64)] fun r7 =>
 let x7 := (getC r7 0).toInt
 let x8 := decide (x7 > 0)
 iteD x8 (
 let x9 := IntKind.wrap .i64 (x4 + 1)
 callD (φ_di [C.list x0, C.int .i64 x3, C.int .i64 x9, C.int .i64 x1, C.int .i64 0]) [.bool] fun r10 =>
 let x10 := (getC r10 0).toBool
 let x11 := (!x10)
 iteD x11 (
 upD <|
 some (.ret [C.bool false])) <|
 let x12 := IntKind.wrap .i64 (x4 + 1)
 some (.jump [C.int .i64 x12])) <|
 let x9 := IntKind.wrap .i64 (x4 + 1)
 some (.jump [C.int .i64 x9])) <|
 upD <|
 some (.ret [C.bool true])
def F_dv (x0 : LL) (x1 : Int) (x2 : LL) (x3 : Int) : Option Out :=
 iterD (fun ps => L_dv_0 x0 x1 x2 x3 ((getC ps 0).toInt)) [C.int .i64 0]
end
end Dx
