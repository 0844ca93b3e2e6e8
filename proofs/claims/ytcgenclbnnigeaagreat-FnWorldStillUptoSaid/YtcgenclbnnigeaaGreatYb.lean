/- More of them. -/
import Derived.Test.YtcgenclbnnigeaaGreatYa
set_option linter.all false
set_option linter.unusedVariables false
set_option linter.unusedSimpArgs false
set_option linter.unnecessarySimpa false
namespace Dx
open Go
noncomputable section
def L_es_0 (x0 x1 : LL) (x2 : Bool) (x3 : Int) : Option Out :=
 iteD x2 (
 let x4 : Int := x0.length
 let x5 := decide (x3 < x4)
 iteD x5 (
 rowD (.list x0) (.int .i64 x3) [(.int .i64), (.int .i64), .list] fun r6 =>
 let x6 := (getC r6 0).toInt
 let x7 := (getC r6 1).toInt
 let x8 := (getC r6 2).toList
 callD (φ_et [C.list x1, C.int .i64 x6, C.int .i64 x7, C.list x8]) [.list, .bool] fun r9 =>
 let x9 := (getC r9 0).toList
 let x10 := (getC r9 1).toBool
 let x11 := IntKind.wrap .i64 (x3 + 1)
 some (.jump [C.list x9, C.bool x10, C.int .i64 x11])) <|
 upD <|
 some (.ret [C.list x1, C.bool x2])) <|
 upD <|
 some (.ret [C.list x1, C.bool x2])
def F_es (x0 : LL) : Option Out :=
 iterD (fun ps => L_es_0 x0 ((getC ps 0).toList) ((getC ps 1).toBool) ((getC ps 2).toInt)) [C.list ([] : LL), C.bool true, C.int .i64 0]
def t_fd : Tree :=
.letp .eqI [vI 3, nI 0] <|
.letp .eqI [vI 0, nI 1] <|
.ite (.v 5) (
 .call 0 [vI 3, nI 1, nI 3] [.bool] <|
 .call 0 [vI 0, nI 1, nI 7] [.bool] <|
 .ite (.v 7) (
 .call 1 [vI 1] [.bool] <|
 .ite (.v 8) (
 .call 2 [vI 2] [.bool] <|
 .ite (.v 9) (
 .ret [vB 6]) <|
 .ret [⟨.bool, (.b false)⟩]) <|
 .ret [⟨.bool, (.b false)⟩]) <|
 .ret [⟨.bool, (.b false)⟩]) <|
.call 0 [vI 0, nI 1, nI 7] [.bool] <|
.ite (.v 6) (
 .call 1 [vI 1] [.bool] <|
 .ite (.v 7) (
 .call 2 [vI 2] [.bool] <|
 .ite (.v 8) (
 .ret [vB 4]) <|
 .ret [⟨.bool, (.b false)⟩]) <|
 .ret [⟨.bool, (.b false)⟩]) <|
.ret [⟨.bool, (.b false)⟩]
def Φ_fd : Phi := ph [φ_gd, φ_ec, φ_fl]
def φ_fd := mir Φ_fd t_fd
def F_fd (x0 x1 : Int) (x2 x3 : Int) : Option Out :=
 let x4 := (x3 == 0)
 let x5 := (x0 == 1)
 iteD x5 (
 callD (φ_gd [C.int .i64 x3, C.int .i64 1, C.int .i64 3]) [.bool] fun r6 =>
 let x6 := (getC r6 0).toBool
 callD (φ_gd [C.int .i64 x0, C.int .i64 1, C.int .i64 7]) [.bool] fun r7 =>
 let x7 := (getC r7 0).toBool
 iteD x7 (
 callD (φ_ec [C.int .i64 x1]) [.bool] fun r8 =>
 let x8 := (getC r8 0).toBool
 iteD x8 (
 callD (φ_fl [C.int .i64 x2]) [.bool] fun r9 =>
 let x9 := (getC r9 0).toBool
 iteD x9 (
 some (.ret [C.bool x6])) <|
 some (.ret [C.bool false])) <|
 some (.ret [C.bool false])) <|
 some (.ret [C.bool false])) <|
 callD (φ_gd [C.int .i64 x0, C.int .i64 1, C.int .i64 7]) [.bool] fun r6 =>
 let x6 := (getC r6 0).toBool
 iteD x6 (
 callD (φ_ec [C.int .i64 x1]) [.bool] fun r7 =>
 let x7 := (getC r7 0).toBool
 iteD x7 (
 callD (φ_fl [C.int .i64 x2]) [.bool] fun r8 =>
 let x8 := (getC r8 0).toBool
 iteD x8 (
 some (.ret [C.bool x4])) <|
 some (.ret [C.bool false])) <|
 some (.ret [C.bool false])) <|
 some (.ret [C.bool false])
def t_bo : Tree :=
.letp .geI [vI 0, nI 4] <|
.ret [vB 4]
def φ_bo := mir (ph []) t_bo
def F_bo (x0 x1 : Int) (x2 x3 : Int) : Option Out :=
 let x4 := decide (x0 >= 4)
 some (.ret [C.bool x4])
def t_as : Tree :=
.letp .len [vL 0] <|
.iter [nI 0] <|
.letp .ltI [vI 6, vI 5] <|
.ite (.v 7) (
 .row (.v 0) (.v 6) [kI, kI, kI, kI] <|
 .letp (.eqs 4) [vI 1, vI 2, vI 3, vI 4, vI 8, vI 9, vI 10, vI 11] <|
 .ite (.v 12) (
 .up <|
 .ret [vI 6]) <|
 .letp (.add .i64) [vI 6, nI 1] <|
 .jump [vI 13]) <|
.up <|
.ret [⟨kI, (.n (-1))⟩]
def φ_as := mir (ph []) t_as
def L_as_0 (x0 : LL) (x1 x2 : Int) (x3 x4 : Int) (x5 x6 : Int) : Option Out :=
 let x7 := decide (x6 < x5)
 iteD x7 (
 rowD (.list x0) (.int .i64 x6) [(.int .i64), (.int .i64), (.int .i64), (.int .i64)] fun r8 =>
 let x8 := (getC r8 0).toInt
 let x9 := (getC r8 1).toInt
 let x10 := (getC r8 2).toInt
 let x11 := (getC r8 3).toInt
 let x12 := ([x1, x2, x3, x4] == ([x8, x9, x10, x11] : List Int))
 iteD x12 (
 upD <|
 some (.ret [C.int .i64 x6])) <|
 let x13 := IntKind.wrap .i64 (x6 + 1)
 some (.jump [C.int .i64 x13])) <|
 upD <|
 some (.ret [C.int .i64 (-1)])
def F_as (x0 : LL) (x1 x2 : Int) (x3 x4 : Int) : Option Out :=
 let x5 : Int := x0.length
 iterD (fun ps => L_as_0 x0 x1 x2 x3 x4 x5 ((getC ps 0).toInt)) [C.int .i64 0]
def t_ap : Tree :=
.call 0 [vL 0, vI 1, vI 2, vI 3, vI 4] [kI] <|
.letp .geI [vI 5, nI 0] <|
.ret [vB 6]
def Φ_ap : Phi := ph [φ_as]
def φ_ap := mir Φ_ap t_ap
def F_ap (x0 : LL) (x1 x2 : Int) (x3 x4 : Int) : Option Out :=
 callD (φ_as [C.list x0, C.int .i64 x1, C.int .i64 x2, C.int .i64 x3, C.int .i64 x4]) [(.int .i64)] fun r5 =>
 let x5 := (getC r5 0).toInt
 let x6 := decide (x5 >= 0)
 some (.ret [C.bool x6])
def t_fm : Tree :=
.join [] (
 .call 0 [vL 1, vI 2] [.bool] <|
 .letp .not [vB 4] <|
 .ite (.v 5) (
 .up <|
 .ret [⟨.bool, (.b false)⟩]) <|
 .letp .not [vB 0] <|
 .ite (.v 6) (
 .letp .len [vL 3] <|
 .letp .gtI [vI 7, nI 0] <|
 .ite (.v 8) (
 .up <|
 .ret [⟨.bool, (.b false)⟩]) <|
 .jump []) <|
 .jump []) <|
.call 1 [vL 1] [.list, .bool] <|
.letp .len [vL 3] <|
.iter [nI 0] <|
.letp .ltI [vI 7, vI 6] <|
.ite (.v 8) (
 .row (.v 3) (.v 7) [kI, kI, kI, kI] <|
 .call 2 [vI 9, vI 10, vI 11, vI 12] [.bool] <|
 .letp .not [vB 13] <|
 .ite (.v 14) (
 .up <|
 .ret [⟨.bool, (.b false)⟩]) <|
 .call 3 [vI 9, vI 10, vI 11, vI 12] [.bool] <|
 .letp .not [vB 15] <|
 .ite (.v 16) (
 .up <|
 .ret [⟨.bool, (.b false)⟩]) <|
 .letp .len [vL 4] <|
 .letp .gtI [vI 11, vI 17] <|
 .ite (.v 18) (
 .up <|
 .ret [⟨.bool, (.b false)⟩]) <|
 .chk .upto [vI 7, vL 3] <|
 .letp .take [vL 3, vI 7] <|
 .call 4 [vL 19, vI 9, vI 10, vI 11, vI 12] [.bool] <|
 .ite (.v 20) (
 .up <|
 .ret [⟨.bool, (.b false)⟩]) <|
 .letp (.add .i64) [vI 7, nI 1] <|
 .jump [vI 21]) <|
.up <|
.ret [vB 5]
def Φ_fm : Phi := ph [φ_fw, φ_es, φ_fd, φ_bo, φ_ap]
def φ_fm := mir Φ_fm t_fm
def L_fm_0 (x3 x4 : LL) (x5 : Bool) (x6 x7 : Int) : Option Out :=
 let x8 := decide (x7 < x6)
 iteD x8 (
 rowD (.list x3) (.int .i64 x7) [(.int .i64), (.int .i64), (.int .i64), (.int .i64)] fun r9 =>
 let x9 := (getC r9 0).toInt
 let x10 := (getC r9 1).toInt
 let x11 := (getC r9 2).toInt
 let x12 := (getC r9 3).toInt
 callD (φ_fd [C.int .i64 x9, C.int .i64 x10, C.int .i64 x11, C.int .i64 x12]) [.bool] fun r13 =>
 let x13 := (getC r13 0).toBool
 let x14 := (!x13)
 iteD x14 (
 upD <|
 some (.ret [C.bool false])) <|
 callD (φ_bo [C.int .i64 x9, C.int .i64 x10, C.int .i64 x11, C.int .i64 x12]) [.bool] fun r15 =>
 let x15 := (getC r15 0).toBool
 let x16 := (!x15)
 iteD x16 (
 upD <|
 some (.ret [C.bool false])) <|
 let x17 : Int := x4.length
 let x18 := decide (x11 > x17)
 iteD x18 (
 upD <|
 some (.ret [C.bool false])) <|
 whenD ((decide ((0 : Int) <= x7) && decide (x7 <= (x3.length : Nat)))) <|
 let x19 := (x3.take (Int.toNat x7))
 callD (φ_ap [C.list x19, C.int .i64 x9, C.int .i64 x10, C.int .i64 x11, C.int .i64 x12]) [.bool] fun r20 =>
 let x20 := (getC r20 0).toBool
 iteD x20 (
 upD <|
 some (.ret [C.bool false])) <|
 let x21 := IntKind.wrap .i64 (x7 + 1)
 some (.jump [C.int .i64 x21])) <|
 upD <|
 some (.ret [C.bool x5])
def J_fm_1 (x1 x3 : LL) : Option Out :=
 callD (φ_es [C.list x1]) [.list, .bool] fun r4 =>
 let x4 := (getC r4 0).toList
 let x5 := (getC r4 1).toBool
 let x6 : Int := x3.length
 iterD (fun ps => L_fm_0 x3 x4 x5 x6 ((getC ps 0).toInt)) [C.int .i64 0]
def F_fm (x0 : Bool) (x1 : LL) (x2 : Int) (x3 : LL) : Option Out :=
 joinD (
 callD (φ_fw [C.list x1, C.int .i64 x2]) [.bool] fun r4 =>
 let x4 := (getC r4 0).toBool
 let x5 := (!x4)
 iteD x5 (
 upD <|
 some (.ret [C.bool false])) <|
 let x6 := (!x0)
 iteD x6 (
 let x7 : Int := x3.length
 let x8 := decide (x7 > 0)
 iteD x8 (
 upD <|
 some (.ret [C.bool false])) <|
 some (.jump [])) <|
 some (.jump [])) fun ps => J_fm_1 x1 x3
def t_bt : Tree :=
.call 0 [vL 2] [.list] <|
.ret [vI 0, vI 1, vL 3]
def Φ_bt : Phi := ph [φ_bp]
def φ_bt := mir Φ_bt t_bt
def F_bt (x0 x1 : Int) (x2 : LL) : Option Out :=
 callD (φ_bp [C.list x2]) [.list] fun r3 =>
 let x3 := (getC r3 0).toList
 some (.ret [C.int .i64 x0, C.int .i64 x1, C.list x3])
def t_ck : Tree :=
.chk .upto [vI 2, vL 0] <|
.letp .take [vL 0, vI 2] <|
.letp .len [vL 4] <|
.iter [nI 0, ⟨.list, .e⟩] <|
.letp .ltI [vI 6, vI 5] <|
.ite (.v 8) (
 .row (.v 4) (.v 6) [kI, kI, .list] <|
 .call 0 [vI 9, vI 10, vL 11] [kI, kI, .list] <|
 .letp (.mkl 3) [vI 12, vI 13, vL 14] <|
 .chk .fits [vL 7, vL 15] <|
 .letp .app [vL 7, vL 15] <|
 .letp (.add .i64) [vI 6, nI 1] <|
 .jump [vI 17, vL 16]) <|
.up <|
.ret [vL 7, vI 3]
def Φ_ck : Phi := ph [φ_bt]
def φ_ck := mir Φ_ck t_ck
def L_ck_0 (x3 : Int) (x4 : LL) (x5 x6 : Int) (x7 : LL) : Option Out :=
 let x8 := decide (x6 < x5)
 iteD x8 (
 rowD (.list x4) (.int .i64 x6) [(.int .i64), (.int .i64), .list] fun r9 =>
 let x9 := (getC r9 0).toInt
 let x10 := (getC r9 1).toInt
 let x11 := (getC r9 2).toList
 callD (φ_bt [C.int .i64 x9, C.int .i64 x10, C.list x11]) [(.int .i64), (.int .i64), .list] fun r12 =>
 let x12 := (getC r12 0).toInt
 let x13 := (getC r12 1).toInt
 let x14 := (getC r12 2).toList
 let x15 := [[C.int .i64 x12, C.int .i64 x13, C.list x14]]
 whenD (decide (x7.length + x15.length <= LMAX)) <|
 let x16 := (x7 ++ x15)
 let x17 := IntKind.wrap .i64 (x6 + 1)
 some (.jump [C.int .i64 x17, C.list x16])) <|
 upD <|
 some (.ret [C.list x7, C.int .i64 x3])
def F_ck (x0 : LL) (x1 x2 x3 : Int) : Option Out :=
 whenD ((decide ((0 : Int) <= x2) && decide (x2 <= (x0.length : Nat)))) <|
 let x4 := (x0.take (Int.toNat x2))
 let x5 : Int := x4.length
 iterD (fun ps => L_ck_0 x3 x4 x5 ((getC ps 0).toInt) ((getC ps 1).toList)) [C.int .i64 0, C.list ([] : LL)]
def t_br : Tree :=
.letp .len [vL 0] <|
.call 0 [vL 0, vI 1, vI 2, vI 1] [.list, kI] <|
.ret [vL 3, vI 4]
def Φ_br : Phi := ph [φ_ck]
def φ_br := mir Φ_br t_br
def F_br (x0 : LL) (x1 : Int) : Option Out :=
 let x2 : Int := x0.length
 callD (φ_ck [C.list x0, C.int .i64 x1, C.int .i64 x2, C.int .i64 x1]) [.list, (.int .i64)] fun r3 =>
 let x3 := (getC r3 0).toList
 let x4 := (getC r3 1).toInt
 some (.ret [C.list x3, C.int .i64 x4])
def t_at : Tree :=
.letp .isNil [vL 0] <|
.ite (.v 1) (
 .both (
 .ret [⟨.list, .e⟩]) <|
 .chk (.rowsk [kI, kI, kI, kI]) [vL 0] <|
 .chk .fits [⟨.list, .e⟩, vL 0] <|
 .letp .app [⟨.list, .e⟩, vL 0] <|
 .ret [vL 2]) <|
.chk (.rowsk [kI, kI, kI, kI]) [vL 0] <|
.chk .fits [⟨.list, .e⟩, vL 0] <|
.letp .app [⟨.list, .e⟩, vL 0] <|
.ret [vL 2]
def φ_at := mir (ph []) t_at
def F_at (x0 : LL) : Option Out :=
 let x1 := x0.isEmpty
 iteD x1 (
 bothD (
 some (.ret [C.list ([] : LL)])) <|
 whenD ((x0.all (kindsB [(.int .i64), (.int .i64), (.int .i64), (.int .i64)]))) <|
 whenD (decide (([] : LL).length + x0.length <= LMAX)) <|
 let x2 := (([] : LL) ++ x0)
 some (.ret [C.list x2])) <|
 whenD ((x0.all (kindsB [(.int .i64), (.int .i64), (.int .i64), (.int .i64)]))) <|
 whenD (decide (([] : LL).length + x0.length <= LMAX)) <|
 let x2 := (([] : LL) ++ x0)
 some (.ret [C.list x2])
def t_bg : Tree :=
.call 0 [vL 1, vI 2] [.list, kI] <|
.call 1 [vL 3] [.list] <|
.ret [vB 0, vL 4, vI 5, vL 6]
def Φ_bg : Phi := ph [φ_br, φ_at]
def φ_bg := mir Φ_bg t_bg
def F_bg (x0 : Bool) (x1 : LL) (x2 : Int) (x3 : LL) : Option Out :=
 callD (φ_br [C.list x1, C.int .i64 x2]) [.list, (.int .i64)] fun r4 =>
 let x4 := (getC r4 0).toList
 let x5 := (getC r4 1).toInt
 callD (φ_at [C.list x3]) [.list] fun r6 =>
 let x6 := (getC r6 0).toList
 some (.ret [C.bool x0, C.list x4, C.int .i64 x5, C.list x6])
def t_da : Tree :=
.ite (.v 2) (
 .chk .upto [vI 1, vL 0] <|
 .letp .take [vL 0, vI 1] <|
 .ret [vL 3]) <|
.ret [vL 0]
def φ_da := mir (ph []) t_da
def F_da (x0 : LL) (x1 : Int) (x2 : Bool) : Option Out :=
 iteD x2 (
 whenD ((decide ((0 : Int) <= x1) && decide (x1 <= (x0.length : Nat)))) <|
 let x3 := (x0.take (Int.toNat x1))
 some (.ret [C.list x3])) <|
 some (.ret [C.list x0])
def t_ce : Tree :=
.call 0 [vL 1, vI 2, vB 4] [.list] <|
.call 1 [vL 5] [.list, .bool] <|
.ret [vL 6]
def Φ_ce : Phi := ph [φ_da, φ_es]
def φ_ce := mir Φ_ce t_ce
def F_ce (x0 : Bool) (x1 : LL) (x2 : Int) (x3 : LL) (x4 : Bool) : Option Out :=
 callD (φ_da [C.list x1, C.int .i64 x2, C.bool x4]) [.list] fun r5 =>
 let x5 := (getC r5 0).toList
 callD (φ_es [C.list x5]) [.list, .bool] fun r6 =>
 let x6 := (getC r6 0).toList
 let x7 := (getC r6 1).toBool
 some (.ret [C.list x6])
def t_fb : Tree :=
.call 0 [vL 0, vI 1] [.bool] <|
.letp .not [vB 5] <|
.ite (.v 6) (
 .ret [⟨.list, .e⟩, nI 0, ⟨.bool, (.b false)⟩]) <|
.call 1 [vI 2, vI 3, vL 4] [.bool] <|
.letp .not [vB 7] <|
.ite (.v 8) (
 .ret [⟨.list, .e⟩, nI 0, ⟨.bool, (.b false)⟩]) <|
.call 2 [vL 0, vI 1] [.list, kI] <|
.letp .len [vL 9] <|
.letp .eqI [vI 11, nI 40] <|
.ite (.v 12) (
 .ret [vL 9, vI 10, ⟨.bool, (.b false)⟩]) <|
.call 3 [vI 2, vI 3, vL 4] [kI, kI, .list] <|
.letp (.mkl 3) [vI 13, vI 14, vL 15] <|
.chk .fits [vL 9, vL 16] <|
.letp .app [vL 9, vL 16] <|
.ret [vL 17, vI 10, ⟨.bool, (.b true)⟩]
def Φ_fb : Phi := ph [φ_fw, φ_fu, φ_br, φ_bt]
def φ_fb := mir Φ_fb t_fb
def F_fb (x0 : LL) (x1 x2 x3 : Int) (x4 : LL) : Option Out :=
 callD (φ_fw [C.list x0, C.int .i64 x1]) [.bool] fun r5 =>
 let x5 := (getC r5 0).toBool
 let x6 := (!x5)
 iteD x6 (
 some (.ret [C.list ([] : LL), C.int .i64 0, C.bool false])) <|
 callD (φ_fu [C.int .i64 x2, C.int .i64 x3, C.list x4]) [.bool] fun r7 =>
 let x7 := (getC r7 0).toBool
 let x8 := (!x7)
 iteD x8 (
 some (.ret [C.list ([] : LL), C.int .i64 0, C.bool false])) <|
 callD (φ_br [C.list x0, C.int .i64 x1]) [.list, (.int .i64)] fun r9 =>
 let x9 := (getC r9 0).toList
 let x10 := (getC r9 1).toInt
 let x11 : Int := x9.length
 let x12 := (x11 == 40)
 iteD x12 (
 some (.ret [C.list x9, C.int .i64 x10, C.bool false])) <|
 callD (φ_bt [C.int .i64 x2, C.int .i64 x3, C.list x4]) [(.int .i64), (.int .i64), .list] fun r13 =>
 let x13 := (getC r13 0).toInt
 let x14 := (getC r13 1).toInt
 let x15 := (getC r13 2).toList
 let x16 := [[C.int .i64 x13, C.int .i64 x14, C.list x15]]
 whenD (decide (x9.length + x16.length <= LMAX)) <|
 let x17 := (x9 ++ x16)
 some (.ret [C.list x17, C.int .i64 x10, C.bool true])
def t_ca : Tree :=
.letp .not [vB 0] <|
.ite (.v 7) (
 .ret [⟨.bool, (.b false)⟩, vB 0, vL 1, vI 2, vL 3]) <|
.call 0 [vB 0, vL 1, vI 2, vL 3, ⟨.bool, (.b false)⟩] [.list] <|
.call 1 [vL 8, vI 4, vI 5, vL 6] [.bool] <|
.letp .not [vB 9] <|
.ite (.v 10) (
 .ret [⟨.bool, (.b false)⟩, vB 0, vL 1, vI 2, vL 3]) <|
.call 2 [vL 1, vI 2, vI 4, vI 5, vL 6] [.list, kI, .bool] <|
.ret [vB 13, vB 0, vL 11, vI 12, vL 3]
def Φ_ca : Phi := ph [φ_ce, φ_dv, φ_fb]
def φ_ca := mir Φ_ca t_ca
def F_ca (x0 : Bool) (x1 : LL) (x2 : Int) (x3 : LL) (x4 x5 : Int) (x6 : LL) : Option Out :=
 let x7 := (!x0)
 iteD x7 (
 some (.ret [C.bool false, C.bool x0, C.list x1, C.int .i64 x2, C.list x3])) <|
 callD (φ_ce [C.bool x0, C.list x1, C.int .i64 x2, C.list x3, C.bool false]) [.list] fun r8 =>
 let x8 := (getC r8 0).toList
 callD (φ_dv [C.list x8, C.int .i64 x4, C.int .i64 x5, C.list x6]) [.bool] fun r9 =>
 let x9 := (getC r9 0).toBool
 let x10 := (!x9)
 iteD x10 (
 some (.ret [C.bool false, C.bool x0, C.list x1, C.int .i64 x2, C.list x3])) <|
 callD (φ_fb [C.list x1, C.int .i64 x2, C.int .i64 x4, C.int .i64 x5, C.list x6]) [.list, (.int .i64), .bool] fun r11 =>
 let x11 := (getC r11 0).toList
 let x12 := (getC r11 1).toInt
 let x13 := (getC r11 2).toBool
 some (.ret [C.bool x13, C.bool x0, C.list x11, C.int .i64 x12, C.list x3])
def t_cl : Tree :=
.call 0 [vB 0, vL 1, vI 2, vL 3] [.bool] <|
.letp .not [vB 5] <|
.ite (.v 6) (
 .ret [⟨.bool, (.b false)⟩, ⟨.list, .e⟩, nI 0, ⟨.list, .e⟩, ⟨.bool, (.b false)⟩]) <|
.call 1 [vB 0, vL 1, vI 2, vL 3] [.bool, .list, kI, .list] <|
.call 2 [vB 7, vL 8, vI 9, vL 10, ⟨.bool, (.b false)⟩] [.list] <|
.letp .len [vL 11] <|
.letp (.add .i64) [vI 12, nI 1] <|
.call 3 [nI 4, vI 13, vL 4] [.bool] <|
.letp .not [vB 14] <|
.ite (.v 15) (
 .ret [⟨.bool, (.b false)⟩, ⟨.list, .e⟩, nI 0, ⟨.list, .e⟩, ⟨.bool, (.b false)⟩]) <|
.call 4 [vB 7, vL 8, vI 9, vL 10, nI 4, vI 13, vL 4] [.bool, .bool, .list, kI, .list] <|
.ret [vB 17, vL 18, vI 19, vL 20, vB 16]
def Φ_cl : Phi := ph [φ_fm, φ_bg, φ_ce, φ_fu, φ_ca]
def φ_cl := mir Φ_cl t_cl
def F_cl (x0 : Bool) (x1 : LL) (x2 : Int) (x3 x4 : LL) : Option Out :=
 callD (φ_fm [C.bool x0, C.list x1, C.int .i64 x2, C.list x3]) [.bool] fun r5 =>
 let x5 := (getC r5 0).toBool
 let x6 := (!x5)
 iteD x6 (
 some (.ret [C.bool false, C.list ([] : LL), C.int .i64 0, C.list ([] : LL), C.bool false])) <|
 callD (φ_bg [C.bool x0, C.list x1, C.int .i64 x2, C.list x3]) [.bool, .list, (.int .i64), .list] fun r7 =>
 let x7 := (getC r7 0).toBool
 let x8 := (getC r7 1).toList
 let x9 := (getC r7 2).toInt
 let x10 := (getC r7 3).toList
 callD (φ_ce [C.bool x7, C.list x8, C.int .i64 x9, C.list x10, C.bool false]) [.list] fun r11 =>
 let x11 := (getC r11 0).toList
 let x12 : Int := x11.length
 let x13 := IntKind.wrap .i64 (x12 + 1)
 callD (φ_fu [C.int .i64 4, C.int .i64 x13, C.list x4]) [.bool] fun r14 =>
 let x14 := (getC r14 0).toBool
 let x15 := (!x14)
 iteD x15 (
 some (.ret [C.bool false, C.list ([] : LL), C.int .i64 0, C.list ([] : LL), C.bool false])) <|
 callD (φ_ca [C.bool x7, C.list x8, C.int .i64 x9, C.list x10, C.int .i64 4, C.int .i64 x13, C.list x4]) [.bool, .bool, .list, (.int .i64), .list] fun r16 =>
 let x16 := (getC r16 0).toBool
 let x17 := (getC r16 1).toBool
 let x18 := (getC r16 2).toList
 let x19 := (getC r16 3).toInt
 let x20 := (getC r16 4).toList
 some (.ret [C.bool x17, C.list x18, C.int .i64 x19, C.list x20, C.bool x16])
def t_dp : Tree :=
.call 0 [vB 0, vL 1, vI 2, vL 3] [.bool] <|
.letp .not [vB 5] <|
.ite (.v 6) (
 .ret [⟨.bool, (.b false)⟩, ⟨.list, .e⟩, nI 0, ⟨.list, .e⟩, ⟨.bool, (.b false)⟩]) <|
.call 1 [vI 4] [.bool] <|
.letp .not [vB 7] <|
.ite (.v 8) (
 .ret [⟨.bool, (.b false)⟩, ⟨.list, .e⟩, nI 0, ⟨.list, .e⟩, ⟨.bool, (.b false)⟩]) <|
.call 2 [vB 0, vL 1, vI 2, vL 3] [.bool, .list, kI, .list] <|
.call 3 [vB 9, vL 10, vI 11, vL 12, nI 6, vI 4, ⟨.list, .e⟩] [.bool, .bool, .list, kI, .list] <|
.ret [vB 14, vL 15, vI 16, vL 17, vB 13]
def Φ_dp : Phi := ph [φ_fm, φ_fl, φ_bg, φ_ca]
def φ_dp := mir Φ_dp t_dp
def F_dp (x0 : Bool) (x1 : LL) (x2 : Int) (x3 : LL) (x4 : Int) : Option Out :=
 callD (φ_fm [C.bool x0, C.list x1, C.int .i64 x2, C.list x3]) [.bool] fun r5 =>
 let x5 := (getC r5 0).toBool
 let x6 := (!x5)
 iteD x6 (
 some (.ret [C.bool false, C.list ([] : LL), C.int .i64 0, C.list ([] : LL), C.bool false])) <|
 callD (φ_fl [C.int .i64 x4]) [.bool] fun r7 =>
 let x7 := (getC r7 0).toBool
 let x8 := (!x7)
 iteD x8 (
 some (.ret [C.bool false, C.list ([] : LL), C.int .i64 0, C.list ([] : LL), C.bool false])) <|
 callD (φ_bg [C.bool x0, C.list x1, C.int .i64 x2, C.list x3]) [.bool, .list, (.int .i64), .list] fun r9 =>
 let x9 := (getC r9 0).toBool
 let x10 := (getC r9 1).toList
 let x11 := (getC r9 2).toInt
 let x12 := (getC r9 3).toList
 callD (φ_ca [C.bool x9, C.list x10, C.int .i64 x11, C.list x12, C.int .i64 6, C.int .i64 x4, C.list ([] : LL)]) [.bool, .bool, .list, (.int .i64), .list] fun r13 =>
 let x13 := (getC r13 0).toBool
 let x14 := (getC r13 1).toBool
 let x15 := (getC r13 2).toList
 let x16 := (getC r13 3).toInt
 let x17 := (getC r13 4).toList
 some (.ret [C.bool x14, C.list x15, C.int .i64 x16, C.list x17, C.bool x13])
def t_cz : Tree :=
.call 0 [vL 3, vI 4, vI 5, vI 6, nI 0] [.bool] <|
.ret [vB 7]
def Φ_cz : Phi := ph [φ_ap]
def φ_cz := mir Φ_cz t_cz
def F_cz (x0 : Bool) (x1 : LL) (x2 : Int) (x3 : LL) (x4 x5 x6 : Int) : Option Out :=
 callD (φ_ap [C.list x3, C.int .i64 x4, C.int .i64 x5, C.int .i64 x6, C.int .i64 0]) [.bool] fun r7 =>
 let x7 := (getC r7 0).toBool
 some (.ret [C.bool x7])
def t_bz : Tree :=
.letp .not [vB 0] <|
.ite (.v 4) (
 .ret [⟨.list, .e⟩]) <|
.call 0 [vB 0, vL 1, vI 2, vL 3, ⟨.bool, (.b true)⟩] [.list] <|
.letp .len [vL 5] <|
.iter [nI 0, ⟨.list, .e⟩] <|
.letp .ltI [vI 7, vI 6] <|
.ite (.v 9) (
 .row (.v 5) (.v 7) [.list, kI] <|
 .letp (.tab [(1, 1), (2, 2), (3, 3)]) [vI 11] <|
 .letp (.tab [(1, 4), (2, 6), (3, 7)]) [vI 11] <|
 .letp (.has [1, 2, 3]) [vI 11] <|
 .letp .len [vL 10] <|
 .iter [nI 0, vL 8] <|
 .letp .ltI [vI 16, vI 15] <|
 .ite (.v 18) (
 .row (.v 10) (.v 16) [kI] <|
 .letp .not [vB 14] <|
 .ite (.v 20) (
 .letp (.add .i64) [vI 16, nI 1] <|
 .jump [vI 21, vL 17]) <|
 .letp .eqI [vI 19, nI 0] <|
 .ite (.v 21) (
 .letp (.add .i64) [vI 16, nI 1] <|
 .jump [vI 22, vL 17]) <|
 .letp (.add .i64) [vI 16, nI 1] <|
 .letp (.add .i64) [vI 7, nI 1] <|
 .call 1 [vB 0, vL 1, vI 2, vL 3, vI 13, vI 22, vI 23] [.bool] <|
 .ite (.v 24) (
 .letp (.add .i64) [vI 16, nI 1] <|
 .jump [vI 25, vL 17]) <|
 .letp (.add .i64) [vI 16, nI 1] <|
 .letp (.add .i64) [vI 7, nI 1] <|
 .letp .eqI [vI 12, nI 1] <|
 .ite (.v 27) (
 .letp (.mkl 4) [vI 12, vI 25, vI 26, vI 19] <|
 .chk .fits [vL 17, vL 28] <|
 .letp .app [vL 17, vL 28] <|
 .letp (.add .i64) [vI 16, nI 1] <|
 .jump [vI 30, vL 29]) <|
 .letp (.mkl 4) [vI 12, vI 25, vI 26, nI 0] <|
 .chk .fits [vL 17, vL 28] <|
 .letp .app [vL 17, vL 28] <|
 .letp (.add .i64) [vI 16, nI 1] <|
 .jump [vI 30, vL 29]) <|
 .up <|
 .letp (.add .i64) [vI 7, nI 1] <|
 .jump [vI 19, vL 17]) <|
.up <|
.ret [vL 8]
def Φ_bz : Phi := ph [φ_ce, φ_cz]
def φ_bz := mir Φ_bz t_bz
def L_bz_0 (x0 : Bool) (x1 : LL) (x2 : Int) (x3 : LL) (x7 : Int) (x10 : LL) (x12 x13 : Int) (x14 : Bool) (x15 x16 : Int) (x17 : LL) : Option Out :=
 let x18 := decide (x16 < x15)
 iteD x18 (
 rowD (.list x10) (.int .i64 x16) [(.int .i64)] fun r19 =>
 let x19 := (getC r19 0).toInt
 let x20 := (!x14)
 iteD x20 (
 let x21 := IntKind.wrap .i64 (x16 + 1)
 some (.jump [C.int .i64 x21, C.list x17])) <|
 let x21 := (x19 == 0)
 iteD x21 (
 let x22 := IntKind.wrap .i64 (x16 + 1)
 some (.jump [C.int .i64 x22, C.list x17])) <|
 let x22 := IntKind.wrap .i64 (x16 + 1)
 let x23 := IntKind.wrap .i64 (x7 + 1)
 callD (φ_cz [C.bool x0, C.list x1, C.int .i64 x2, C.list x3, C.int .i64 x13, C.int .i64 x22, C.int .i64 x23]) [.bool] fun r24 =>
 let x24 := (getC r24 0).toBool
 iteD x24 (
 let x25 := IntKind.wrap .i64 (x16 + 1)
 some (.jump [C.int .i64 x25, C.list x17])) <|
 let x25 := IntKind.wrap .i64 (x16 + 1)
 let x26 := IntKind.wrap .i64 (x7 + 1)
 let x27 := (x12 == 1)
 iteD x27 (
 let x28 := [[C.int .i64 x12, C.int .i64 x25, C.int .i64 x26, C.int .i64 x19]]
 whenD (decide (x17.length + x28.length <= LMAX)) <|
 let x29 := (x17 ++ x28)
 let x30 := IntKind.wrap .i64 (x16 + 1)
 some (.jump [C.int .i64 x30, C.list x29])) <|
 let x28 := [[C.int .i64 x12, C.int .i64 x25, C.int .i64 x26, C.int .i64 0]]
 whenD (decide (x17.length + x28.length <= LMAX)) <|
 let x29 := (x17 ++ x28)
 let x30 := IntKind.wrap .i64 (x16 + 1)
 some (.jump [C.int .i64 x30, C.list x29])) <|
 upD <|
 let x19 := IntKind.wrap .i64 (x7 + 1)
 some (.jump [C.int .i64 x19, C.list x17])
def L_bz_1 (x0 : Bool) (x1 : LL) (x2 : Int) (x3 x5 : LL) (x6 x7 : Int) (x8 : LL) : Option Out :=
 let x9 := decide (x7 < x6)
 iteD x9 (
 rowD (.list x5) (.int .i64 x7) [.list, (.int .i64)] fun r10 =>
 let x10 := (getC r10 0).toList
 let x11 := (getC r10 1).toInt
 let x12 : Int := (lookI [(1, 1), (2, 2), (3, 3)] x11)
 let x13 : Int := (lookI [(1, 4), (2, 6), (3, 7)] x11)
 let x14 := (([1, 2, 3] : List Int).any fun k => x11 == k)
 let x15 : Int := x10.length
 iterD (fun ps => L_bz_0 x0 x1 x2 x3 x7 x10 x12 x13 x14 x15 ((getC ps 0).toInt) ((getC ps 1).toList)) [C.int .i64 0, C.list x8]) <|
 upD <|
 some (.ret [C.list x8])
def F_bz (x0 : Bool) (x1 : LL) (x2 : Int) (x3 : LL) : Option Out :=
 let x4 := (!x0)
 iteD x4 (
 some (.ret [C.list ([] : LL)])) <|
 callD (φ_ce [C.bool x0, C.list x1, C.int .i64 x2, C.list x3, C.bool true]) [.list] fun r5 =>
 let x5 := (getC r5 0).toList
 let x6 : Int := x5.length
 iterD (fun ps => L_bz_1 x0 x1 x2 x3 x5 x6 ((getC ps 0).toInt) ((getC ps 1).toList)) [C.int .i64 0, C.list ([] : LL)]
def t_bu : Tree :=
.letp .len [vL 5] <|
.letp .ltI [vI 10, nI 14] <|
.ite (.v 11) (
 .letp (.mkl 4) [vI 6, vI 7, vI 8, vI 9] <|
 .chk .fits [vL 5, vL 12] <|
 .letp .app [vL 5, vL 12] <|
 .ret [vB 0, vL 1, vI 2, vL 3, vL 4, vL 13]) <|
.ret [vB 0, vL 1, vI 2, vL 3, vL 4, vL 5]
def φ_bu := mir (ph []) t_bu
def F_bu (x0 : Bool) (x1 : LL) (x2 : Int) (x3 x4 x5 : LL) (x6 x7 : Int) (x8 x9 : Int) : Option Out :=
 let x10 : Int := x5.length
 let x11 := decide (x10 < 14)
 iteD x11 (
 let x12 := [[C.int .i64 x6, C.int .i64 x7, C.int .i64 x8, C.int .i64 x9]]
 whenD (decide (x5.length + x12.length <= LMAX)) <|
 let x13 := (x5 ++ x12)
 some (.ret [C.bool x0, C.list x1, C.int .i64 x2, C.list x3, C.list x4, C.list x13])) <|
 some (.ret [C.bool x0, C.list x1, C.int .i64 x2, C.list x3, C.list x4, C.list x5])
def t_cd : Tree :=
.letp .len [vL 6] <|
.iter [⟨.bool, (.b false)⟩, ⟨.bool, (.b true)⟩, nI 0] <|
.letp .ltI [vI 10, vI 7] <|
.ite (.v 11) (
 .row (.v 6) (.v 10) [kI] <|
 .letp .eqI [vI 12, nI 0] <|
 .ite (.v 13) (
 .letp (.add .i64) [vI 10, nI 1] <|
 .jump [vB 8, vB 9, vI 14]) <|
 .letp (.add .i64) [vI 10, nI 1] <|
 .call 0 [vB 0, vL 1, vI 2, vL 3, vI 4, vI 14, vI 5] [.bool] <|
 .ite (.v 8) (
 .ite (.v 9) (
 .letp (.add .i64) [vI 10, nI 1] <|
 .jump [⟨.bool, (.b true)⟩, vB 15, vI 16]) <|
 .letp (.add .i64) [vI 10, nI 1] <|
 .jump [⟨.bool, (.b true)⟩, ⟨.bool, (.b false)⟩, vI 16]) <|
 .ite (.v 9) (
 .letp (.add .i64) [vI 10, nI 1] <|
 .jump [vB 15, vB 15, vI 16]) <|
 .letp (.add .i64) [vI 10, nI 1] <|
 .jump [vB 15, ⟨.bool, (.b false)⟩, vI 16]) <|
.up <|
.ret [vB 8, vB 9]
def Φ_cd : Phi := ph [φ_cz]
def φ_cd := mir Φ_cd t_cd
def L_cd_0 (x0 : Bool) (x1 : LL) (x2 : Int) (x3 : LL) (x4 x5 : Int) (x6 : LL) (x7 : Int) (x8 x9 : Bool) (x10 : Int) : Option Out :=
 let x11 := decide (x10 < x7)
 iteD x11 (
 rowD (.list x6) (.int .i64 x10) [(.int .i64)] fun r12 =>
 let x12 := (getC r12 0).toInt
 let x13 := (x12 == 0)
 iteD x13 (
 let x14 := IntKind.wrap .i64 (x10 + 1)
 some (.jump [C.bool x8, C.bool x9, C.int .i64 x14])) <|
 let x14 := IntKind.wrap .i64 (x10 + 1)
 callD (φ_cz [C.bool x0, C.list x1, C.int .i64 x2, C.list x3, C.int .i64 x4, C.int .i64 x14, C.int .i64 x5]) [.bool] fun r15 =>
 let x15 := (getC r15 0).toBool
 iteD x8 (
 iteD x9 (
 let x16 := IntKind.wrap .i64 (x10 + 1)
 some (.jump [C.bool true, C.bool x15, C.int .i64 x16])) <|
 let x16 := IntKind.wrap .i64 (x10 + 1)
 some (.jump [C.bool true, C.bool false, C.int .i64 x16])) <|
 iteD x9 (
 let x16 := IntKind.wrap .i64 (x10 + 1)
 some (.jump [C.bool x15, C.bool x15, C.int .i64 x16])) <|
 let x16 := IntKind.wrap .i64 (x10 + 1)
 some (.jump [C.bool x15, C.bool false, C.int .i64 x16])) <|
 upD <|
 some (.ret [C.bool x8, C.bool x9])
def F_cd (x0 : Bool) (x1 : LL) (x2 : Int) (x3 : LL) (x4 x5 : Int) (x6 : LL) : Option Out :=
 let x7 : Int := x6.length
 iterD (fun ps => L_cd_0 x0 x1 x2 x3 x4 x5 x6 x7 ((getC ps 0).toBool) ((getC ps 1).toBool) ((getC ps 2).toInt)) [C.bool false, C.bool true, C.int .i64 0]
def t_bl : Tree :=
.call 0 [⟨.bool, (.v 0)⟩, ⟨.list, (.v 1)⟩, ⟨(.int .i64), (.v 2)⟩, ⟨.list, (.v 3)⟩, ⟨.bool, (.b false)⟩] [.list] <|
.letp (.sub .i64) [⟨(.int .i64), (.v 4)⟩, ⟨(.int .i64), (.n 1)⟩] <|
.row (.v 5) (.v 6) [.list, (.int .i64)] <|
.call 1 [⟨.bool, (.v 0)⟩, ⟨.list, (.v 1)⟩, ⟨(.int .i64), (.v 2)⟩, ⟨.list, (.v 3)⟩, ⟨(.int .i64), (.n 5)⟩, ⟨(.int .i64), (.v 4)⟩, ⟨.list, (.v 7)⟩] [.bool, .bool] <|
.call 1 [⟨.bool, (.v 0)⟩, ⟨.list, (.v 1)⟩, ⟨(.int .i64), (.v 2)⟩, ⟨.list, (.v 3)⟩, ⟨(.int .i64), (.n 4)⟩, ⟨(.int .i64), (.v 4)⟩, ⟨.list, (.v 7)⟩] [.bool, .bool] <|
.call 1 [⟨.bool, (.v 0)⟩, ⟨.list, (.v 1)⟩, ⟨(.int .i64), (.v 2)⟩, ⟨.list, (.v 3)⟩, ⟨(.int .i64), (.n 6)⟩, ⟨(.int .i64), (.v 4)⟩, ⟨.list, (.v 7)⟩] [.bool, .bool] <|
.call 1 [⟨.bool, (.v 0)⟩, ⟨.list, (.v 1)⟩, ⟨(.int .i64), (.v 2)⟩, ⟨.list, (.v 3)⟩, ⟨(.int .i64), (.n 7)⟩, ⟨(.int .i64), (.v 4)⟩, ⟨.list, (.v 7)⟩] [.bool, .bool] <|
.call 0 [⟨.bool, (.v 0)⟩, ⟨.list, (.v 1)⟩, ⟨(.int .i64), (.v 2)⟩, ⟨.list, (.v 3)⟩, ⟨.bool, (.b true)⟩] [.list] <|
.call 2 [⟨.list, (.v 17)⟩, ⟨(.int .i64), (.v 4)⟩] [(.int .i64)] <|
.letp .eqI [⟨(.int .i64), (.v 18)⟩, ⟨(.int .i64), (.v 8)⟩] <|
.join [.bool] (
 .letp .eqI [⟨(.int .i64), (.v 8)⟩, ⟨(.int .i64), (.n 1)⟩] <|
 .ite (.v 20) (
 .jump [⟨.bool, (.v 9)⟩]) <|
 .jump [⟨.bool, (.b false)⟩]) <|
.ite (.v 20) (
 .call 3 [⟨.bool, (.v 0)⟩, ⟨.list, (.v 1)⟩, ⟨(.int .i64), (.v 2)⟩, ⟨.list, (.v 3)⟩, ⟨(.int .i64), (.n 6)⟩, ⟨(.int .i64), (.v 4)⟩, ⟨.list, .e⟩] [.bool, .bool, .list, (.int .i64), .list] <|
 .ret [⟨.bool, (.v 22)⟩, ⟨.list, (.v 23)⟩, ⟨(.int .i64), (.v 24)⟩, ⟨.list, (.v 25)⟩]) <|
.join [.bool] (
 .letp .eqI [⟨(.int .i64), (.v 8)⟩, ⟨(.int .i64), (.n 1)⟩] <|
 .ite (.v 21) (
 .jump [⟨.bool, (.v 12)⟩]) <|
 .jump [⟨.bool, (.b false)⟩]) <|
.ite (.v 21) (
 .call 3 [⟨.bool, (.v 0)⟩, ⟨.list, (.v 1)⟩, ⟨(.int .i64), (.v 2)⟩, ⟨.list, (.v 3)⟩, ⟨(.int .i64), (.n 5)⟩, ⟨(.int .i64), (.v 4)⟩, ⟨.list, .e⟩] [.bool, .bool, .list, (.int .i64), .list] <|
 .ret [⟨.bool, (.v 23)⟩, ⟨.list, (.v 24)⟩, ⟨(.int .i64), (.v 25)⟩, ⟨.list, (.v 26)⟩]) <|
.letp .eqI [⟨(.int .i64), (.v 8)⟩, ⟨(.int .i64), (.n 2)⟩] <|
.ite (.v 22) (
 .ite (.v 19) (
 .ite (.v 14) (
 .call 3 [⟨.bool, (.v 0)⟩, ⟨.list, (.v 1)⟩, ⟨(.int .i64), (.v 2)⟩, ⟨.list, (.v 3)⟩, ⟨(.int .i64), (.n 7)⟩, ⟨(.int .i64), (.v 4)⟩, ⟨.list, .e⟩] [.bool, .bool, .list, (.int .i64), .list] <|
 .ret [⟨.bool, (.v 24)⟩, ⟨.list, (.v 25)⟩, ⟨(.int .i64), (.v 26)⟩, ⟨.list, (.v 27)⟩]) <|
 .letp .eqI [⟨(.int .i64), (.v 8)⟩, ⟨(.int .i64), (.n 3)⟩] <|
 .ite (.v 23) (
 .ite (.v 19) (
 .ite (.v 16) (
 .call 3 [⟨.bool, (.v 0)⟩, ⟨.list, (.v 1)⟩, ⟨(.int .i64), (.v 2)⟩, ⟨.list, (.v 3)⟩, ⟨(.int .i64), (.n 7)⟩, ⟨(.int .i64), (.v 4)⟩, ⟨.list, .e⟩] [.bool, .bool, .list, (.int .i64), .list] <|
 .ret [⟨.bool, (.v 25)⟩, ⟨.list, (.v 26)⟩, ⟨(.int .i64), (.v 27)⟩, ⟨.list, (.v 28)⟩]) <|
 .ret [⟨.bool, (.v 0)⟩, ⟨.list, (.v 1)⟩, ⟨(.int .i64), (.v 2)⟩, ⟨.list, (.v 3)⟩]) <|
 .ret [⟨.bool, (.v 0)⟩, ⟨.list, (.v 1)⟩, ⟨(.int .i64), (.v 2)⟩, ⟨.list, (.v 3)⟩]) <|
 .ret [⟨.bool, (.v 0)⟩, ⟨.list, (.v 1)⟩, ⟨(.int .i64), (.v 2)⟩, ⟨.list, (.v 3)⟩]) <|
 .letp .eqI [⟨(.int .i64), (.v 8)⟩, ⟨(.int .i64), (.n 3)⟩] <|
 .ite (.v 23) (
 .ite (.v 19) (
 .ite (.v 16) (
 .call 3 [⟨.bool, (.v 0)⟩, ⟨.list, (.v 1)⟩, ⟨(.int .i64), (.v 2)⟩, ⟨.list, (.v 3)⟩, ⟨(.int .i64), (.n 7)⟩, ⟨(.int .i64), (.v 4)⟩, ⟨.list, .e⟩] [.bool, .bool, .list, (.int .i64), .list] <|
 .ret [⟨.bool, (.v 25)⟩, ⟨.list, (.v 26)⟩, ⟨(.int .i64), (.v 27)⟩, ⟨.list, (.v 28)⟩]) <|
 .ret [⟨.bool, (.v 0)⟩, ⟨.list, (.v 1)⟩, ⟨(.int .i64), (.v 2)⟩, ⟨.list, (.v 3)⟩]) <|
 .ret [⟨.bool, (.v 0)⟩, ⟨.list, (.v 1)⟩, ⟨(.int .i64), (.v 2)⟩, ⟨.list, (.v 3)⟩]) <|
 .ret [⟨.bool, (.v 0)⟩, ⟨.list, (.v 1)⟩, ⟨(.int .i64), (.v 2)⟩, ⟨.list, (.v 3)⟩]) <|
.letp .eqI [⟨(.int .i64), (.v 8)⟩, ⟨(.int .i64), (.n 3)⟩] <|
.ite (.v 23) (
 .ite (.v 19) (
 .ite (.v 16) (
 .call 3 [⟨.bool, (.v 0)⟩, ⟨.list, (.v 1)⟩, ⟨(.int .i64), (.v 2)⟩, ⟨.list, (.v 3)⟩, ⟨(.int .i64), (.n 7)⟩, ⟨(.int .i64), (.v 4)⟩, ⟨.list, .e⟩] [.bool, .bool, .list, (.int .i64), .list] <|
 .ret [⟨.bool, (.v 25)⟩, ⟨.list, (.v 26)⟩, ⟨(.int .i64), (.v 27)⟩, ⟨.list, (.v 28)⟩]) <|
 .ret [⟨.bool, (.v 0)⟩, ⟨.list, (.v 1)⟩, ⟨(.int .i64), (.v 2)⟩, ⟨.list, (.v 3)⟩]) <|
 .ret [⟨.bool, (.v 0)⟩, ⟨.list, (.v 1)⟩, ⟨(.int .i64), (.v 2)⟩, ⟨.list, (.v 3)⟩]) <|
.ret [⟨.bool, (.v 0)⟩, ⟨.list, (.v 1)⟩, ⟨(.int .i64), (.v 2)⟩, ⟨.list, (.v 3)⟩]
def Φ_bl : Phi := fun n => match n with
  | 0 => φ_ce
  | 1 => φ_cd
  | 2 => φ_en
  | 3 => φ_ca
  | _ => fun _ => none
def φ_bl (cs : List C) : Option (List C) := retOf (den Φ_bl t_bl cs)
def J_bl_0 (x0 : Bool) (x1 : LL) (x2 : Int) (x3 : LL) (x4 x8 : Int) (x14 x16 : Bool) (x19 x21 : Bool) : Option Out :=
 iteD x21 (
 callD (φ_ca [C.bool x0, C.list x1, C.int .i64 x2, C.list x3, C.int .i64 5, C.int .i64 x4, C.list ([] : LL)]) [.bool, .bool, .list, (.int .i64), .list] fun r22 =>
 let x22 := (getC r22 0).toBool
 let x23 := (getC r22 1).toBool
 let x24 := (getC r22 2).toList
 let x25 := (getC r22 3).toInt
 let x26 := (getC r22 4).toList
 some (.ret [C.bool x23, C.list x24, C.int .i64 x25, C.list x26])) <|
 let x22 := (x8 == 2)
 iteD x22 (
 iteD x19 (
 iteD x14 (
 callD (φ_ca [C.bool x0, C.list x1, C.int .i64 x2, C.list x3, C.int .i64 7, C.int .i64 x4, C.list ([] : LL)]) [.bool, .bool, .list, (.int .i64), .list] fun r23 =>
 let x23 := (getC r23 0).toBool
 let x24 := (getC r23 1).toBool
 let x25 := (getC r23 2).toList
 let x26 := (getC r23 3).toInt
 let x27 := (getC r23 4).toList
 some (.ret [C.bool x24, C.list x25, C.int .i64 x26, C.list x27])) <|
 let x23 := (x8 == 3)
 iteD x23 (
 iteD x19 (
 iteD x16 (
 callD (φ_ca [C.bool x0, C.list x1, C.int .i64 x2, C.list x3, C.int .i64 7, C.int .i64 x4, C.list ([] : LL)]) [.bool, .bool, .list, (.int .i64), .list] fun r24 =>
 let x24 := (getC r24 0).toBool
 let x25 := (getC r24 1).toBool
 let x26 := (getC r24 2).toList
 let x27 := (getC r24 3).toInt
 let x28 := (getC r24 4).toList
 some (.ret [C.bool x25, C.list x26, C.int .i64 x27, C.list x28])) <|
 some (.ret [C.bool x0, C.list x1, C.int .i64 x2, C.list x3])) <|
 some (.ret [C.bool x0, C.list x1, C.int .i64 x2, C.list x3])) <|
 some (.ret [C.bool x0, C.list x1, C.int .i64 x2, C.list x3])) <|
 let x23 := (x8 == 3)
 iteD x23 (
 iteD x19 (
 iteD x16 (
 callD (φ_ca [C.bool x0, C.list x1, C.int .i64 x2, C.list x3, C.int .i64 7, C.int .i64 x4, C.list ([] : LL)]) [.bool, .bool, .list, (.int .i64), .list] fun r24 =>
 let x24 := (getC r24 0).toBool
 let x25 := (getC r24 1).toBool
 let x26 := (getC r24 2).toList
 let x27 := (getC r24 3).toInt
 let x28 := (getC r24 4).toList
 some (.ret [C.bool x25, C.list x26, C.int .i64 x27, C.list x28])) <|
 some (.ret [C.bool x0, C.list x1, C.int .i64 x2, C.list x3])) <|
 some (.ret [C.bool x0, C.list x1, C.int .i64 x2, C.list x3])) <|
 some (.ret [C.bool x0, C.list x1, C.int .i64 x2, C.list x3])) <|
 let x23 := (x8 == 3)
 iteD x23 (
 iteD x19 (
 iteD x16 (
 callD (φ_ca [C.bool x0, C.list x1, C.int .i64 x2, C.list x3, C.int .i64 7, C.int .i64 x4, C.list ([] : LL)]) [.bool, .bool, .list, (.int .i64), .list] fun r24 =>
 let x24 := (getC r24 0).toBool
 let x25 := (getC r24 1).toBool
 let x26 := (getC r24 2).toList
 let x27 := (getC r24 3).toInt
 let x28 := (getC r24 4).toList
 some (.ret [C.bool x25, C.list x26, C.int .i64 x27, C.list x28])) <|
 some (.ret [C.bool x0, C.list x1, C.int .i64 x2, C.list x3])) <|
 some (.ret [C.bool x0, C.list x1, C.int .i64 x2, C.list x3])) <|
 some (.ret [C.bool x0, C.list x1, C.int .i64 x2, C.list x3])
def J_bl_1 (x0 : Bool) (x1 : LL) (x2 : Int) (x3 : LL) (x4 x8 : Int) (x12 x14 : Bool) (x16 x19 x20 : Bool) : Option Out :=
 iteD x20 (
 callD (φ_ca [C.bool x0, C.list x1, C.int .i64 x2, C.list x3, C.int .i64 6, C.int .i64 x4, C.list ([] : LL)]) [.bool, .bool, .list, (.int .i64), .list] fun r21 =>
 let x21 := (getC r21 0).toBool
 let x22 := (getC r21 1).toBool
 let x23 := (getC r21 2).toList
 let x24 := (getC r21 3).toInt
 let x25 := (getC r21 4).toList
 some (.ret [C.bool x22, C.list x23, C.int .i64 x24, C.list x25])) <|
 joinD (
 let x21 := (x8 == 1)
 iteD x21 (
 some (.jump [C.bool x12])) <|
 some (.jump [C.bool false])) fun ps => J_bl_0 x0 x1 x2 x3 x4 x8 x14 x16 x19 ((getC ps 0).toBool)
def F_bl (x0 : Bool) (x1 : LL) (x2 : Int) (x3 : LL) (x4 : Int) : Option Out :=
 callD (φ_ce [C.bool x0, C.list x1, C.int .i64 x2, C.list x3, C.bool false]) [.list] fun r5 =>
 let x5 := (getC r5 0).toList
 let x6 := IntKind.wrap .i64 (x4 - 1)
 rowD (.list x5) (.int .i64 x6) [.list, (.int .i64)] fun r7 =>
 let x7 := (getC r7 0).toList
 let x8 := (getC r7 1).toInt
 callD (φ_cd [C.bool x0, C.list x1, C.int .i64 x2, C.list x3, C.int .i64 5, C.int .i64 x4, C.list x7]) [.bool, .bool] fun r9 =>
 let x9 := (getC r9 0).toBool
 let x10 := (getC r9 1).toBool
 callD (φ_cd [C.bool x0, C.list x1, C.int .i64 x2, C.list x3, C.int .i64 4, C.int .i64 x4, C.list x7]) [.bool, .bool] fun r11 =>
 let x11 := (getC r11 0).toBool
 let x12 := (getC r11 1).toBool
 callD (φ_cd [C.bool x0, C.list x1, C.int .i64 x2, C.list x3, C.int .i64 6, C.int .i64 x4, C.list x7]) [.bool, .bool] fun r13 =>
 let x13 := (getC r13 0).toBool
 let x14 := (getC r13 1).toBool
 callD (φ_cd [C.bool x0, C.list x1, C.int .i64 x2, C.list x3, C.int .i64 7, C.int .i64 x4, C.list x7]) [.bool, .bool] fun r15 =>
 let x15 := (getC r15 0).toBool
 let x16 := (getC r15 1).toBool
 callD (φ_ce [C.bool x0, C.list x1, C.int .i64 x2, C.list x3, C.bool true]) [.list] fun r17 =>
 let x17 := (getC r17 0).toList
 callD (φ_en [C.list x17, C.int .i64 x4]) [(.int .i64)] fun r18 =>
 let x18 := (getC r18 0).toInt
 let x19 := (x18 == x8)
 joinD (
 let x20 := (x8 == 1)
 iteD x20 (
 some (.jump [C.bool x9])) <|
 some (.jump [C.bool false])) fun ps => J_bl_1 x0 x1 x2 x3 x4 x8 x12 x14 x16 x19 ((getC ps 0).toBool)
def t_cq : Tree :=
.letp .not [vB 0] <|
.ite (.v 8) (
 .ret [vB 0, vL 1, vI 2, vL 3]) <|
.call 0 [vI 4, vI 5, vI 6, vI 7] [.bool] <|
.letp .not [vB 9] <|
.ite (.v 10) (
 .ret [vB 0, vL 1, vI 2, vL 3]) <|
.call 1 [vI 4, vI 5, vI 6, vI 7] [.bool] <|
.letp .not [vB 11] <|
.ite (.v 12) (
 .ret [vB 0, vL 1, vI 2, vL 3]) <|
.call 2 [vB 0, vL 1, vI 2, vL 3, ⟨.bool, (.b false)⟩] [.list] <|
.letp .len [vL 13] <|
.letp .gtI [vI 6, vI 14] <|
.ite (.v 15) (
 .ret [vB 0, vL 1, vI 2, vL 3]) <|
.call 3 [vL 3, vI 4, vI 5, vI 6, vI 7] [.bool] <|
.letp .not [vB 16] <|
.ite (.v 17) (
 .letp (.mkl 4) [vI 4, vI 5, vI 6, vI 7] <|
 .chk .fits [vL 3, vL 18] <|
 .letp .app [vL 3, vL 18] <|
 .call 4 [vB 0, vL 1, vI 2, vL 19, vI 6] [.bool, .list, kI, .list] <|
 .ret [vB 20, vL 21, vI 22, vL 23]) <|
.call 4 [vB 0, vL 1, vI 2, vL 3, vI 6] [.bool, .list, kI, .list] <|
.ret [vB 18, vL 19, vI 20, vL 21]
def Φ_cq : Phi := ph [φ_fd, φ_bo, φ_ce, φ_ap, φ_bl]
def φ_cq := mir Φ_cq t_cq
def F_cq (x0 : Bool) (x1 : LL) (x2 : Int) (x3 : LL) (x4 x5 : Int) (x6 x7 : Int) : Option Out :=
 let x8 := (!x0)
 iteD x8 (
 some (.ret [C.bool x0, C.list x1, C.int .i64 x2, C.list x3])) <|
 callD (φ_fd [C.int .i64 x4, C.int .i64 x5, C.int .i64 x6, C.int .i64 x7]) [.bool] fun r9 =>
 let x9 := (getC r9 0).toBool
 let x10 := (!x9)
 iteD x10 (
 some (.ret [C.bool x0, C.list x1, C.int .i64 x2, C.list x3])) <|
 callD (φ_bo [C.int .i64 x4, C.int .i64 x5, C.int .i64 x6, C.int .i64 x7]) [.bool] fun r11 =>
 let x11 := (getC r11 0).toBool
 let x12 := (!x11)
 iteD x12 (
 some (.ret [C.bool x0, C.list x1, C.int .i64 x2, C.list x3])) <|
 callD (φ_ce [C.bool x0, C.list x1, C.int .i64 x2, C.list x3, C.bool false]) [.list] fun r13 =>
 let x13 := (getC r13 0).toList
 let x14 : Int := x13.length
 let x15 := decide (x6 > x14)
 iteD x15 (
 some (.ret [C.bool x0, C.list x1, C.int .i64 x2, C.list x3])) <|
 callD (φ_ap [C.list x3, C.int .i64 x4, C.int .i64 x5, C.int .i64 x6, C.int .i64 x7]) [.bool] fun r16 =>
 let x16 := (getC r16 0).toBool
 let x17 := (!x16)
 iteD x17 (
 let x18 := [[C.int .i64 x4, C.int .i64 x5, C.int .i64 x6, C.int .i64 x7]]
 whenD (decide (x3.length + x18.length <= LMAX)) <|
 let x19 := (x3 ++ x18)
 callD (φ_bl [C.bool x0, C.list x1, C.int .i64 x2, C.list x19, C.int .i64 x6]) [.bool, .list, (.int .i64), .list] fun r20 =>
 let x20 := (getC r20 0).toBool
 let x21 := (getC r20 1).toList
 let x22 := (getC r20 2).toInt
 let x23 := (getC r20 3).toList
 some (.ret [C.bool x20, C.list x21, C.int .i64 x22, C.list x23])) <|
 callD (φ_bl [C.bool x0, C.list x1, C.int .i64 x2, C.list x3, C.int .i64 x6]) [.bool, .list, (.int .i64), .list] fun r18 =>
 let x18 := (getC r18 0).toBool
 let x19 := (getC r18 1).toList
 let x20 := (getC r18 2).toInt
 let x21 := (getC r18 3).toList
 some (.ret [C.bool x18, C.list x19, C.int .i64 x20, C.list x21])
def t_dd : Tree :=
.call 0 [vI 0, nI 0, nI 9] [.bool] <|
.letp .not [vB 1] <|
.ite (.v 2) (
 .ret [nI 0, ⟨.list, .e⟩, ⟨.bool, (.b false)⟩]) <|
.letp .rep [nI 6, nI 0, nI 0] <|
.ret [vI 0, vL 3, ⟨.bool, (.b true)⟩]
def Φ_dd : Phi := ph [φ_gd]
def φ_dd := mir Φ_dd t_dd
def F_dd (x0 : Int) : Option Out :=
 callD (φ_gd [C.int .i64 x0, C.int .i64 0, C.int .i64 9]) [.bool] fun r1 =>
 let x1 := (getC r1 0).toBool
 let x2 := (!x1)
 iteD x2 (
 some (.ret [C.int .i64 0, C.list ([] : LL), C.bool false])) <|
 let x3 := (List.replicate (Int.toNat 6) [C.int .i64 0, C.int .i64 0])
 some (.ret [C.int .i64 x0, C.list x3, C.bool true])
def t_ek : Tree :=
.letp .eqI [vI 1, nI 0] <|
.ite (.v 2) (
 .letp .eqI [vI 0, nI 0] <|
 .ret [vB 3]) <|
.letp .eqI [vI 1, nI 1] <|
.ite (.v 3) (
 .call 0 [vI 0, nI 1, nI 3] [.bool] <|
 .ret [vB 4]) <|
.letp .eqI [vI 1, nI 2] <|
.ite (.v 4) (
 .call 0 [vI 0, nI 1, nI 3] [.bool] <|
 .ret [vB 5]) <|
.letp .eqI [vI 1, nI 3] <|
.ite (.v 5) (
 .call 0 [vI 0, nI 0, nI 3] [.bool] <|
 .ret [vB 6]) <|
.ret [⟨.bool, (.b false)⟩]
def Φ_ek : Phi := ph [φ_gd]
def φ_ek := mir Φ_ek t_ek
def F_ek (x0 x1 : Int) : Option Out :=
 let x2 := (x1 == 0)
 iteD x2 (
 let x3 := (x0 == 0)
 some (.ret [C.bool x3])) <|
 let x3 := (x1 == 1)
 iteD x3 (
 callD (φ_gd [C.int .i64 x0, C.int .i64 1, C.int .i64 3]) [.bool] fun r4 =>
 let x4 := (getC r4 0).toBool
 some (.ret [C.bool x4])) <|
 let x4 := (x1 == 2)
 iteD x4 (
 callD (φ_gd [C.int .i64 x0, C.int .i64 1, C.int .i64 3]) [.bool] fun r5 =>
 let x5 := (getC r5 0).toBool
 some (.ret [C.bool x5])) <|
 let x5 := (x1 == 3)
 iteD x5 (
 callD (φ_gd [C.int .i64 x0, C.int .i64 0, C.int .i64 3]) [.bool] fun r6 =>
 let x6 := (getC r6 0).toBool
 some (.ret [C.bool x6])) <|
 some (.ret [C.bool false])
def t_cp : Tree :=
.call 0 [vI 0, vI 1] [.bool] <|
.letp .not [vB 2] <|
.ret [vB 3]
def Φ_cp : Phi := ph [φ_ek]
def φ_cp := mir Φ_cp t_cp
def F_cp (x0 x1 : Int) : Option Out :=
 callD (φ_ek [C.int .i64 x0, C.int .i64 x1]) [.bool] fun r2 =>
 let x2 := (getC r2 0).toBool
 let x3 := (!x2)
 some (.ret [C.bool x3])
def t_ag : Tree :=
.letp .len [vL 0] <|
.iter [nI 0] <|
.letp .ltI [vI 2, vI 1] <|
.ite (.v 3) (
 .row (.v 0) (.v 2) [kI, kI] <|
 .call 0 [vI 4, vI 5] [.bool] <|
 .ite (.v 6) (
 .up <|
 .ret [vI 2]) <|
 .letp (.add .i64) [vI 2, nI 1] <|
 .jump [vI 7]) <|
.up <|
.ret [⟨kI, (.n (-1))⟩]
def Φ_ag : Phi := ph [φ_cp]
def φ_ag := mir Φ_ag t_ag
def L_ag_0 (x0 : LL) (x1 x2 : Int) : Option Out :=
 let x3 := decide (x2 < x1)
 iteD x3 (
 rowD (.list x0) (.int .i64 x2) [(.int .i64), (.int .i64)] fun r4 =>
 let x4 := (getC r4 0).toInt
 let x5 := (getC r4 1).toInt
 callD (φ_cp [C.int .i64 x4, C.int .i64 x5]) [.bool] fun r6 =>
 let x6 := (getC r6 0).toBool
 iteD x6 (
 upD <|
 some (.ret [C.int .i64 x2])) <|
 let x7 := IntKind.wrap .i64 (x2 + 1)
 some (.jump [C.int .i64 x7])) <|
 upD <|
 some (.ret [C.int .i64 (-1)])
def F_ag (x0 : LL) : Option Out :=
 let x1 : Int := x0.length
 iterD (fun ps => L_ag_0 x0 x1 ((getC ps 0).toInt)) [C.int .i64 0]
def t_af : Tree :=
.call 0 [vL 0] [kI] <|
.letp .geI [vI 1, nI 0] <|
.ret [vB 2]
def Φ_af : Phi := ph [φ_ag]
def φ_af := mir Φ_af t_af
def F_af (x0 : LL) : Option Out :=
 callD (φ_ag [C.list x0]) [(.int .i64)] fun r1 =>
 let x1 := (getC r1 0).toInt
 let x2 := decide (x1 >= 0)
 some (.ret [C.bool x2])
def t_bs : Tree :=
.letp .len [vL 1] <|
.iter [vI 0, nI 0] <|
.letp .ltI [vI 4, vI 2] <|
.ite (.v 5) (
 .row (.v 1) (.v 4) [kI, kI] <|
 .letp .eqI [vI 7, nI 1] <|
 .ite (.v 8) (
 .letp (.sub .i64) [vI 3, vI 6] <|
 .letp (.add .i64) [vI 4, nI 1] <|
 .jump [vI 9, vI 10]) <|
 .letp .eqI [vI 7, nI 2] <|
 .ite (.v 9) (
 .letp (.sub .i64) [vI 3, vI 6] <|
 .letp (.add .i64) [vI 4, nI 1] <|
 .jump [vI 10, vI 11]) <|
 .letp (.add .i64) [vI 4, nI 1] <|
 .jump [vI 3, vI 10]) <|
.up <|
.ret [vI 3]
def φ_bs := mir (ph []) t_bs
def L_bs_0 (x1 : LL) (x2 x3 x4 : Int) : Option Out :=
 let x5 := decide (x4 < x2)
 iteD x5 (
 rowD (.list x1) (.int .i64 x4) [(.int .i64), (.int .i64)] fun r6 =>
 let x6 := (getC r6 0).toInt
 let x7 := (getC r6 1).toInt
 let x8 := (x7 == 1)
 iteD x8 (
 let x9 := IntKind.wrap .i64 (x3 - x6)
 let x10 := IntKind.wrap .i64 (x4 + 1)
 some (.jump [C.int .i64 x9, C.int .i64 x10])) <|
 let x9 := (x7 == 2)
 iteD x9 (
 let x10 := IntKind.wrap .i64 (x3 - x6)
 let x11 := IntKind.wrap .i64 (x4 + 1)
 some (.jump [C.int .i64 x10, C.int .i64 x11])) <|
 let x10 := IntKind.wrap .i64 (x4 + 1)
 some (.jump [C.int .i64 x3, C.int .i64 x10])) <|
 upD <|
 some (.ret [C.int .i64 x3])
def F_bs (x0 : Int) (x1 : LL) : Option Out :=
 let x2 : Int := x1.length
 iterD (fun ps => L_bs_0 x1 x2 ((getC ps 0).toInt) ((getC ps 1).toInt)) [C.int .i64 x0, C.int .i64 0]
def t_ej : Tree :=
.call 0 [vI 0, nI 0, nI 9] [.bool] <|
.ite (.v 2) (
 .letp .len [vL 1] <|
 .letp .eqI [vI 3, nI 6] <|
 .ite (.v 4) (
 .call 1 [vL 1] [.bool] <|
 .letp .not [vB 5] <|
 .ite (.v 6) (
 .call 2 [vI 0, vL 1] [kI] <|
 .letp .geI [vI 7, nI 0] <|
 .ret [vB 8]) <|
 .ret [⟨.bool, (.b false)⟩]) <|
 .ret [⟨.bool, (.b false)⟩]) <|
.ret [⟨.bool, (.b false)⟩]
def Φ_ej : Phi := ph [φ_gd, φ_af, φ_bs]
def φ_ej := mir Φ_ej t_ej
def F_ej (x0 : Int) (x1 : LL) : Option Out :=
 callD (φ_gd [C.int .i64 x0, C.int .i64 0, C.int .i64 9]) [.bool] fun r2 =>
 let x2 := (getC r2 0).toBool
 iteD x2 (
 let x3 : Int := x1.length
 let x4 := (x3 == 6)
 iteD x4 (
 callD (φ_af [C.list x1]) [.bool] fun r5 =>
 let x5 := (getC r5 0).toBool
 let x6 := (!x5)
 iteD x6 (
 callD (φ_bs [C.int .i64 x0, C.list x1]) [(.int .i64)] fun r7 =>
 let x7 := (getC r7 0).toInt
 let x8 := decide (x7 >= 0)
 some (.ret [C.bool x8])) <|
 some (.ret [C.bool false])) <|
 some (.ret [C.bool false])) <|
 some (.ret [C.bool false])
def t_dm : Tree :=
.call 0 [vI 0, vL 1] [.bool] <|
.letp .not [vB 5] <|
.ite (.v 6) (
 .ret [⟨.bool, (.b false)⟩]) <|
.call 1 [vI 2, vI 3, vL 4] [.bool] <|
.letp .not [vB 7] <|
.ite (.v 8) (
 .ret [⟨.bool, (.b false)⟩]) <|
.letp (.sub .i64) [vI 3, nI 1] <|
.row (.v 1) (.v 9) [kI, kI] <|
.letp .eqI [vI 2, nI 1] <|
.ite (.v 12) (
 .letp .eqI [vI 11, nI 0] <|
 .ite (.v 13) (
 .row (.v 4) (.n 0) [kI] <|
 .call 2 [vI 0, vL 1] [kI] <|
 .letp .leI [vI 14, vI 15] <|
 .ret [vB 16]) <|
 .ret [⟨.bool, (.b false)⟩]) <|
.letp .eqI [vI 2, nI 2] <|
.ite (.v 13) (
 .letp .eqI [vI 11, nI 1] <|
 .ret [vB 14]) <|
.letp .eqI [vI 2, nI 3] <|
.ite (.v 14) (
 .letp .eqI [vI 11, nI 1] <|
 .ite (.v 15) (
 .ret [⟨.bool, (.b true)⟩]) <|
 .letp .eqI [vI 11, nI 0] <|
 .ret [vB 16]) <|
.ret [⟨.bool, (.b false)⟩]
def Φ_dm : Phi := ph [φ_ej, φ_fu, φ_bs]
def φ_dm := mir Φ_dm t_dm
def F_dm (x0 : Int) (x1 : LL) (x2 x3 : Int) (x4 : LL) : Option Out :=
 callD (φ_ej [C.int .i64 x0, C.list x1]) [.bool] fun r5 =>
 let x5 := (getC r5 0).toBool
 let x6 := (!x5)
 iteD x6 (
 some (.ret [C.bool false])) <|
 callD (φ_fu [C.int .i64 x2, C.int .i64 x3, C.list x4]) [.bool] fun r7 =>
 let x7 := (getC r7 0).toBool
 let x8 := (!x7)
 iteD x8 (
 some (.ret [C.bool false])) <|
 let x9 := IntKind.wrap .i64 (x3 - 1)
 rowD (.list x1) (.int .i64 x9) [(.int .i64), (.int .i64)] fun r10 =>
 let x10 := (getC r10 0).toInt
 let x11 := (getC r10 1).toInt
 let x12 := (x2 == 1)
 iteD x12 (
 let x13 := (x11 == 0)
 iteD x13 (
 rowD (.list x4) (.int .i64 0) [(.int .i64)] fun r14 =>
 let x14 := (getC r14 0).toInt
 callD (φ_bs [C.int .i64 x0, C.list x1]) [(.int .i64)] fun r15 =>
 let x15 := (getC r15 0).toInt
 let x16 := decide (x14 <= x15)
 some (.ret [C.bool x16])) <|
 some (.ret [C.bool false])) <|
 let x13 := (x2 == 2)
 iteD x13 (
 let x14 := (x11 == 1)
 some (.ret [C.bool x14])) <|
 let x14 := (x2 == 3)
 iteD x14 (
 let x15 := (x11 == 1)
 iteD x15 (
 some (.ret [C.bool true])) <|
 let x16 := (x11 == 0)
 some (.ret [C.bool x16])) <|
 some (.ret [C.bool false])
def t_au : Tree :=
.letp .isNil [vL 0] <|
.ite (.v 1) (
 .both (
 .ret [⟨.list, .e⟩]) <|
 .chk (.rowsk [kI, kI]) [vL 0] <|
 .chk .fits [⟨.list, .e⟩, vL 0] <|
 .letp .app [⟨.list, .e⟩, vL 0] <|
 .ret [vL 2]) <|
.chk (.rowsk [kI, kI]) [vL 0] <|
.chk .fits [⟨.list, .e⟩, vL 0] <|
.letp .app [⟨.list, .e⟩, vL 0] <|
.ret [vL 2]
def φ_au := mir (ph []) t_au
def F_au (x0 : LL) : Option Out :=
 let x1 := x0.isEmpty
 iteD x1 (
 bothD (
 some (.ret [C.list ([] : LL)])) <|
 whenD ((x0.all (kindsB [(.int .i64), (.int .i64)]))) <|
 whenD (decide (([] : LL).length + x0.length <= LMAX)) <|
 let x2 := (([] : LL) ++ x0)
 some (.ret [C.list x2])) <|
 whenD ((x0.all (kindsB [(.int .i64), (.int .i64)]))) <|
 whenD (decide (([] : LL).length + x0.length <= LMAX)) <|
 let x2 := (([] : LL) ++ x0)
 some (.ret [C.list x2])
def t_eg : Tree :=
.call 0 [vI 0, vL 1, vI 2, vI 3, vL 4] [.bool] <|
.letp .not [vB 5] <|
.ite (.v 6) (
 .ret [nI 0, ⟨.list, .e⟩, ⟨.bool, (.b false)⟩]) <|
.join [.list] (
 .call 1 [vL 1] [.list] <|
 .jump [vL 7]) <|
.letp (.sub .i64) [vI 3, nI 1] <|
.chk .idx [vI 8, vL 7] <|
.letp .eqI [vI 2, nI 1] <|
.ite (.v 9) (
 .row (.v 4) (.n 0) [kI] <|
 .letp (.setr 0) [vL 7, vI 8, vI 10, nI 1] <|
 .ret [vI 0, vL 11, ⟨.bool, (.b true)⟩]) <|
.letp .eqI [vI 2, nI 2] <|
.ite (.v 10) (
 .letp (.setr 1) [vL 7, vI 8, nI 2] <|
 .ret [vI 0, vL 11, ⟨.bool, (.b true)⟩]) <|
.letp .eqI [vI 2, nI 3] <|
.ite (.v 11) (
 .letp (.setr 1) [vL 7, vI 8, nI 3] <|
 .ret [vI 0, vL 12, ⟨.bool, (.b true)⟩]) <|
.ret [vI 0, vL 7, ⟨.bool, (.b true)⟩]
def Φ_eg : Phi := ph [φ_dm, φ_au]
def φ_eg := mir Φ_eg t_eg
def J_eg_0 (x0 x2 x3 : Int) (x4 x7 : LL) : Option Out :=
 let x8 := IntKind.wrap .i64 (x3 - 1)
 whenD ((decide ((0 : Int) <= x8) && decide (x8 < (x7.length : Nat)))) <|
 let x9 := (x2 == 1)
 iteD x9 (
 rowD (.list x4) (.int .i64 0) [(.int .i64)] fun r10 =>
 let x10 := (getC r10 0).toInt
 let x11 := (setRow 0 x7 (Int.toNat x8) [C.int .i64 x10, C.int .i64 1])
 some (.ret [C.int .i64 x0, C.list x11, C.bool true])) <|
 let x10 := (x2 == 2)
 iteD x10 (
 let x11 := (setRow 1 x7 (Int.toNat x8) [C.int .i64 2])
 some (.ret [C.int .i64 x0, C.list x11, C.bool true])) <|
 let x11 := (x2 == 3)
 iteD x11 (
 let x12 := (setRow 1 x7 (Int.toNat x8) [C.int .i64 3])
 some (.ret [C.int .i64 x0, C.list x12, C.bool true])) <|
 some (.ret [C.int .i64 x0, C.list x7, C.bool true])
def F_eg (x0 : Int) (x1 : LL) (x2 x3 : Int) (x4 : LL) : Option Out :=
 callD (φ_dm [C.int .i64 x0, C.list x1, C.int .i64 x2, C.int .i64 x3, C.list x4]) [.bool] fun r5 =>
 let x5 := (getC r5 0).toBool
 let x6 := (!x5)
 iteD x6 (
 some (.ret [C.int .i64 0, C.list ([] : LL), C.bool false])) <|
 joinD (
 callD (φ_au [C.list x1]) [.list] fun r7 =>
 let x7 := (getC r7 0).toList
 some (.jump [C.list x7])) fun ps => J_eg_0 x0 x2 x3 x4 ((getC ps 0).toList)
def t_er : Tree :=
.call 0 [vI 0] [kI, .list, .bool] <|
.iter [vB 4, nI 0, vI 2, vL 3] <|
.ite (.v 5) (
 .letp .len [vL 1] <|
 .letp .ltI [vI 6, vI 9] <|
 .ite (.v 10) (
 .row (.v 1) (.v 6) [kI, kI, .list] <|
 .call 1 [vI 7, vL 8, vI 11, vI 12, vL 13] [kI, .list, .bool] <|
 .letp (.add .i64) [vI 6, nI 1] <|
 .jump [vB 16, vI 17, vI 14, vL 15]) <|
 .up <|
 .ret [vI 7, vL 8, vB 5]) <|
.up <|
.ret [vI 7, vL 8, vB 5]
def Φ_er : Phi := ph [φ_dd, φ_eg]
def φ_er := mir Φ_er t_er
def L_er_0 (x1 : LL) (x5 : Bool) (x6 x7 : Int) (x8 : LL) : Option Out :=
 iteD x5 (
 let x9 : Int := x1.length
 let x10 := decide (x6 < x9)
 iteD x10 (
 rowD (.list x1) (.int .i64 x6) [(.int .i64), (.int .i64), .list] fun r11 =>
 let x11 := (getC r11 0).toInt
 let x12 := (getC r11 1).toInt
 let x13 := (getC r11 2).toList
 callD (φ_eg [C.int .i64 x7, C.list x8, C.int .i64 x11, C.int .i64 x12, C.list x13]) [(.int .i64), .list, .bool] fun r14 =>
 let x14 := (getC r14 0).toInt
 let x15 := (getC r14 1).toList
 let x16 := (getC r14 2).toBool
 let x17 := IntKind.wrap .i64 (x6 + 1)
 some (.jump [C.bool x16, C.int .i64 x17, C.int .i64 x14, C.list x15])) <|
 upD <|
 some (.ret [C.int .i64 x7, C.list x8, C.bool x5])) <|
 upD <|
 some (.ret [C.int .i64 x7, C.list x8, C.bool x5])
def F_er (x0 : Int) (x1 : LL) : Option Out :=
 callD (φ_dd [C.int .i64 x0]) [(.int .i64), .list, .bool] fun r2 =>
 let x2 := (getC r2 0).toInt
 let x3 := (getC r2 1).toList
 let x4 := (getC r2 2).toBool
 iterD (fun ps => L_er_0 x1 ((getC ps 0).toBool) ((getC ps 1).toInt) ((getC ps 2).toInt) ((getC ps 3).toList)) [C.bool x4, C.int .i64 0, C.int .i64 x2, C.list x3]
def t_dz : Tree :=
.call 0 [vI 0] [.bool] <|
.letp .not [vB 5] <|
.ite (.v 6) (
 .ret [⟨.bool, (.b false)⟩]) <|
.call 1 [vL 3, vI 4] [.bool] <|
.letp .not [vB 7] <|
.ite (.v 8) (
 .ret [⟨.bool, (.b false)⟩]) <|
.call 2 [vI 2, vL 3] [kI, .list, .bool] <|
.ret [vB 11]
def Φ_dz : Phi := ph [φ_ec, φ_fw, φ_er]
def φ_dz := mir Φ_dz t_dz
def F_dz (x0 : Int) (x1 : Bool) (x2 : Int) (x3 : LL) (x4 : Int) : Option Out :=
 callD (φ_ec [C.int .i64 x0]) [.bool] fun r5 =>
 let x5 := (getC r5 0).toBool
 let x6 := (!x5)
 iteD x6 (
 some (.ret [C.bool false])) <|
 callD (φ_fw [C.list x3, C.int .i64 x4]) [.bool] fun r7 =>
 let x7 := (getC r7 0).toBool
 let x8 := (!x7)
 iteD x8 (
 some (.ret [C.bool false])) <|
 callD (φ_er [C.int .i64 x2, C.list x3]) [(.int .i64), .list, .bool] fun r9 =>
 let x9 := (getC r9 0).toInt
 let x10 := (getC r9 1).toList
 let x11 := (getC r9 2).toBool
 some (.ret [C.bool x11])
def t_bb : Tree :=
.call 0 [vL 3, vI 4] [.list, kI] <|
.ret [vI 0, vB 1, vI 2, vL 5, vI 6]
def Φ_bb : Phi := ph [φ_br]
def φ_bb := mir Φ_bb t_bb
def F_bb (x0 : Int) (x1 : Bool) (x2 : Int) (x3 : LL) (x4 : Int) : Option Out :=
 callD (φ_br [C.list x3, C.int .i64 x4]) [.list, (.int .i64)] fun r5 =>
 let x5 := (getC r5 0).toList
 let x6 := (getC r5 1).toInt
 some (.ret [C.int .i64 x0, C.bool x1, C.int .i64 x2, C.list x5, C.int .i64 x6])
def t_bi : Tree :=
.call 0 [vL 3, vI 4, vB 5] [.list] <|
.call 1 [vI 2, vL 6] [kI, .list, .bool] <|
.ret [vI 7, vL 8]
def Φ_bi : Phi := ph [φ_da, φ_er]
def φ_bi := mir Φ_bi t_bi
def F_bi (x0 : Int) (x1 : Bool) (x2 : Int) (x3 : LL) (x4 : Int) (x5 : Bool) : Option Out :=
 callD (φ_da [C.list x3, C.int .i64 x4, C.bool x5]) [.list] fun r6 =>
 let x6 := (getC r6 0).toList
 callD (φ_er [C.int .i64 x2, C.list x6]) [(.int .i64), .list, .bool] fun r7 =>
 let x7 := (getC r7 0).toInt
 let x8 := (getC r7 1).toList
 let x9 := (getC r7 2).toBool
 some (.ret [C.int .i64 x7, C.list x8])
def t_aw : Tree :=
.letp (.sub .i64) [vI 7, nI 1] <|
.letp (.sub .i64) [vI 7, nI 1] <|
.call 0 [vI 0, vB 1, vI 2, vL 3, vI 4, ⟨.bool, (.b false)⟩] [kI, .list] <|
.row (.v 12) (.v 9) [kI, kI] <|
.call 0 [vI 0, vB 1, vI 2, vL 3, vI 4, ⟨.bool, (.b true)⟩] [kI, .list] <|
.row (.v 16) (.v 10) [kI, kI] <|
.join [.bool] (
 .letp .eqI [vI 5, nI 1] <|
 .ite (.v 19) (
 .letp .eqI [vI 14, nI 0] <|
 .jump [vB 20]) <|
 .jump [⟨.bool, (.b false)⟩]) <|
.ite (.v 19) (
 .ret [nI 5]) <|
.join [.bool] (
 .letp .eqI [vI 5, nI 1] <|
 .ite (.v 20) (
 .letp .eqI [vI 18, nI 1] <|
 .ite (.v 21) (
 .jump [⟨.bool, (.b true)⟩]) <|
 .letp .eqI [vI 18, nI 2] <|
 .jump [vB 22]) <|
 .jump [⟨.bool, (.b false)⟩]) <|
.ite (.v 20) (
 .ret [nI 4]) <|
.letp .eqI [vI 5, nI 1] <|
.ite (.v 21) (
 .letp .eqI [vI 18, nI 3] <|
 .ite (.v 22) (
 .ret [nI 5]) <|
 .letp .eqI [vI 5, nI 2] <|
 .ite (.v 23) (
 .letp .eqI [vI 18, nI 2] <|
 .ite (.v 24) (
 .ret [nI 6]) <|
 .letp .eqI [vI 5, nI 3] <|
 .ite (.v 25) (
 .letp .eqI [vI 18, nI 3] <|
 .ite (.v 26) (
 .ret [nI 7]) <|
 .ret [nI 0]) <|
 .ret [nI 0]) <|
 .letp .eqI [vI 5, nI 3] <|
 .ite (.v 24) (
 .letp .eqI [vI 18, nI 3] <|
 .ite (.v 25) (
 .ret [nI 7]) <|
 .ret [nI 0]) <|
 .ret [nI 0]) <|
.letp .eqI [vI 5, nI 2] <|
.ite (.v 22) (
 .letp .eqI [vI 18, nI 2] <|
 .ite (.v 23) (
 .ret [nI 6]) <|
 .letp .eqI [vI 5, nI 3] <|
 .ite (.v 24) (
 .letp .eqI [vI 18, nI 3] <|
 .ite (.v 25) (
 .ret [nI 7]) <|
 .ret [nI 0]) <|
 .ret [nI 0]) <|
.letp .eqI [vI 5, nI 3] <|
.ite (.v 23) (
 .letp .eqI [vI 18, nI 3] <|
 .ite (.v 24) (
 .ret [nI 7]) <|
 .ret [nI 0]) <|
.ret [nI 0]
def Φ_aw : Phi := ph [φ_bi]
def φ_aw := mir Φ_aw t_aw
def J_aw_0 (x5 x18 : Int) (x20 : Bool) : Option Out :=
 iteD x20 (
 some (.ret [C.int .i64 4])) <|
 let x21 := (x5 == 1)
 iteD x21 (
 let x22 := (x18 == 3)
 iteD x22 (
 some (.ret [C.int .i64 5])) <|
 let x23 := (x5 == 2)
 iteD x23 (
 let x24 := (x18 == 2)
 iteD x24 (
 some (.ret [C.int .i64 6])) <|
 let x25 := (x5 == 3)
 iteD x25 (
 let x26 := (x18 == 3)
 iteD x26 (
 some (.ret [C.int .i64 7])) <|
 some (.ret [C.int .i64 0])) <|
 some (.ret [C.int .i64 0])) <|
 let x24 := (x5 == 3)
 iteD x24 (
 let x25 := (x18 == 3)
 iteD x25 (
 some (.ret [C.int .i64 7])) <|
 some (.ret [C.int .i64 0])) <|
 some (.ret [C.int .i64 0])) <|
 let x22 := (x5 == 2)
 iteD x22 (
 let x23 := (x18 == 2)
 iteD x23 (
 some (.ret [C.int .i64 6])) <|
 let x24 := (x5 == 3)
 iteD x24 (
 let x25 := (x18 == 3)
 iteD x25 (
 some (.ret [C.int .i64 7])) <|
 some (.ret [C.int .i64 0])) <|
 some (.ret [C.int .i64 0])) <|
 let x23 := (x5 == 3)
 iteD x23 (
 let x24 := (x18 == 3)
 iteD x24 (
 some (.ret [C.int .i64 7])) <|
 some (.ret [C.int .i64 0])) <|
 some (.ret [C.int .i64 0])
def J_aw_1 (x5 x18 : Int) (x19 : Bool) : Option Out :=
 iteD x19 (
 some (.ret [C.int .i64 5])) <|
 joinD (
 let x20 := (x5 == 1)
 iteD x20 (
 let x21 := (x18 == 1)
 iteD x21 (
 some (.jump [C.bool true])) <|
 let x22 := (x18 == 2)
 some (.jump [C.bool x22])) <|
 some (.jump [C.bool false])) fun ps => J_aw_0 x5 x18 ((getC ps 0).toBool)
def F_aw (x0 : Int) (x1 : Bool) (x2 : Int) (x3 : LL) (x4 x5 : Int) (x6 x7 x8 : Int) : Option Out :=
 let x9 := IntKind.wrap .i64 (x7 - 1)
 let x10 := IntKind.wrap .i64 (x7 - 1)
 callD (φ_bi [C.int .i64 x0, C.bool x1, C.int .i64 x2, C.list x3, C.int .i64 x4, C.bool false]) [(.int .i64), .list] fun r11 =>
 let x11 := (getC r11 0).toInt
 let x12 := (getC r11 1).toList
 rowD (.list x12) (.int .i64 x9) [(.int .i64), (.int .i64)] fun r13 =>
 let x13 := (getC r13 0).toInt
 let x14 := (getC r13 1).toInt
 callD (φ_bi [C.int .i64 x0, C.bool x1, C.int .i64 x2, C.list x3, C.int .i64 x4, C.bool true]) [(.int .i64), .list] fun r15 =>
 let x15 := (getC r15 0).toInt
 let x16 := (getC r15 1).toList
 rowD (.list x16) (.int .i64 x10) [(.int .i64), (.int .i64)] fun r17 =>
 let x17 := (getC r17 0).toInt
 let x18 := (getC r17 1).toInt
 joinD (
 let x19 := (x5 == 1)
 iteD x19 (
 let x20 := (x14 == 0)
 some (.jump [C.bool x20])) <|
 some (.jump [C.bool false])) fun ps => J_aw_1 x5 x18 ((getC ps 0).toBool)
def t_ct : Tree :=
.call 0 [vI 0, vB 1, vI 2, vL 3, vI 4] [.bool] <|
.letp .not [vB 9] <|
.ite (.v 10) (
 .ret [nI 0, ⟨.bool, (.b false)⟩, nI 0, ⟨.list, .e⟩, nI 0, nI 0, nI 0, nI 0, nI 0, ⟨.bool, (.b false)⟩]) <|
.call 1 [vI 0, vB 1, vI 2, vL 3, vI 4] [kI, .bool, kI, .list, kI] <|
.letp .not [vB 12] <|
.ite (.v 16) (
 .ret [vI 11, vB 12, vI 13, vL 14, vI 15, nI 0, nI 0, nI 0, nI 0, ⟨.bool, (.b false)⟩]) <|
.call 2 [vI 5, vI 6, vI 7, vI 8] [.bool] <|
.letp .not [vB 17] <|
.ite (.v 18) (
 .ret [vI 11, vB 12, vI 13, vL 14, vI 15, nI 0, nI 0, nI 0, nI 0, ⟨.bool, (.b false)⟩]) <|
.call 3 [vI 5, vI 6, vI 7, vI 8] [.bool] <|
.ite (.v 19) (
 .ret [vI 11, vB 12, vI 13, vL 14, vI 15, nI 0, nI 0, nI 0, nI 0, ⟨.bool, (.b false)⟩]) <|
.letp .neI [vI 6, vI 11] <|
.ite (.v 20) (
 .ret [vI 11, vB 12, vI 13, vL 14, vI 15, nI 0, nI 0, nI 0, nI 0, ⟨.bool, (.b false)⟩]) <|
.join [.list] (
 .letp .eqI [vI 5, nI 1] <|
 .ite (.v 21) (
 .letp (.mkl 1) [vI 8] <|
 .jump [vL 22]) <|
 .jump [⟨.list, .e⟩]) <|
.call 4 [vI 11, vB 12, vI 13, vL 14, vI 15, ⟨.bool, (.b false)⟩] [kI, .list] <|
.call 5 [vI 22, vL 23, vI 5, vI 7, vL 21] [.bool] <|
.ite (.v 24) (
 .call 6 [vL 14, vI 15, vI 5, vI 7, vL 21] [.list, kI, .bool] <|
 .ret [vI 11, vB 12, vI 13, vL 25, vI 26, nI 0, nI 0, nI 0, nI 0, ⟨.bool, (.b false)⟩]) <|
.call 7 [vI 11, vB 12, vI 13, vL 14, vI 15, vI 5, vI 6, vI 7, vI 8] [kI] <|
.letp .eqI [vI 25, nI 0] <|
.ite (.v 26) (
 .ret [vI 11, vB 12, vI 13, vL 14, vI 15, nI 0, nI 0, nI 0, nI 0, ⟨.bool, (.b false)⟩]) <|
.ret [vI 11, vB 12, vI 13, vL 14, vI 15, vI 25, vI 11, vI 7, nI 0, ⟨.bool, (.b true)⟩]
def Φ_ct : Phi := ph [φ_dz, φ_bb, φ_fd, φ_bo, φ_bi, φ_dm, φ_fb, φ_aw]
def φ_ct := mir Φ_ct t_ct
def J_ct_0 (x5 x6 : Int) (x7 x8 x11 : Int) (x12 : Bool) (x13 : Int) (x14 : LL) (x15 : Int) (x21 : LL) : Option Out :=
 callD (φ_bi [C.int .i64 x11, C.bool x12, C.int .i64 x13, C.list x14, C.int .i64 x15, C.bool false]) [(.int .i64), .list] fun r22 =>
 let x22 := (getC r22 0).toInt
 let x23 := (getC r22 1).toList
 callD (φ_dm [C.int .i64 x22, C.list x23, C.int .i64 x5, C.int .i64 x7, C.list x21]) [.bool] fun r24 =>
 let x24 := (getC r24 0).toBool
 iteD x24 (
 callD (φ_fb [C.list x14, C.int .i64 x15, C.int .i64 x5, C.int .i64 x7, C.list x21]) [.list, (.int .i64), .bool] fun r25 =>
 let x25 := (getC r25 0).toList
 let x26 := (getC r25 1).toInt
 let x27 := (getC r25 2).toBool
 some (.ret [C.int .i64 x11, C.bool x12, C.int .i64 x13, C.list x25, C.int .i64 x26, C.int .i64 0, C.int .i64 0, C.int .i64 0, C.int .i64 0, C.bool false])) <|
 callD (φ_aw [C.int .i64 x11, C.bool x12, C.int .i64 x13, C.list x14, C.int .i64 x15, C.int .i64 x5, C.int .i64 x6, C.int .i64 x7, C.int .i64 x8]) [(.int .i64)] fun r25 =>
 let x25 := (getC r25 0).toInt
 let x26 := (x25 == 0)
 iteD x26 (
 some (.ret [C.int .i64 x11, C.bool x12, C.int .i64 x13, C.list x14, C.int .i64 x15, C.int .i64 0, C.int .i64 0, C.int .i64 0, C.int .i64 0, C.bool false])) <|
 some (.ret [C.int .i64 x11, C.bool x12, C.int .i64 x13, C.list x14, C.int .i64 x15, C.int .i64 x25, C.int .i64 x11, C.int .i64 x7, C.int .i64 0, C.bool true])
def F_ct (x0 : Int) (x1 : Bool) (x2 : Int) (x3 : LL) (x4 x5 : Int) (x6 x7 x8 : Int) : Option Out :=
 callD (φ_dz [C.int .i64 x0, C.bool x1, C.int .i64 x2, C.list x3, C.int .i64 x4]) [.bool] fun r9 =>
 let x9 := (getC r9 0).toBool
 let x10 := (!x9)
 iteD x10 (
 some (.ret [C.int .i64 0, C.bool false, C.int .i64 0, C.list ([] : LL), C.int .i64 0, C.int .i64 0, C.int .i64 0, C.int .i64 0, C.int .i64 0, C.bool false])) <|
 callD (φ_bb [C.int .i64 x0, C.bool x1, C.int .i64 x2, C.list x3, C.int .i64 x4]) [(.int .i64), .bool, (.int .i64), .list, (.int .i64)] fun r11 =>
 let x11 := (getC r11 0).toInt
 let x12 := (getC r11 1).toBool
 let x13 := (getC r11 2).toInt
 let x14 := (getC r11 3).toList
 let x15 := (getC r11 4).toInt
 let x16 := (!x12)
 iteD x16 (
 some (.ret [C.int .i64 x11, C.bool x12, C.int .i64 x13, C.list x14, C.int .i64 x15, C.int .i64 0, C.int .i64 0, C.int .i64 0, C.int .i64 0, C.bool false])) <|
 callD (φ_fd [C.int .i64 x5, C.int .i64 x6, C.int .i64 x7, C.int .i64 x8]) [.bool] fun r17 =>
 let x17 := (getC r17 0).toBool
 let x18 := (!x17)
 iteD x18 (
 some (.ret [C.int .i64 x11, C.bool x12, C.int .i64 x13, C.list x14, C.int .i64 x15, C.int .i64 0, C.int .i64 0, C.int .i64 0, C.int .i64 0, C.bool false])) <|
 callD (φ_bo [C.int .i64 x5, C.int .i64 x6, C.int .i64 x7, C.int .i64 x8]) [.bool] fun r19 =>
 let x19 := (getC r19 0).toBool
 iteD x19 (
 some (.ret [C.int .i64 x11, C.bool x12, C.int .i64 x13, C.list x14, C.int .i64 x15, C.int .i64 0, C.int .i64 0, C.int .i64 0, C.int .i64 0, C.bool false])) <|
 let x20 := (x6 != x11)
 iteD x20 (
 some (.ret [C.int .i64 x11, C.bool x12, C.int .i64 x13, C.list x14, C.int .i64 x15, C.int .i64 0, C.int .i64 0, C.int .i64 0, C.int .i64 0, C.bool false])) <|
 joinD (
 let x21 := (x5 == 1)
 iteD x21 (
 let x22 := [[C.int .i64 x8]]
 some (.jump [C.list x22])) <|
 some (.jump [C.list ([] : LL)])) fun ps => J_ct_0 x5 x6 x7 x8 x11 x12 x13 x14 x15 ((getC ps 0).toList)
def t_bf : Tree :=
.call 0 [vI 6, vI 7, vI 8, vI 9] [.bool] <|
.ite (.v 10) (
 .call 1 [vB 0, vL 1, vI 2, vL 3, vI 6, vI 7, vI 8, vI 9] [.bool, .list, kI, .list] <|
 .ret [nI 0, nI 0, nI 0, nI 0, ⟨.bool, (.b false)⟩, vB 11, vL 12, vI 13, vL 14, vL 4, vL 5]) <|
.letp (.sub .i64) [vI 7, nI 1] <|
.chk .idx [vI 11, vL 4] <|
.row (.v 4) (.v 11) [kI, .bool, kI, .list, kI] <|
.call 2 [vI 12, vB 13, vI 14, vL 15, vI 16, vI 6, vI 7, vI 8, vI 9] [kI, .bool, kI, .list, kI, kI, kI, kI, kI, .bool] <|
.letp (.sub .i64) [vI 7, nI 1] <|
.chk .idx [vI 27, vL 4] <|
.letp (.setr 0) [vL 4, vI 27, vI 17, vB 18, vI 19, vL 20, vI 21] <|
.ret [vI 22, vI 23, vI 24, vI 25, vB 26, vB 0, vL 1, vI 2, vL 3, vL 28, vL 5]
def Φ_bf : Phi := ph [φ_bo, φ_cq, φ_ct]
def φ_bf := mir Φ_bf t_bf
def F_bf (x0 : Bool) (x1 : LL) (x2 : Int) (x3 x4 x5 : LL) (x6 x7 : Int) (x8 x9 : Int) : Option Out :=
 callD (φ_bo [C.int .i64 x6, C.int .i64 x7, C.int .i64 x8, C.int .i64 x9]) [.bool] fun r10 =>
 let x10 := (getC r10 0).toBool
 iteD x10 (
 callD (φ_cq [C.bool x0, C.list x1, C.int .i64 x2, C.list x3, C.int .i64 x6, C.int .i64 x7, C.int .i64 x8, C.int .i64 x9]) [.bool, .list, (.int .i64), .list] fun r11 =>
 let x11 := (getC r11 0).toBool
 let x12 := (getC r11 1).toList
 let x13 := (getC r11 2).toInt
 let x14 := (getC r11 3).toList
 some (.ret [C.int .i64 0, C.int .i64 0, C.int .i64 0, C.int .i64 0, C.bool false, C.bool x11, C.list x12, C.int .i64 x13, C.list x14, C.list x4, C.list x5])) <|
 let x11 := IntKind.wrap .i64 (x7 - 1)
 whenD ((decide ((0 : Int) <= x11) && decide (x11 < (x4.length : Nat)))) <|
 rowD (.list x4) (.int .i64 x11) [(.int .i64), .bool, (.int .i64), .list, (.int .i64)] fun r12 =>
 let x12 := (getC r12 0).toInt
 let x13 := (getC r12 1).toBool
 let x14 := (getC r12 2).toInt
 let x15 := (getC r12 3).toList
 let x16 := (getC r12 4).toInt
 callD (φ_ct [C.int .i64 x12, C.bool x13, C.int .i64 x14, C.list x15, C.int .i64 x16, C.int .i64 x6, C.int .i64 x7, C.int .i64 x8, C.int .i64 x9]) [(.int .i64), .bool, (.int .i64), .list, (.int .i64), (.int .i64), (.int .i64), (.int .i64), (.int .i64), .bool] fun r17 =>
 let x17 := (getC r17 0).toInt
 let x18 := (getC r17 1).toBool
 let x19 := (getC r17 2).toInt
 let x20 := (getC r17 3).toList
 let x21 := (getC r17 4).toInt
 let x22 := (getC r17 5).toInt
 let x23 := (getC r17 6).toInt
 let x24 := (getC r17 7).toInt
 let x25 := (getC r17 8).toInt
 let x26 := (getC r17 9).toBool
 let x27 := IntKind.wrap .i64 (x7 - 1)
 whenD ((decide ((0 : Int) <= x27) && decide (x27 < (x4.length : Nat)))) <|
 let x28 := (setRow 0 x4 (Int.toNat x27) [C.int .i64 x17, C.bool x18, C.int .i64 x19, C.list x20, C.int .i64 x21])
 some (.ret [C.int .i64 x22, C.int .i64 x23, C.int .i64 x24, C.int .i64 x25, C.bool x26, C.bool x0, C.list x1, C.int .i64 x2, C.list x3, C.list x28, C.list x5])
def t_cn : Tree :=
.letp .len [vL 5] <|
.letp (.sub .i64) [vI 10, nI 1] <|
.call 0 [vI 7, nI 0, vI 11] [.bool] <|
.letp .not [vB 12] <|
.ite (.v 13) (
 .ret [vB 0, vL 1, vI 2, vL 3, vL 4, vL 5]) <|
.join [kI, kI, kI, kI] (
 .chk .idx [vI 7, vL 5] <|
 .row (.v 5) (.v 7) [kI, kI, kI, kI] <|
 .jump [vI 14, vI 15, vI 16, vI 17]) <|
.letp .eqI [vI 6, nI 6] <|
.ite (.v 18) (
 .call 1 [vB 0, vL 1, vI 2, vL 3, vL 4, vL 5, vI 14, vI 15, vI 16, vI 17] [.bool, .list, kI, .list, .list, .list] <|
 .ret [vB 19, vL 20, vI 21, vL 22, vL 23, vL 24]) <|
.letp (.add .i64) [vI 7, nI 1] <|
.call 2 [vL 5, vI 7, vI 19] [.list] <|
.letp .neI [vI 6, nI 4] <|
.ite (.v 21) (
 .ret [vB 0, vL 1, vI 2, vL 3, vL 4, vL 20]) <|
.call 3 [vB 0, vL 1, vI 2, vL 3, vL 4, vL 20, vI 14, vI 15, vI 16, vI 17] [kI, kI, kI, kI, .bool, .bool, .list, kI, .list, .list, .list] <|
.ite (.v 26) (
 .call 1 [vB 27, vL 28, vI 29, vL 30, vL 31, vL 32, vI 22, vI 23, vI 24, vI 25] [.bool, .list, kI, .list, .list, .list] <|
 .ret [vB 33, vL 34, vI 35, vL 36, vL 37, vL 38]) <|
.ret [vB 27, vL 28, vI 29, vL 30, vL 31, vL 32]
def Φ_cn : Phi := ph [φ_gd, φ_bu, φ_ar, φ_bf]
def φ_cn := mir Φ_cn t_cn
def J_cn_0 (x0 : Bool) (x1 : LL) (x2 : Int) (x3 x4 x5 : LL) (x6 x7 : Int) (x14 x15 : Int) (x16 x17 : Int) : Option Out :=
 let x18 := (x6 == 6)
 iteD x18 (
 callD (φ_bu [C.bool x0, C.list x1, C.int .i64 x2, C.list x3, C.list x4, C.list x5, C.int .i64 x14, C.int .i64 x15, C.int .i64 x16, C.int .i64 x17]) [.bool, .list, (.int .i64), .list, .list, .list] fun r19 =>
 let x19 := (getC r19 0).toBool
 let x20 := (getC r19 1).toList
 let x21 := (getC r19 2).toInt
 let x22 := (getC r19 3).toList
 let x23 := (getC r19 4).toList
 let x24 := (getC r19 5).toList
 some (.ret [C.bool x19, C.list x20, C.int .i64 x21, C.list x22, C.list x23, C.list x24])) <|
 let x19 := IntKind.wrap .i64 (x7 + 1)
 callD (φ_ar [C.list x5, C.int .i64 x7, C.int .i64 x19]) [.list] fun r20 =>
 let x20 := (getC r20 0).toList
 let x21 := (x6 != 4)
 iteD x21 (
 some (.ret [C.bool x0, C.list x1, C.int .i64 x2, C.list x3, C.list x4, C.list x20])) <|
 callD (φ_bf [C.bool x0, C.list x1, C.int .i64 x2, C.list x3, C.list x4, C.list x20, C.int .i64 x14, C.int .i64 x15, C.int .i64 x16, C.int .i64 x17]) [(.int .i64), (.int .i64), (.int .i64), (.int .i64), .bool, .bool, .list, (.int .i64), .list, .list, .list] fun r22 =>
 let x22 := (getC r22 0).toInt
 let x23 := (getC r22 1).toInt
 let x24 := (getC r22 2).toInt
 let x25 := (getC r22 3).toInt
 let x26 := (getC r22 4).toBool
 let x27 := (getC r22 5).toBool
 let x28 := (getC r22 6).toList
 let x29 := (getC r22 7).toInt
 let x30 := (getC r22 8).toList
 let x31 := (getC r22 9).toList
 let x32 := (getC r22 10).toList
 iteD x26 (
 callD (φ_bu [C.bool x27, C.list x28, C.int .i64 x29, C.list x30, C.list x31, C.list x32, C.int .i64 x22, C.int .i64 x23, C.int .i64 x24, C.int .i64 x25]) [.bool, .list, (.int .i64), .list, .list, .list] fun r33 =>
 let x33 := (getC r33 0).toBool
 let x34 := (getC r33 1).toList
 let x35 := (getC r33 2).toInt
 let x36 := (getC r33 3).toList
 let x37 := (getC r33 4).toList
 let x38 := (getC r33 5).toList
 some (.ret [C.bool x33, C.list x34, C.int .i64 x35, C.list x36, C.list x37, C.list x38])) <|
 some (.ret [C.bool x27, C.list x28, C.int .i64 x29, C.list x30, C.list x31, C.list x32])
def F_cn (x0 : Bool) (x1 : LL) (x2 : Int) (x3 x4 x5 : LL) (x6 x7 x8 : Int) (x9 : LL) : Option Out :=
 let x10 : Int := x5.length
 let x11 := IntKind.wrap .i64 (x10 - 1)
 callD (φ_gd [C.int .i64 x7, C.int .i64 0, C.int .i64 x11]) [.bool] fun r12 =>
 let x12 := (getC r12 0).toBool
 let x13 := (!x12)
 iteD x13 (
 some (.ret [C.bool x0, C.list x1, C.int .i64 x2, C.list x3, C.list x4, C.list x5])) <|
 joinD (
 whenD ((decide ((0 : Int) <= x7) && decide (x7 < (x5.length : Nat)))) <|
 rowD (.list x5) (.int .i64 x7) [(.int .i64), (.int .i64), (.int .i64), (.int .i64)] fun r14 =>
 let x14 := (getC r14 0).toInt
 let x15 := (getC r14 1).toInt
 let x16 := (getC r14 2).toInt
 let x17 := (getC r14 3).toInt
 some (.jump [C.int .i64 x14, C.int .i64 x15, C.int .i64 x16, C.int .i64 x17])) fun ps => J_cn_0 x0 x1 x2 x3 x4 x5 x6 x7 ((getC ps 0).toInt) ((getC ps 1).toInt) ((getC ps 2).toInt) ((getC ps 3).toInt)
def t_di : Tree :=
.call 0 [vL 0, vI 1] [.bool] <|
.letp .not [vB 2] <|
.ite (.v 3) (
 .ret [⟨.list, .e⟩, nI 0]) <|
.letp .len [vL 0] <|
.letp .len [vL 0] <|
.call 1 [vL 0, vI 1, vI 4, vI 5] [.list, kI] <|
.ret [vL 6, vI 7]
def Φ_di : Phi := ph [φ_fw, φ_ck]
def φ_di := mir Φ_di t_di
def F_di (x0 : LL) (x1 : Int) : Option Out :=
 callD (φ_fw [C.list x0, C.int .i64 x1]) [.bool] fun r2 =>
 let x2 := (getC r2 0).toBool
 let x3 := (!x2)
 iteD x3 (
 some (.ret [C.list ([] : LL), C.int .i64 0])) <|
 let x4 : Int := x0.length
 let x5 : Int := x0.length
 callD (φ_ck [C.list x0, C.int .i64 x1, C.int .i64 x4, C.int .i64 x5]) [.list, (.int .i64)] fun r6 =>
 let x6 := (getC r6 0).toList
 let x7 := (getC r6 1).toInt
 some (.ret [C.list x6, C.int .i64 x7])
def t_cr : Tree :=
.call 0 [vB 0, vL 1, vI 2, vL 3] [.bool] <|
.letp .not [vB 4] <|
.ite (.v 5) (
 .ret [⟨.bool, (.b false)⟩, ⟨.list, .e⟩, nI 0, ⟨.list, .e⟩]) <|
.call 1 [vB 0, vL 1, vI 2, vL 3] [.bool, .list, kI, .list] <|
.ite (.v 6) (
 .call 2 [vL 7, vI 8] [.list, kI] <|
 .ret [vB 6, vL 10, vI 11, vL 9]) <|
.ret [vB 6, vL 7, vI 8, vL 9]
def Φ_cr : Phi := ph [φ_fm, φ_bg, φ_di]
def φ_cr := mir Φ_cr t_cr
def F_cr (x0 : Bool) (x1 : LL) (x2 : Int) (x3 : LL) : Option Out :=
 callD (φ_fm [C.bool x0, C.list x1, C.int .i64 x2, C.list x3]) [.bool] fun r4 =>
 let x4 := (getC r4 0).toBool
 let x5 := (!x4)
 iteD x5 (
 some (.ret [C.bool false, C.list ([] : LL), C.int .i64 0, C.list ([] : LL)])) <|
 callD (φ_bg [C.bool x0, C.list x1, C.int .i64 x2, C.list x3]) [.bool, .list, (.int .i64), .list] fun r6 =>
 let x6 := (getC r6 0).toBool
 let x7 := (getC r6 1).toList
 let x8 := (getC r6 2).toInt
 let x9 := (getC r6 3).toList
 iteD x6 (
 callD (φ_di [C.list x7, C.int .i64 x8]) [.list, (.int .i64)] fun r10 =>
 let x10 := (getC r10 0).toList
 let x11 := (getC r10 1).toInt
 some (.ret [C.bool x6, C.list x10, C.int .i64 x11, C.list x9])) <|
 some (.ret [C.bool x6, C.list x7, C.int .i64 x8, C.list x9])
def t_bx : Tree :=
.call 0 [vI 0, vB 1, vI 2, vL 3, vI 4] [.bool] <|
.letp .not [vB 5] <|
.ite (.v 6) (
 .ret [nI 0, ⟨.bool, (.b false)⟩, nI 0, ⟨.list, .e⟩, nI 0]) <|
.call 1 [vI 0, vB 1, vI 2, vL 3, vI 4] [kI, .bool, kI, .list, kI] <|
.ite (.v 8) (
 .call 2 [vL 10, vI 11] [.list, kI] <|
 .ret [vI 7, vB 8, vI 9, vL 12, vI 13]) <|
.ret [vI 7, vB 8, vI 9, vL 10, vI 11]
def Φ_bx : Phi := ph [φ_dz, φ_bb, φ_di]
def φ_bx := mir Φ_bx t_bx
def F_bx (x0 : Int) (x1 : Bool) (x2 : Int) (x3 : LL) (x4 : Int) : Option Out :=
 callD (φ_dz [C.int .i64 x0, C.bool x1, C.int .i64 x2, C.list x3, C.int .i64 x4]) [.bool] fun r5 =>
 let x5 := (getC r5 0).toBool
 let x6 := (!x5)
 iteD x6 (
 some (.ret [C.int .i64 0, C.bool false, C.int .i64 0, C.list ([] : LL), C.int .i64 0])) <|
 callD (φ_bb [C.int .i64 x0, C.bool x1, C.int .i64 x2, C.list x3, C.int .i64 x4]) [(.int .i64), .bool, (.int .i64), .list, (.int .i64)] fun r7 =>
 let x7 := (getC r7 0).toInt
 let x8 := (getC r7 1).toBool
 let x9 := (getC r7 2).toInt
 let x10 := (getC r7 3).toList
 let x11 := (getC r7 4).toInt
 iteD x8 (
 callD (φ_di [C.list x10, C.int .i64 x11]) [.list, (.int .i64)] fun r12 =>
 let x12 := (getC r12 0).toList
 let x13 := (getC r12 1).toInt
 some (.ret [C.int .i64 x7, C.bool x8, C.int .i64 x9, C.list x12, C.int .i64 x13])) <|
 some (.ret [C.int .i64 x7, C.bool x8, C.int .i64 x9, C.list x10, C.int .i64 x11])
def t_ab : Tree :=
.letp .eqI [vI 6, nI 0] <|
.ite (.v 7) (
 .call 1 [vB 0, vL 1, vI 2, vL 3] [.bool, .list, kI, .list] <|
 .ret [vB 8, vL 9, vI 10, vL 11, vL 4, vL 5]) <|
.call 0 [vI 6] [.bool] <|
.ite (.v 8) (
 .letp (.sub .i64) [vI 6, nI 1] <|
 .letp (.sub .i64) [vI 6, nI 1] <|
 .chk .idx [vI 10, vL 4] <|
 .row (.v 4) (.v 10) [kI, .bool, kI, .list, kI] <|
 .call 2 [vI 11, vB 12, vI 13, vL 14, vI 15] [kI, .bool, kI, .list, kI] <|
 .chk .idx [vI 9, vL 4] <|
 .letp (.setr 0) [vL 4, vI 9, vI 16, vB 17, vI 18, vL 19, vI 20] <|
 .ret [vB 0, vL 1, vI 2, vL 3, vL 21, vL 5]) <|
.ret [vB 0, vL 1, vI 2, vL 3, vL 4, vL 5]
def Φ_ab : Phi := ph [φ_ec, φ_cr, φ_bx]
def φ_ab := mir Φ_ab t_ab
def F_ab (x0 : Bool) (x1 : LL) (x2 : Int) (x3 x4 x5 : LL) (x6 : Int) : Option Out :=
 let x7 := (x6 == 0)
 iteD x7 (
 callD (φ_cr [C.bool x0, C.list x1, C.int .i64 x2, C.list x3]) [.bool, .list, (.int .i64), .list] fun r8 =>
 let x8 := (getC r8 0).toBool
 let x9 := (getC r8 1).toList
 let x10 := (getC r8 2).toInt
 let x11 := (getC r8 3).toList
 some (.ret [C.bool x8, C.list x9, C.int .i64 x10, C.list x11, C.list x4, C.list x5])) <|
 callD (φ_ec [C.int .i64 x6]) [.bool] fun r8 =>
 let x8 := (getC r8 0).toBool
 iteD x8 (
 let x9 := IntKind.wrap .i64 (x6 - 1)
 let x10 := IntKind.wrap .i64 (x6 - 1)
 whenD ((decide ((0 : Int) <= x10) && decide (x10 < (x4.length : Nat)))) <|
 rowD (.list x4) (.int .i64 x10) [(.int .i64), .bool, (.int .i64), .list, (.int .i64)] fun r11 =>
 let x11 := (getC r11 0).toInt
 let x12 := (getC r11 1).toBool
 let x13 := (getC r11 2).toInt
 let x14 := (getC r11 3).toList
 let x15 := (getC r11 4).toInt
 callD (φ_bx [C.int .i64 x11, C.bool x12, C.int .i64 x13, C.list x14, C.int .i64 x15]) [(.int .i64), .bool, (.int .i64), .list, (.int .i64)] fun r16 =>
 let x16 := (getC r16 0).toInt
 let x17 := (getC r16 1).toBool
 let x18 := (getC r16 2).toInt
 let x19 := (getC r16 3).toList
 let x20 := (getC r16 4).toInt
 whenD ((decide ((0 : Int) <= x9) && decide (x9 < (x4.length : Nat)))) <|
 let x21 := (setRow 0 x4 (Int.toNat x9) [C.int .i64 x16, C.bool x17, C.int .i64 x18, C.list x19, C.int .i64 x20])
 some (.ret [C.bool x0, C.list x1, C.int .i64 x2, C.list x3, C.list x21, C.list x5])) <|
 some (.ret [C.bool x0, C.list x1, C.int .i64 x2, C.list x3, C.list x4, C.list x5])
def t_ex : Tree :=
.call 0 [vL 0, vI 1] [.bool] <|
.letp .not [vB 3] <|
.ite (.v 4) (
 .ret [⟨.list, .e⟩, nI 0]) <|
.letp .len [vL 0] <|
.letp (.sub .i64) [vI 5, vI 1] <|
.letp (.min .i64) [vI 2, vI 6] <|
.letp (.max .i64) [vI 7, nI 0] <|
.letp (.add .i64) [vI 1, vI 8] <|
.call 1 [vL 0, vI 1, vI 9, vI 9] [.list, kI] <|
.ret [vL 10, vI 11]
def Φ_ex : Phi := ph [φ_fw, φ_ck]
def φ_ex := mir Φ_ex t_ex
def F_ex (x0 : LL) (x1 x2 : Int) : Option Out :=
 callD (φ_fw [C.list x0, C.int .i64 x1]) [.bool] fun r3 =>
 let x3 := (getC r3 0).toBool
 let x4 := (!x3)
 iteD x4 (
 some (.ret [C.list ([] : LL), C.int .i64 0])) <|
 let x5 : Int := x0.length
 let x6 := IntKind.wrap .i64 (x5 - x1)
 let x7 : Int := (if x6 < x2 then x6 else x2)
 let x8 : Int := (if (0 : Int) > x7 then 0 else x7)
 let x9 := IntKind.wrap .i64 (x1 + x8)
 callD (φ_ck [C.list x0, C.int .i64 x1, C.int .i64 x9, C.int .i64 x9]) [.list, (.int .i64)] fun r10 =>
 let x10 := (getC r10 0).toList
 let x11 := (getC r10 1).toInt
 some (.ret [C.list x10, C.int .i64 x11])
def t_du : Tree :=
.call 0 [vB 0, vL 1, vI 2, vL 3] [.bool] <|
.letp .not [vB 5] <|
.ite (.v 6) (
 .ret [⟨.bool, (.b false)⟩, ⟨.list, .e⟩, nI 0, ⟨.list, .e⟩]) <|
.call 1 [vL 1, vI 2, vI 4] [.list, kI] <|
.ret [⟨.bool, (.b false)⟩, vL 7, vI 8, ⟨.list, .e⟩]
def Φ_du : Phi := ph [φ_fm, φ_ex]
def φ_du := mir Φ_du t_du
def F_du (x0 : Bool) (x1 : LL) (x2 : Int) (x3 : LL) (x4 : Int) : Option Out :=
 callD (φ_fm [C.bool x0, C.list x1, C.int .i64 x2, C.list x3]) [.bool] fun r5 =>
 let x5 := (getC r5 0).toBool
 let x6 := (!x5)
 iteD x6 (
 some (.ret [C.bool false, C.list ([] : LL), C.int .i64 0, C.list ([] : LL)])) <|
 callD (φ_ex [C.list x1, C.int .i64 x2, C.int .i64 x4]) [.list, (.int .i64)] fun r7 =>
 let x7 := (getC r7 0).toList
 let x8 := (getC r7 1).toInt
 some (.ret [C.bool false, C.list x7, C.int .i64 x8, C.list ([] : LL)])
def t_bv : Tree :=
.call 0 [vB 0, vL 1, vI 2, vL 3, vI 6] [.bool, .list, kI, .list] <|
.ret [vB 8, vL 9, vI 10, vL 11]
def Φ_bv : Phi := ph [φ_du]
def φ_bv := mir Φ_bv t_bv
def F_bv (x0 : Bool) (x1 : LL) (x2 : Int) (x3 : LL) (x4 x5 x6 : Int) (x7 : LL) : Option Out :=
 callD (φ_du [C.bool x0, C.list x1, C.int .i64 x2, C.list x3, C.int .i64 x6]) [.bool, .list, (.int .i64), .list] fun r8 =>
 let x8 := (getC r8 0).toBool
 let x9 := (getC r8 1).toList
 let x10 := (getC r8 2).toInt
 let x11 := (getC r8 3).toList
 some (.ret [C.bool x8, C.list x9, C.int .i64 x10, C.list x11])
def t_co : Tree :=
.call 0 [vI 0, vB 1, vI 2, vL 3, vI 4] [.bool] <|
.letp .not [vB 6] <|
.ite (.v 7) (
 .ret [nI 0, ⟨.bool, (.b false)⟩, nI 0, ⟨.list, .e⟩, nI 0]) <|
.call 1 [vL 3, vI 4, vI 5] [.list, kI] <|
.ret [vI 0, ⟨.bool, (.b false)⟩, vI 2, vL 8, vI 9]
def Φ_co : Phi := ph [φ_dz, φ_ex]
def φ_co := mir Φ_co t_co
def F_co (x0 : Int) (x1 : Bool) (x2 : Int) (x3 : LL) (x4 x5 : Int) : Option Out :=
 callD (φ_dz [C.int .i64 x0, C.bool x1, C.int .i64 x2, C.list x3, C.int .i64 x4]) [.bool] fun r6 =>
 let x6 := (getC r6 0).toBool
 let x7 := (!x6)
 iteD x7 (
 some (.ret [C.int .i64 0, C.bool false, C.int .i64 0, C.list ([] : LL), C.int .i64 0])) <|
 callD (φ_ex [C.list x3, C.int .i64 x4, C.int .i64 x5]) [.list, (.int .i64)] fun r8 =>
 let x8 := (getC r8 0).toList
 let x9 := (getC r8 1).toInt
 some (.ret [C.int .i64 x0, C.bool false, C.int .i64 x2, C.list x8, C.int .i64 x9])
def t_bq : Tree :=
.call 0 [vI 0, vB 1, vI 2, vL 3, vI 4, vI 7] [kI, .bool, kI, .list, kI] <|
.ret [vI 9, vB 10, vI 11, vL 12, vI 13]
def Φ_bq : Phi := ph [φ_co]
def φ_bq := mir Φ_bq t_bq
def F_bq (x0 : Int) (x1 : Bool) (x2 : Int) (x3 : LL) (x4 x5 : Int) (x6 x7 : Int) (x8 : LL) : Option Out :=
 callD (φ_co [C.int .i64 x0, C.bool x1, C.int .i64 x2, C.list x3, C.int .i64 x4, C.int .i64 x7]) [(.int .i64), .bool, (.int .i64), .list, (.int .i64)] fun r9 =>
 let x9 := (getC r9 0).toInt
 let x10 := (getC r9 1).toBool
 let x11 := (getC r9 2).toInt
 let x12 := (getC r9 3).toList
 let x13 := (getC r9 4).toInt
 some (.ret [C.int .i64 x9, C.bool x10, C.int .i64 x11, C.list x12, C.int .i64 x13])
def t_aa : Tree :=
.letp .eqI [vI 6, nI 0] <|
.ite (.v 15) (
 .call 1 [vB 0, vL 1, vI 2, vL 3, vI 7, vI 8, vI 9, vL 10] [.bool, .list, kI, .list] <|
 .ret [vB 16, vL 17, vI 18, vL 19, vL 4, vL 5]) <|
.call 0 [vI 6] [.bool] <|
.ite (.v 16) (
 .letp (.sub .i64) [vI 6, nI 1] <|
 .letp (.sub .i64) [vI 6, nI 1] <|
 .chk .idx [vI 18, vL 4] <|
 .row (.v 4) (.v 18) [kI, .bool, kI, .list, kI] <|
 .call 2 [vI 19, vB 20, vI 21, vL 22, vI 23, vI 11, vI 12, vI 13, vL 14] [kI, .bool, kI, .list, kI] <|
 .chk .idx [vI 17, vL 4] <|
 .letp (.setr 0) [vL 4, vI 17, vI 24, vB 25, vI 26, vL 27, vI 28] <|
 .ret [vB 0, vL 1, vI 2, vL 3, vL 29, vL 5]) <|
.ret [vB 0, vL 1, vI 2, vL 3, vL 4, vL 5]
def Φ_aa : Phi := ph [φ_ec, φ_bv, φ_bq]
def φ_aa := mir Φ_aa t_aa
def F_aa (x0 : Bool) (x1 : LL) (x2 : Int) (x3 x4 x5 : LL) (x6 x7 : Int) (x8 x9 : Int) (x10 : LL) (x11 x12 x13 : Int) (x14 : LL) : Option Out :=
 let x15 := (x6 == 0)
 iteD x15 (
 callD (φ_bv [C.bool x0, C.list x1, C.int .i64 x2, C.list x3, C.int .i64 x7, C.int .i64 x8, C.int .i64 x9, C.list x10]) [.bool, .list, (.int .i64), .list] fun r16 =>
 let x16 := (getC r16 0).toBool
 let x17 := (getC r16 1).toList
 let x18 := (getC r16 2).toInt
 let x19 := (getC r16 3).toList
 some (.ret [C.bool x16, C.list x17, C.int .i64 x18, C.list x19, C.list x4, C.list x5])) <|
 callD (φ_ec [C.int .i64 x6]) [.bool] fun r16 =>
 let x16 := (getC r16 0).toBool
 iteD x16 (
 let x17 := IntKind.wrap .i64 (x6 - 1)
 let x18 := IntKind.wrap .i64 (x6 - 1)
 whenD ((decide ((0 : Int) <= x18) && decide (x18 < (x4.length : Nat)))) <|
 rowD (.list x4) (.int .i64 x18) [(.int .i64), .bool, (.int .i64), .list, (.int .i64)] fun r19 =>
 let x19 := (getC r19 0).toInt
 let x20 := (getC r19 1).toBool
 let x21 := (getC r19 2).toInt
 let x22 := (getC r19 3).toList
 let x23 := (getC r19 4).toInt
 callD (φ_bq [C.int .i64 x19, C.bool x20, C.int .i64 x21, C.list x22, C.int .i64 x23, C.int .i64 x11, C.int .i64 x12, C.int .i64 x13, C.list x14]) [(.int .i64), .bool, (.int .i64), .list, (.int .i64)] fun r24 =>
 let x24 := (getC r24 0).toInt
 let x25 := (getC r24 1).toBool
 let x26 := (getC r24 2).toInt
 let x27 := (getC r24 3).toList
 let x28 := (getC r24 4).toInt
 whenD ((decide ((0 : Int) <= x17) && decide (x17 < (x4.length : Nat)))) <|
 let x29 := (setRow 0 x4 (Int.toNat x17) [C.int .i64 x24, C.bool x25, C.int .i64 x26, C.list x27, C.int .i64 x28])
 some (.ret [C.bool x0, C.list x1, C.int .i64 x2, C.list x3, C.list x29, C.list x5])) <|
 some (.ret [C.bool x0, C.list x1, C.int .i64 x2, C.list x3, C.list x4, C.list x5])
def t_de : Tree :=
.call 0 [vB 0, vL 1, vI 2, vL 3] [.bool] <|
.letp .not [vB 4] <|
.ite (.v 5) (
 .ret [⟨.bool, (.b false)⟩, ⟨.list, .e⟩, nI 0, ⟨.list, .e⟩]) <|
.call 1 [vB 0, vL 1, vI 2, vL 3] [.bool, .list, kI, .list] <|
.ret [⟨.bool, (.b true)⟩, vL 7, vI 8, vL 9]
def Φ_de : Phi := ph [φ_fm, φ_bg]
def φ_de := mir Φ_de t_de
def F_de (x0 : Bool) (x1 : LL) (x2 : Int) (x3 : LL) : Option Out :=
 callD (φ_fm [C.bool x0, C.list x1, C.int .i64 x2, C.list x3]) [.bool] fun r4 =>
 let x4 := (getC r4 0).toBool
 let x5 := (!x4)
 iteD x5 (
 some (.ret [C.bool false, C.list ([] : LL), C.int .i64 0, C.list ([] : LL)])) <|
 callD (φ_bg [C.bool x0, C.list x1, C.int .i64 x2, C.list x3]) [.bool, .list, (.int .i64), .list] fun r6 =>
 let x6 := (getC r6 0).toBool
 let x7 := (getC r6 1).toList
 let x8 := (getC r6 2).toInt
 let x9 := (getC r6 3).toList
 some (.ret [C.bool true, C.list x7, C.int .i64 x8, C.list x9])
def t_cw : Tree :=
.call 0 [vI 0, vB 1, vI 2, vL 3, vI 4] [.bool] <|
.letp .not [vB 5] <|
.ite (.v 6) (
 .ret [nI 0, ⟨.bool, (.b false)⟩, nI 0, ⟨.list, .e⟩, nI 0]) <|
.call 1 [vI 0, vB 1, vI 2, vL 3, vI 4] [kI, .bool, kI, .list, kI] <|
.ret [vI 7, ⟨.bool, (.b true)⟩, vI 9, vL 10, vI 11]
def Φ_cw : Phi := ph [φ_dz, φ_bb]
def φ_cw := mir Φ_cw t_cw
def F_cw (x0 : Int) (x1 : Bool) (x2 : Int) (x3 : LL) (x4 : Int) : Option Out :=
 callD (φ_dz [C.int .i64 x0, C.bool x1, C.int .i64 x2, C.list x3, C.int .i64 x4]) [.bool] fun r5 =>
 let x5 := (getC r5 0).toBool
 let x6 := (!x5)
 iteD x6 (
 some (.ret [C.int .i64 0, C.bool false, C.int .i64 0, C.list ([] : LL), C.int .i64 0])) <|
 callD (φ_bb [C.int .i64 x0, C.bool x1, C.int .i64 x2, C.list x3, C.int .i64 x4]) [(.int .i64), .bool, (.int .i64), .list, (.int .i64)] fun r7 =>
 let x7 := (getC r7 0).toInt
 let x8 := (getC r7 1).toBool
 let x9 := (getC r7 2).toInt
 let x10 := (getC r7 3).toList
 let x11 := (getC r7 4).toInt
 some (.ret [C.int .i64 x7, C.bool true, C.int .i64 x9, C.list x10, C.int .i64 x11])
def t_ac : Tree :=
.letp .eqI [vI 6, nI 0] <|
.ite (.v 7) (
 .call 1 [vB 0, vL 1, vI 2, vL 3] [.bool, .list, kI, .list] <|
 .ret [vB 8, vL 9, vI 10, vL 11, vL 4, vL 5]) <|
.call 0 [vI 6] [.bool] <|
.ite (.v 8) (
 .letp (.sub .i64) [vI 6, nI 1] <|
 .letp (.sub .i64) [vI 6, nI 1] <|
 .chk .idx [vI 10, vL 4] <|
 .row (.v 4) (.v 10) [kI, .bool, kI, .list, kI] <|
 .call 2 [vI 11, vB 12, vI 13, vL 14, vI 15] [kI, .bool, kI, .list, kI] <|
 .chk .idx [vI 9, vL 4] <|
 .letp (.setr 0) [vL 4, vI 9, vI 16, vB 17, vI 18, vL 19, vI 20] <|
 .ret [vB 0, vL 1, vI 2, vL 3, vL 21, vL 5]) <|
.ret [vB 0, vL 1, vI 2, vL 3, vL 4, vL 5]
def Φ_ac : Phi := ph [φ_ec, φ_de, φ_cw]
def φ_ac := mir Φ_ac t_ac
def F_ac (x0 : Bool) (x1 : LL) (x2 : Int) (x3 x4 x5 : LL) (x6 : Int) : Option Out :=
 let x7 := (x6 == 0)
 iteD x7 (
 callD (φ_de [C.bool x0, C.list x1, C.int .i64 x2, C.list x3]) [.bool, .list, (.int .i64), .list] fun r8 =>
 let x8 := (getC r8 0).toBool
 let x9 := (getC r8 1).toList
 let x10 := (getC r8 2).toInt
 let x11 := (getC r8 3).toList
 some (.ret [C.bool x8, C.list x9, C.int .i64 x10, C.list x11, C.list x4, C.list x5])) <|
 callD (φ_ec [C.int .i64 x6]) [.bool] fun r8 =>
 let x8 := (getC r8 0).toBool
 iteD x8 (
 let x9 := IntKind.wrap .i64 (x6 - 1)
 let x10 := IntKind.wrap .i64 (x6 - 1)
 whenD ((decide ((0 : Int) <= x10) && decide (x10 < (x4.length : Nat)))) <|
 rowD (.list x4) (.int .i64 x10) [(.int .i64), .bool, (.int .i64), .list, (.int .i64)] fun r11 =>
 let x11 := (getC r11 0).toInt
 let x12 := (getC r11 1).toBool
 let x13 := (getC r11 2).toInt
 let x14 := (getC r11 3).toList
 let x15 := (getC r11 4).toInt
 callD (φ_cw [C.int .i64 x11, C.bool x12, C.int .i64 x13, C.list x14, C.int .i64 x15]) [(.int .i64), .bool, (.int .i64), .list, (.int .i64)] fun r16 =>
 let x16 := (getC r16 0).toInt
 let x17 := (getC r16 1).toBool
 let x18 := (getC r16 2).toInt
 let x19 := (getC r16 3).toList
 let x20 := (getC r16 4).toInt
 whenD ((decide ((0 : Int) <= x9) && decide (x9 < (x4.length : Nat)))) <|
 let x21 := (setRow 0 x4 (Int.toNat x9) [C.int .i64 x16, C.bool x17, C.int .i64 x18, C.list x19, C.int .i64 x20])
 some (.ret [C.bool x0, C.list x1, C.int .i64 x2, C.list x3, C.list x21, C.list x5])) <|
 some (.ret [C.bool x0, C.list x1, C.int .i64 x2, C.list x3, C.list x4, C.list x5])
def t_dw : Tree :=
.letp .eqI [vI 6, nI 1] <|
.ite (.v 10) (
 .call 0 [vB 0, vL 1, vI 2, vL 3, vL 9] [.bool, .list, kI, .list, .bool] <|
 .ite (.v 15) (
 .ret [vB 11, vL 12, vI 13, vL 14, vL 4, vL 5]) <|
 .ret [vB 0, vL 1, vI 2, vL 3, vL 4, vL 5]) <|
.letp .eqI [vI 6, nI 2] <|
.ite (.v 11) (
 .call 1 [vB 0, vL 1, vI 2, vL 3, vI 7] [.bool, .list, kI, .list, .bool] <|
 .ite (.v 16) (
 .ret [vB 12, vL 13, vI 14, vL 15, vL 4, vL 5]) <|
 .ret [vB 0, vL 1, vI 2, vL 3, vL 4, vL 5]) <|
.letp .eqI [vI 6, nI 3] <|
.ite (.v 12) (
 .call 2 [vB 0, vL 1, vI 2, vL 3] [.list] <|
 .letp .len [vL 13] <|
 .letp (.sub .i64) [vI 14, nI 1] <|
 .call 3 [vI 7, nI 0, vI 15] [.bool] <|
 .ite (.v 16) (
 .row (.v 13) (.v 7) [kI, kI, kI, kI] <|
 .call 4 [vB 0, vL 1, vI 2, vL 3, vL 4, vL 5, vI 17, vI 18, vI 19, vI 20] [.bool, .list, kI, .list, .list, .list] <|
 .ret [vB 21, vL 22, vI 23, vL 24, vL 25, vL 26]) <|
 .ret [vB 0, vL 1, vI 2, vL 3, vL 4, vL 5]) <|
.join [.bool] (
 .letp .eqI [vI 6, nI 4] <|
 .ite (.v 13) (
 .jump [⟨.bool, (.b true)⟩]) <|
 .letp .eqI [vI 6, nI 5] <|
 .ite (.v 14) (
 .jump [⟨.bool, (.b true)⟩]) <|
 .letp .eqI [vI 6, nI 6] <|
 .jump [vB 15]) <|
.ite (.v 13) (
 .call 5 [vB 0, vL 1, vI 2, vL 3, vL 4, vL 5, vI 6, vI 7, vI 8, vL 9] [.bool, .list, kI, .list, .list, .list] <|
 .ret [vB 14, vL 15, vI 16, vL 17, vL 18, vL 19]) <|
.letp .eqI [vI 6, nI 7] <|
.ite (.v 14) (
 .call 6 [vB 0, vL 1, vI 2, vL 3, vL 4, vL 5, vI 7] [.bool, .list, kI, .list, .list, .list] <|
 .ret [vB 15, vL 16, vI 17, vL 18, vL 19, vL 20]) <|
.letp .eqI [vI 6, nI 8] <|
.ite (.v 15) (
 .call 7 [vB 0, vL 1, vI 2, vL 3, vL 4, vL 5, vI 7, vI 6, vI 7, vI 8, vL 9, vI 6, vI 7, vI 8, vL 9] [.bool, .list, kI, .list, .list, .list] <|
 .ret [vB 16, vL 17, vI 18, vL 19, vL 20, vL 21]) <|
.letp .eqI [vI 6, nI 9] <|
.ite (.v 16) (
 .call 8 [vB 0, vL 1, vI 2, vL 3, vL 4, vL 5, vI 7] [.bool, .list, kI, .list, .list, .list] <|
 .ret [vB 17, vL 18, vI 19, vL 20, vL 21, vL 22]) <|
.ret [vB 0, vL 1, vI 2, vL 3, vL 4, vL 5]
def Φ_dw : Phi := ph [φ_cl, φ_dp, φ_bz, φ_gd, φ_bu, φ_cn, φ_ab, φ_aa, φ_ac]
def φ_dw := mir Φ_dw t_dw
def J_dw_0 (x0 : Bool) (x1 : LL) (x2 : Int) (x3 x4 x5 : LL) (x6 x7 x8 : Int) (x9 : LL) (x13 : Bool) : Option Out :=
 iteD x13 (
 callD (φ_cn [C.bool x0, C.list x1, C.int .i64 x2, C.list x3, C.list x4, C.list x5, C.int .i64 x6, C.int .i64 x7, C.int .i64 x8, C.list x9]) [.bool, .list, (.int .i64), .list, .list, .list] fun r14 =>
 let x14 := (getC r14 0).toBool
 let x15 := (getC r14 1).toList
 let x16 := (getC r14 2).toInt
 let x17 := (getC r14 3).toList
 let x18 := (getC r14 4).toList
 let x19 := (getC r14 5).toList
 some (.ret [C.bool x14, C.list x15, C.int .i64 x16, C.list x17, C.list x18, C.list x19])) <|
 let x14 := (x6 == 7)
 iteD x14 (
 callD (φ_ab [C.bool x0, C.list x1, C.int .i64 x2, C.list x3, C.list x4, C.list x5, C.int .i64 x7]) [.bool, .list, (.int .i64), .list, .list, .list] fun r15 =>
 let x15 := (getC r15 0).toBool
 let x16 := (getC r15 1).toList
 let x17 := (getC r15 2).toInt
 let x18 := (getC r15 3).toList
 let x19 := (getC r15 4).toList
 let x20 := (getC r15 5).toList
 some (.ret [C.bool x15, C.list x16, C.int .i64 x17, C.list x18, C.list x19, C.list x20])) <|
 let x15 := (x6 == 8)
 iteD x15 (
 callD (φ_aa [C.bool x0, C.list x1, C.int .i64 x2, C.list x3, C.list x4, C.list x5, C.int .i64 x7, C.int .i64 x6, C.int .i64 x7, C.int .i64 x8, C.list x9, C.int .i64 x6, C.int .i64 x7, C.int .i64 x8, C.list x9]) [.bool, .list, (.int .i64), .list, .list, .list] fun r16 =>
 let x16 := (getC r16 0).toBool
 let x17 := (getC r16 1).toList
 let x18 := (getC r16 2).toInt
 let x19 := (getC r16 3).toList
 let x20 := (getC r16 4).toList
 let x21 := (getC r16 5).toList
 some (.ret [C.bool x16, C.list x17, C.int .i64 x18, C.list x19, C.list x20, C.list x21])) <|
 let x16 := (x6 == 9)
 iteD x16 (
 callD (φ_ac [C.bool x0, C.list x1, C.int .i64 x2, C.list x3, C.list x4, C.list x5, C.int .i64 x7]) [.bool, .list, (.int .i64), .list, .list, .list] fun r17 =>
 let x17 := (getC r17 0).toBool
 let x18 := (getC r17 1).toList
 let x19 := (getC r17 2).toInt
 let x20 := (getC r17 3).toList
 let x21 := (getC r17 4).toList
 let x22 := (getC r17 5).toList
 some (.ret [C.bool x17, C.list x18, C.int .i64 x19, C.list x20, C.list x21, C.list x22])) <|
 some (.ret [C.bool x0, C.list x1, C.int .i64 x2, C.list x3, C.list x4, C.list x5])
def F_dw (x0 : Bool) (x1 : LL) (x2 : Int) (x3 x4 x5 : LL) (x6 x7 x8 : Int) (x9 : LL) : Option Out :=
 let x10 := (x6 == 1)
 iteD x10 (
 callD (φ_cl [C.bool x0, C.list x1, C.int .i64 x2, C.list x3, C.list x9]) [.bool, .list, (.int .i64), .list, .bool] fun r11 =>
 let x11 := (getC r11 0).toBool
 let x12 := (getC r11 1).toList
 let x13 := (getC r11 2).toInt
 let x14 := (getC r11 3).toList
 let x15 := (getC r11 4).toBool
 iteD x15 (
 some (.ret [C.bool x11, C.list x12, C.int .i64 x13, C.list x14, C.list x4, C.list x5])) <|
 some (.ret [C.bool x0, C.list x1, C.int .i64 x2, C.list x3, C.list x4, C.list x5])) <|
 let x11 := (x6 == 2)
 iteD x11 (
 callD (φ_dp [C.bool x0, C.list x1, C.int .i64 x2, C.list x3, C.int .i64 x7]) [.bool, .list, (.int .i64), .list, .bool] fun r12 =>
 let x12 := (getC r12 0).toBool
 let x13 := (getC r12 1).toList
 let x14 := (getC r12 2).toInt
 let x15 := (getC r12 3).toList
 let x16 := (getC r12 4).toBool
 iteD x16 (
 some (.ret [C.bool x12, C.list x13, C.int .i64 x14, C.list x15, C.list x4, C.list x5])) <|
 some (.ret [C.bool x0, C.list x1, C.int .i64 x2, C.list x3, C.list x4, C.list x5])) <|
 let x12 := (x6 == 3)
 iteD x12 (
 callD (φ_bz [C.bool x0, C.list x1, C.int .i64 x2, C.list x3]) [.list] fun r13 =>
 let x13 := (getC r13 0).toList
 let x14 : Int := x13.length
 let x15 := IntKind.wrap .i64 (x14 - 1)
 callD (φ_gd [C.int .i64 x7, C.int .i64 0, C.int .i64 x15]) [.bool] fun r16 =>
 let x16 := (getC r16 0).toBool
 iteD x16 (
 rowD (.list x13) (.int .i64 x7) [(.int .i64), (.int .i64), (.int .i64), (.int .i64)] fun r17 =>
 let x17 := (getC r17 0).toInt
 let x18 := (getC r17 1).toInt
 let x19 := (getC r17 2).toInt
 let x20 := (getC r17 3).toInt
 callD (φ_bu [C.bool x0, C.list x1, C.int .i64 x2, C.list x3, C.list x4, C.list x5, C.int .i64 x17, C.int .i64 x18, C.int .i64 x19, C.int .i64 x20]) [.bool, .list, (.int .i64), .list, .list, .list] fun r21 =>
 let x21 := (getC r21 0).toBool
 let x22 := (getC r21 1).toList
 let x23 := (getC r21 2).toInt
 let x24 := (getC r21 3).toList
 let x25 := (getC r21 4).toList
 let x26 := (getC r21 5).toList
 some (.ret [C.bool x21, C.list x22, C.int .i64 x23, C.list x24, C.list x25, C.list x26])) <|
 some (.ret [C.bool x0, C.list x1, C.int .i64 x2, C.list x3, C.list x4, C.list x5])) <|
 joinD (
 let x13 := (x6 == 4)
 iteD x13 (
 some (.jump [C.bool true])) <|
 let x14 := (x6 == 5)
 iteD x14 (
 some (.jump [C.bool true])) <|
 let x15 := (x6 == 6)
 some (.jump [C.bool x15])) fun ps => J_dw_0 x0 x1 x2 x3 x4 x5 x6 x7 x8 x9 ((getC ps 0).toBool)
def t_cg : Tree :=
.call 0 [vL 0] [.bool, .list, kI, .list, .list, .list, .bool] <|
.letp .not [vB 8] <|
.ite (.v 9) (
 .ret [⟨.bool, (.b false)⟩, ⟨.list, .e⟩, nI 0, ⟨.list, .e⟩, ⟨.list, .e⟩, ⟨.list, .e⟩, ⟨.bool, (.b false)⟩]) <|
.letp .len [vL 1] <|
.letp .gtI [vI 10, nI 80] <|
.ite (.v 11) (
 .ret [⟨.bool, (.b false)⟩, ⟨.list, .e⟩, nI 0, ⟨.list, .e⟩, ⟨.list, .e⟩, ⟨.list, .e⟩, ⟨.bool, (.b false)⟩]) <|
.letp .len [vL 1] <|
.iter [nI 0, vB 2, vL 3, vI 4, vL 5, vL 6, vL 7] <|
.letp .ltI [vI 13, vI 12] <|
.ite (.v 20) (
 .row (.v 1) (.v 13) [kI, kI, kI, .list] <|
 .call 1 [vB 14, vL 15, vI 16, vL 17, vL 18, vL 19, vI 21, vI 22, vI 23, vL 24] [.bool, .list, kI, .list, .list, .list] <|
 .letp (.add .i64) [vI 13, nI 1] <|
 .jump [vI 31, vB 25, vL 26, vI 27, vL 28, vL 29, vL 30]) <|
.up <|
.ret [vB 14, vL 15, vI 16, vL 17, vL 18, vL 19, ⟨.bool, (.b true)⟩]
def Φ_cg : Phi := ph [φ_dk, φ_dw]
def φ_cg := mir Φ_cg t_cg
def L_cg_0 (x1 : LL) (x12 x13 : Int) (x14 : Bool) (x15 : LL) (x16 : Int) (x17 x18 x19 : LL) : Option Out :=
 let x20 := decide (x13 < x12)
 iteD x20 (
 rowD (.list x1) (.int .i64 x13) [(.int .i64), (.int .i64), (.int .i64), .list] fun r21 =>
 let x21 := (getC r21 0).toInt
 let x22 := (getC r21 1).toInt
 let x23 := (getC r21 2).toInt
 let x24 := (getC r21 3).toList
 callD (φ_dw [C.bool x14, C.list x15, C.int .i64 x16, C.list x17, C.list x18, C.list x19, C.int .i64 x21, C.int .i64 x22, C.int .i64 x23, C.list x24]) [.bool, .list, (.int .i64), .list, .list, .list] fun r25 =>
 let x25 := (getC r25 0).toBool
 let x26 := (getC r25 1).toList
 let x27 := (getC r25 2).toInt
 let x28 := (getC r25 3).toList
 let x29 := (getC r25 4).toList
 let x30 := (getC r25 5).toList
 let x31 := IntKind.wrap .i64 (x13 + 1)
 some (.jump [C.int .i64 x31, C.bool x25, C.list x26, C.int .i64 x27, C.list x28, C.list x29, C.list x30])) <|
 upD <|
 some (.ret [C.bool x14, C.list x15, C.int .i64 x16, C.list x17, C.list x18, C.list x19, C.bool true])
def F_cg (x0 x1 : LL) : Option Out :=
 callD (φ_dk [C.list x0]) [.bool, .list, (.int .i64), .list, .list, .list, .bool] fun r2 =>
 let x2 := (getC r2 0).toBool
 let x3 := (getC r2 1).toList
 let x4 := (getC r2 2).toInt
 let x5 := (getC r2 3).toList
 let x6 := (getC r2 4).toList
 let x7 := (getC r2 5).toList
 let x8 := (getC r2 6).toBool
 let x9 := (!x8)
 iteD x9 (
 some (.ret [C.bool false, C.list ([] : LL), C.int .i64 0, C.list ([] : LL), C.list ([] : LL), C.list ([] : LL), C.bool false])) <|
 let x10 : Int := x1.length
 let x11 := decide (x10 > 80)
 iteD x11 (
 some (.ret [C.bool false, C.list ([] : LL), C.int .i64 0, C.list ([] : LL), C.list ([] : LL), C.list ([] : LL), C.bool false])) <|
 let x12 : Int := x1.length
 iterD (fun ps => L_cg_0 x1 x12 ((getC ps 0).toInt) ((getC ps 1).toBool) ((getC ps 2).toList) ((getC ps 3).toInt) ((getC ps 4).toList) ((getC ps 5).toList) ((getC ps 6).toList)) [C.int .i64 0, C.bool x2, C.list x3, C.int .i64 x4, C.list x5, C.list x6, C.list x7]
def t_cm : Tree :=
.call 0 [vL 0] [.bool, .list, kI, .list, .list, .list, .bool] <|
.letp .not [vB 8] <|
.ite (.v 9) (
 .ret [⟨.bool, (.b false)⟩, ⟨.list, .e⟩, nI 0, ⟨.list, .e⟩, ⟨.list, .e⟩, ⟨.list, .e⟩, ⟨.bool, (.b false)⟩]) <|
.letp .len [vL 1] <|
.letp .gtI [vI 10, nI 80] <|
.ite (.v 11) (
 .ret [⟨.bool, (.b false)⟩, ⟨.list, .e⟩, nI 0, ⟨.list, .e⟩, ⟨.list, .e⟩, ⟨.list, .e⟩, ⟨.bool, (.b false)⟩]) <|
.iter [nI 0, vB 2, vI 4, vL 3, vL 5, vL 6, vL 7] <|
.letp .len [vL 1] <|
.letp .ltI [vI 12, vI 19] <|
.ite (.v 20) (
 .row (.v 1) (.v 12) [kI, kI, kI, .list] <|
 .call 1 [vB 13, vL 15, vI 14, vL 16, vL 17, vL 18, vI 21, vI 22, vI 23, vL 24] [.bool, .list, kI, .list, .list, .list] <|
 .letp (.add .i64) [vI 12, nI 1] <|
 .jump [vI 31, vB 25, vI 27, vL 26, vL 28, vL 29, vL 30]) <|
.up <|
.ret [vB 13, vL 15, vI 14, vL 16, vL 17, vL 18, ⟨.bool, (.b true)⟩]
def Φ_cm : Phi := ph [φ_ds, φ_ft]
def φ_cm := mir Φ_cm t_cm
def L_cm_0 (x1 : LL) (x12 : Int) (x13 : Bool) (x14 : Int) (x15 x16 : LL) (x17 x18 : LL) : Option Out :=
 let x19 : Int := x1.length
 let x20 := decide (x12 < x19)
 iteD x20 (
 rowD (.list x1) (.int .i64 x12) [(.int .i64), (.int .i64), (.int .i64), .list] fun r21 =>
 let x21 := (getC r21 0).toInt
 let x22 := (getC r21 1).toInt
 let x23 := (getC r21 2).toInt
 let x24 := (getC r21 3).toList
 callD (φ_ft [C.bool x13, C.list x15, C.int .i64 x14, C.list x16, C.list x17, C.list x18, C.int .i64 x21, C.int .i64 x22, C.int .i64 x23, C.list x24]) [.bool, .list, (.int .i64), .list, .list, .list] fun r25 =>
 let x25 := (getC r25 0).toBool
 let x26 := (getC r25 1).toList
 let x27 := (getC r25 2).toInt
 let x28 := (getC r25 3).toList
 let x29 := (getC r25 4).toList
 let x30 := (getC r25 5).toList
 let x31 := IntKind.wrap .i64 (x12 + 1)
 some (.jump [C.int .i64 x31, C.bool x25, C.int .i64 x27, C.list x26, C.list x28, C.list x29, C.list x30])) <|
 upD <|
 some (.ret [C.bool x13, C.list x15, C.int .i64 x14, C.list x16, C.list x17, C.list x18, C.bool true])
def F_cm (x0 x1 : LL) : Option Out :=
 callD (φ_ds [C.list x0]) [.bool, .list, (.int .i64), .list, .list, .list, .bool] fun r2 =>
 let x2 := (getC r2 0).toBool
 let x3 := (getC r2 1).toList
 let x4 := (getC r2 2).toInt
 let x5 := (getC r2 3).toList
 let x6 := (getC r2 4).toList
 let x7 := (getC r2 5).toList
 let x8 := (getC r2 6).toBool
 let x9 := (!x8)
 iteD x9 (
 some (.ret [C.bool false, C.list ([] : LL), C.int .i64 0, C.list ([] : LL), C.list ([] : LL), C.list ([] : LL), C.bool false])) <|
 let x10 : Int := x1.length
 let x11 := decide (x10 > 80)
 iteD x11 (
 some (.ret [C.bool false, C.list ([] : LL), C.int .i64 0, C.list ([] : LL), C.list ([] : LL), C.list ([] : LL), C.bool false])) <|
 iterD (fun ps => L_cm_0 x1 ((getC ps 0).toInt) ((getC ps 1).toBool) ((getC ps 2).toInt) ((getC ps 3).toList) ((getC ps 4).toList) ((getC ps 5).toList) ((getC ps 6).toList)) [C.int .i64 0, C.bool x2, C.int .i64 x4, C.list x3, C.list x5, C.list x6, C.list x7]
def t_fp : Tree :=
.letp .len [vL 0] <|
.letp .len [vL 1] <|
.letp .neI [vI 2, vI 3] <|
.ite (.v 4) (
 .ret [⟨.bool, (.b false)⟩]) <|
.iter [nI 0] <|
.letp .len [vL 0] <|
.letp .ltI [vI 5, vI 6] <|
.ite (.v 7) (
 .row (.v 0) (.v 5) [kI] <|
 .row (.v 1) (.v 5) [kI] <|
 .letp .neI [vI 8, vI 9] <|
 .ite (.v 10) (
 .up <|
 .ret [⟨.bool, (.b false)⟩]) <|
 .letp (.add .i64) [vI 5, nI 1] <|
 .jump [vI 11]) <|
.up <|
.ret [⟨.bool, (.b true)⟩]
def φ_fp := mir (ph []) t_fp
def L_fp_0 (x0 x1 : LL) (x5 : Int) : Option Out :=
 let x6 : Int := x0.length
 let x7 := decide (x5 < x6)
 iteD x7 (
 rowD (.list x0) (.int .i64 x5) [(.int .i64)] fun r8 =>
 let x8 := (getC r8 0).toInt
 rowD (.list x1) (.int .i64 x5) [(.int .i64)] fun r9 =>
 let x9 := (getC r9 0).toInt
 let x10 := (x8 != x9)
 iteD x10 (
 upD <|
 some (.ret [C.bool false])) <|
 let x11 := IntKind.wrap .i64 (x5 + 1)
 some (.jump [C.int .i64 x11])) <|
 upD <|
 some (.ret [C.bool true])
def F_fp (x0 x1 : LL) : Option Out :=
 let x2 : Int := x0.length
 let x3 : Int := x1.length
 let x4 := (x2 != x3)
 iteD x4 (
 some (.ret [C.bool false])) <|
 iterD (fun ps => L_fp_0 x0 x1 ((getC ps 0).toInt)) [C.int .i64 0]
def t_ga : Tree :=
.letp .eqI [vI 0, vI 3] <|
.ite (.v 6) (
 .letp .eqI [vI 1, vI 4] <|
 .ite (.v 7) (
 .call 0 [vL 2, vL 5] [.bool] <|
 .ret [vB 8]) <|
 .ret [⟨.bool, (.b false)⟩]) <|
.ret [⟨.bool, (.b false)⟩]
def Φ_ga : Phi := ph [φ_fp]
def φ_ga := mir Φ_ga t_ga
def F_ga (x0 x1 : Int) (x2 : LL) (x3 x4 : Int) (x5 : LL) : Option Out :=
 let x6 := (x0 == x3)
 iteD x6 (
 let x7 := (x1 == x4)
 iteD x7 (
 callD (φ_fp [C.list x2, C.list x5]) [.bool] fun r8 =>
 let x8 := (getC r8 0).toBool
 some (.ret [C.bool x8])) <|
 some (.ret [C.bool false])) <|
 some (.ret [C.bool false])
def t_fa : Tree :=
.letp .len [vL 0] <|
.letp .len [vL 1] <|
.letp .neI [vI 2, vI 3] <|
.ite (.v 4) (
 .ret [⟨.bool, (.b false)⟩]) <|
.iter [nI 0] <|
.letp .len [vL 0] <|
.letp .ltI [vI 5, vI 6] <|
.ite (.v 7) (
 .row (.v 0) (.v 5) [kI, kI, .list] <|
 .row (.v 1) (.v 5) [kI, kI, .list] <|
 .call 0 [vI 8, vI 9, vL 10, vI 11, vI 12, vL 13] [.bool] <|
 .letp .not [vB 14] <|
 .ite (.v 15) (
 .up <|
 .ret [⟨.bool, (.b false)⟩]) <|
 .letp (.add .i64) [vI 5, nI 1] <|
 .jump [vI 16]) <|
.up <|
.ret [⟨.bool, (.b true)⟩]
def Φ_fa : Phi := ph [φ_ga]
def φ_fa := mir Φ_fa t_fa
def L_fa_0 (x0 x1 : LL) (x5 : Int) : Option Out :=
 let x6 : Int := x0.length
 let x7 := decide (x5 < x6)
 iteD x7 (
 rowD (.list x0) (.int .i64 x5) [(.int .i64), (.int .i64), .list] fun r8 =>
 let x8 := (getC r8 0).toInt
 let x9 := (getC r8 1).toInt
 let x10 := (getC r8 2).toList
 rowD (.list x1) (.int .i64 x5) [(.int .i64), (.int .i64), .list] fun r11 =>
 let x11 := (getC r11 0).toInt
 let x12 := (getC r11 1).toInt
 let x13 := (getC r11 2).toList
 callD (φ_ga [C.int .i64 x8, C.int .i64 x9, C.list x10, C.int .i64 x11, C.int .i64 x12, C.list x13]) [.bool] fun r14 =>
 let x14 := (getC r14 0).toBool
 let x15 := (!x14)
 iteD x15 (
 upD <|
 some (.ret [C.bool false])) <|
 let x16 := IntKind.wrap .i64 (x5 + 1)
 some (.jump [C.int .i64 x16])) <|
 upD <|
 some (.ret [C.bool true])
def F_fa (x0 x1 : LL) : Option Out :=
 let x2 : Int := x0.length
 let x3 : Int := x1.length
 let x4 := (x2 != x3)
 iteD x4 (
 some (.ret [C.bool false])) <|
 iterD (fun ps => L_fa_0 x0 x1 ((getC ps 0).toInt)) [C.int .i64 0]
def t_fx : Tree :=
.letp .eqI [vI 1, vI 3] <|
.ite (.v 4) (
 .call 0 [vL 0, vL 2] [.bool] <|
 .ret [vB 5]) <|
.ret [⟨.bool, (.b false)⟩]
def Φ_fx : Phi := ph [φ_fa]
def φ_fx := mir Φ_fx t_fx
def F_fx (x0 : LL) (x1 : Int) (x2 : LL) (x3 : Int) : Option Out :=
 let x4 := (x1 == x3)
 iteD x4 (
 callD (φ_fa [C.list x0, C.list x2]) [.bool] fun r5 =>
 let x5 := (getC r5 0).toBool
 some (.ret [C.bool x5])) <|
 some (.ret [C.bool false])
def t_em : Tree :=
.letp .len [vL 0] <|
.letp .len [vL 1] <|
.letp .neI [vI 2, vI 3] <|
.ite (.v 4) (
 .ret [⟨.bool, (.b false)⟩]) <|
.iter [nI 0] <|
.letp .len [vL 0] <|
.letp .ltI [vI 5, vI 6] <|
.ite (.v 7) (
 .row (.v 0) (.v 5) [kI, kI, kI, kI] <|
 .row (.v 1) (.v 5) [kI, kI, kI, kI] <|
 .letp (.nes 4) [vI 8, vI 9, vI 10, vI 11, vI 12, vI 13, vI 14, vI 15] <|
 .ite (.v 16) (
 .up <|
 .ret [⟨.bool, (.b false)⟩]) <|
 .letp (.add .i64) [vI 5, nI 1] <|
 .jump [vI 17]) <|
.up <|
.ret [⟨.bool, (.b true)⟩]
def φ_em := mir (ph []) t_em
def L_em_0 (x0 x1 : LL) (x5 : Int) : Option Out :=
 let x6 : Int := x0.length
 let x7 := decide (x5 < x6)
 iteD x7 (
 rowD (.list x0) (.int .i64 x5) [(.int .i64), (.int .i64), (.int .i64), (.int .i64)] fun r8 =>
 let x8 := (getC r8 0).toInt
 let x9 := (getC r8 1).toInt
 let x10 := (getC r8 2).toInt
 let x11 := (getC r8 3).toInt
 rowD (.list x1) (.int .i64 x5) [(.int .i64), (.int .i64), (.int .i64), (.int .i64)] fun r12 =>
 let x12 := (getC r12 0).toInt
 let x13 := (getC r12 1).toInt
 let x14 := (getC r12 2).toInt
 let x15 := (getC r12 3).toInt
 let x16 := (!([x8, x9, x10, x11] == ([x12, x13, x14, x15] : List Int)))
 iteD x16 (
 upD <|
 some (.ret [C.bool false])) <|
 let x17 := IntKind.wrap .i64 (x5 + 1)
 some (.jump [C.int .i64 x17])) <|
 upD <|
 some (.ret [C.bool true])
def F_em (x0 x1 : LL) : Option Out :=
 let x2 : Int := x0.length
 let x3 : Int := x1.length
 let x4 := (x2 != x3)
 iteD x4 (
 some (.ret [C.bool false])) <|
 iterD (fun ps => L_em_0 x0 x1 ((getC ps 0).toInt)) [C.int .i64 0]
def t_fh : Tree :=
.letp .eqB [vB 0, vB 4] <|
.ite (.v 8) (
 .call 0 [vL 1, vI 2, vL 5, vI 6] [.bool] <|
 .ite (.v 9) (
 .call 1 [vL 3, vL 7] [.bool] <|
 .ret [vB 10]) <|
 .ret [⟨.bool, (.b false)⟩]) <|
.ret [⟨.bool, (.b false)⟩]
def Φ_fh : Phi := ph [φ_fx, φ_em]
def φ_fh := mir Φ_fh t_fh
def F_fh (x0 : Bool) (x1 : LL) (x2 : Int) (x3 : LL) (x4 : Bool) (x5 : LL) (x6 : Int) (x7 : LL) : Option Out :=
 let x8 := (x0 == x4)
 iteD x8 (
 callD (φ_fx [C.list x1, C.int .i64 x2, C.list x5, C.int .i64 x6]) [.bool] fun r9 =>
 let x9 := (getC r9 0).toBool
 iteD x9 (
 callD (φ_em [C.list x3, C.list x7]) [.bool] fun r10 =>
 let x10 := (getC r10 0).toBool
 some (.ret [C.bool x10])) <|
 some (.ret [C.bool false])) <|
 some (.ret [C.bool false])
def t_eh : Tree :=
.letp .eqI [vI 0, vI 5] <|
.ite (.v 10) (
 .letp .eqB [vB 1, vB 6] <|
 .ite (.v 11) (
 .letp .eqI [vI 2, vI 7] <|
 .ite (.v 12) (
 .call 0 [vL 3, vI 4, vL 8, vI 9] [.bool] <|
 .ret [vB 13]) <|
 .ret [⟨.bool, (.b false)⟩]) <|
 .ret [⟨.bool, (.b false)⟩]) <|
.ret [⟨.bool, (.b false)⟩]
def Φ_eh : Phi := ph [φ_fx]
def φ_eh := mir Φ_eh t_eh
def F_eh (x0 : Int) (x1 : Bool) (x2 : Int) (x3 : LL) (x4 x5 : Int) (x6 : Bool) (x7 : Int) (x8 : LL) (x9 : Int) : Option Out :=
 let x10 := (x0 == x5)
 iteD x10 (
 let x11 := (x1 == x6)
 iteD x11 (
 let x12 := (x2 == x7)
 iteD x12 (
 callD (φ_fx [C.list x3, C.int .i64 x4, C.list x8, C.int .i64 x9]) [.bool] fun r13 =>
 let x13 := (getC r13 0).toBool
 some (.ret [C.bool x13])) <|
 some (.ret [C.bool false])) <|
 some (.ret [C.bool false])) <|
 some (.ret [C.bool false])
def t_ev : Tree :=
.call 0 [vB 0, vL 1, vI 2, vL 3, vB 6, vL 7, vI 8, vL 9] [.bool] <|
.letp .not [vB 12] <|
.ite (.v 13) (
 .ret [⟨.bool, (.b false)⟩]) <|
.call 1 [vL 5, vL 11] [.bool] <|
.letp .not [vB 14] <|
.ite (.v 15) (
 .ret [⟨.bool, (.b false)⟩]) <|
.letp .len [vL 4] <|
.letp .len [vL 10] <|
.letp .neI [vI 16, vI 17] <|
.ite (.v 18) (
 .ret [⟨.bool, (.b false)⟩]) <|
.iter [nI 0] <|
.letp .len [vL 4] <|
.letp .ltI [vI 19, vI 20] <|
.ite (.v 21) (
 .row (.v 4) (.v 19) [kI, .bool, kI, .list, kI] <|
 .row (.v 10) (.v 19) [kI, .bool, kI, .list, kI] <|
 .call 2 [vI 22, vB 23, vI 24, vL 25, vI 26, vI 27, vB 28, vI 29, vL 30, vI 31] [.bool] <|
 .letp .not [vB 32] <|
 .ite (.v 33) (
 .up <|
 .ret [⟨.bool, (.b false)⟩]) <|
 .letp (.add .i64) [vI 19, nI 1] <|
 .jump [vI 34]) <|
.up <|
.ret [⟨.bool, (.b true)⟩]
def Φ_ev : Phi := ph [φ_fh, φ_em, φ_eh]
def φ_ev := mir Φ_ev t_ev
def L_ev_0 (x4 x10 : LL) (x19 : Int) : Option Out :=
 let x20 : Int := x4.length
 let x21 := decide (x19 < x20)
 iteD x21 (
 rowD (.list x4) (.int .i64 x19) [(.int .i64), .bool, (.int .i64), .list, (.int .i64)] fun r22 =>
 let x22 := (getC r22 0).toInt
 let x23 := (getC r22 1).toBool
 let x24 := (getC r22 2).toInt
 let x25 := (getC r22 3).toList
 let x26 := (getC r22 4).toInt
 rowD (.list x10) (.int .i64 x19) [(.int .i64), .bool, (.int .i64), .list, (.int .i64)] fun r27 =>
 let x27 := (getC r27 0).toInt
 let x28 := (getC r27 1).toBool
 let x29 := (getC r27 2).toInt
 let x30 := (getC r27 3).toList
 let x31 := (getC r27 4).toInt
 callD (φ_eh [C.int .i64 x22, C.bool x23, C.int .i64 x24, C.list x25, C.int .i64 x26, C.int .i64 x27, C.bool x28, C.int .i64 x29, C.list x30, C.int .i64 x31]) [.bool] fun r32 =>
 let x32 := (getC r32 0).toBool
 let x33 := (!x32)
 iteD x33 (
 upD <|
 some (.ret [C.bool false])) <|
 let x34 := IntKind.wrap .i64 (x19 + 1)
 some (.jump [C.int .i64 x34])) <|
 upD <|
 some (.ret [C.bool true])
def F_ev (x0 : Bool) (x1 : LL) (x2 : Int) (x3 x4 x5 : LL) (x6 : Bool) (x7 : LL) (x8 : Int) (x9 x10 x11 : LL) : Option Out :=
 callD (φ_fh [C.bool x0, C.list x1, C.int .i64 x2, C.list x3, C.bool x6, C.list x7, C.int .i64 x8, C.list x9]) [.bool] fun r12 =>
 let x12 := (getC r12 0).toBool
 let x13 := (!x12)
 iteD x13 (
 some (.ret [C.bool false])) <|
 callD (φ_em [C.list x5, C.list x11]) [.bool] fun r14 =>
 let x14 := (getC r14 0).toBool
 let x15 := (!x14)
 iteD x15 (
 some (.ret [C.bool false])) <|
 let x16 : Int := x4.length
 let x17 : Int := x10.length
 let x18 := (x16 != x17)
 iteD x18 (
 some (.ret [C.bool false])) <|
 iterD (fun ps => L_ev_0 x4 x10 ((getC ps 0).toInt)) [C.int .i64 0]
def t_ch : Tree :=
.call 0 [vI 0, vI 1, vI 2, vI 3] [.bool] <|
.letp .not [vB 4] <|
.ret [vB 5]
def Φ_ch : Phi := ph [φ_fd]
def φ_ch := mir Φ_ch t_ch
def F_ch (x0 x1 : Int) (x2 x3 : Int) : Option Out :=
 callD (φ_fd [C.int .i64 x0, C.int .i64 x1, C.int .i64 x2, C.int .i64 x3]) [.bool] fun r4 =>
 let x4 := (getC r4 0).toBool
 let x5 := (!x4)
 some (.ret [C.bool x5])
def t_ah : Tree :=
.letp .len [vL 0] <|
.iter [nI 0] <|
.letp .ltI [vI 2, vI 1] <|
.ite (.v 3) (
 .row (.v 0) (.v 2) [kI, kI, kI, kI] <|
 .call 0 [vI 4, vI 5, vI 6, vI 7] [.bool] <|
 .ite (.v 8) (
 .up <|
 .ret [vI 2]) <|
 .letp (.add .i64) [vI 2, nI 1] <|
 .jump [vI 9]) <|
.up <|
.ret [⟨kI, (.n (-1))⟩]
def Φ_ah : Phi := ph [φ_ch]
def φ_ah := mir Φ_ah t_ah
def L_ah_0 (x0 : LL) (x1 x2 : Int) : Option Out :=
 let x3 := decide (x2 < x1)
 iteD x3 (
 rowD (.list x0) (.int .i64 x2) [(.int .i64), (.int .i64), (.int .i64), (.int .i64)] fun r4 =>
 let x4 := (getC r4 0).toInt
 let x5 := (getC r4 1).toInt
 let x6 := (getC r4 2).toInt
 let x7 := (getC r4 3).toInt
 callD (φ_ch [C.int .i64 x4, C.int .i64 x5, C.int .i64 x6, C.int .i64 x7]) [.bool] fun r8 =>
 let x8 := (getC r8 0).toBool
 iteD x8 (
 upD <|
 some (.ret [C.int .i64 x2])) <|
 let x9 := IntKind.wrap .i64 (x2 + 1)
 some (.jump [C.int .i64 x9])) <|
 upD <|
 some (.ret [C.int .i64 (-1)])
def F_ah (x0 : LL) : Option Out :=
 let x1 : Int := x0.length
 iterD (fun ps => L_ah_0 x0 x1 ((getC ps 0).toInt)) [C.int .i64 0]
def t_ae : Tree :=
.call 0 [vL 0] [kI] <|
.letp .geI [vI 1, nI 0] <|
.ret [vB 2]
def Φ_ae : Phi := ph [φ_ah]
def φ_ae := mir Φ_ae t_ae
def F_ae (x0 : LL) : Option Out :=
 callD (φ_ah [C.list x0]) [(.int .i64)] fun r1 =>
 let x1 := (getC r1 0).toInt
 let x2 := decide (x1 >= 0)
 some (.ret [C.bool x2])
def t_dx : Tree :=
.call 0 [vB 0, vL 1, vI 2, vL 3] [.bool] <|
.letp .not [vB 6] <|
.ite (.v 7) (
 .ret [⟨.bool, (.b false)⟩]) <|
.letp .len [vL 4] <|
.letp .neI [vI 8, nI 3] <|
.ite (.v 9) (
 .ret [⟨.bool, (.b false)⟩]) <|
.letp .len [vL 5] <|
.letp .gtI [vI 10, nI 14] <|
.ite (.v 11) (
 .ret [⟨.bool, (.b false)⟩]) <|
.letp .len [vL 4] <|
.iter [nI 0] <|
.letp .ltI [vI 13, vI 12] <|
.ite (.v 14) (
 .row (.v 4) (.v 13) [kI, .bool, kI, .list, kI] <|
 .call 1 [vI 15, vB 16, vI 17, vL 18, vI 19] [.bool] <|
 .letp .not [vB 20] <|
 .ite (.v 21) (
 .up <|
 .ret [⟨.bool, (.b false)⟩]) <|
 .letp (.add .i64) [vI 13, nI 1] <|
 .letp .neI [vI 15, vI 22] <|
 .ite (.v 23) (
 .up <|
 .ret [⟨.bool, (.b false)⟩]) <|
 .letp (.add .i64) [vI 13, nI 1] <|
 .jump [vI 24]) <|
.up <|
.call 2 [vL 5] [.bool] <|
.letp .not [vB 15] <|
.ret [vB 16]
def Φ_dx : Phi := ph [φ_fm, φ_dz, φ_ae]
def φ_dx := mir Φ_dx t_dx
def L_dx_0 (x4 x5 : LL) (x12 x13 : Int) : Option Out :=
 let x14 := decide (x13 < x12)
 iteD x14 (
 rowD (.list x4) (.int .i64 x13) [(.int .i64), .bool, (.int .i64), .list, (.int .i64)] fun r15 =>
 let x15 := (getC r15 0).toInt
 let x16 := (getC r15 1).toBool
 let x17 := (getC r15 2).toInt
 let x18 := (getC r15 3).toList
 let x19 := (getC r15 4).toInt
 callD (φ_dz [C.int .i64 x15, C.bool x16, C.int .i64 x17, C.list x18, C.int .i64 x19]) [.bool] fun r20 =>
 let x20 := (getC r20 0).toBool
 let x21 := (!x20)
 iteD x21 (
 upD <|
 some (.ret [C.bool false])) <|
 let x22 := IntKind.wrap .i64 (x13 + 1)
 let x23 := (x15 != x22)
 iteD x23 (
 upD <|
 some (.ret [C.bool false])) <|
 let x24 := IntKind.wrap .i64 (x13 + 1)
 some (.jump [C.int .i64 x24])) <|
 upD <|
 callD (φ_ae [C.list x5]) [.bool] fun r15 =>
 let x15 := (getC r15 0).toBool
 let x16 := (!x15)
 some (.ret [C.bool x16])
def F_dx (x0 : Bool) (x1 : LL) (x2 : Int) (x3 x4 x5 : LL) : Option Out :=
 callD (φ_fm [C.bool x0, C.list x1, C.int .i64 x2, C.list x3]) [.bool] fun r6 =>
 let x6 := (getC r6 0).toBool
 let x7 := (!x6)
 iteD x7 (
 some (.ret [C.bool false])) <|
 let x8 : Int := x4.length
 let x9 := (x8 != 3)
 iteD x9 (
 some (.ret [C.bool false])) <|
 let x10 : Int := x5.length
 let x11 := decide (x10 > 14)
 iteD x11 (
 some (.ret [C.bool false])) <|
 let x12 : Int := x4.length
 iterD (fun ps => L_dx_0 x4 x5 x12 ((getC ps 0).toInt)) [C.int .i64 0]
def t_ba : Tree :=
.join [.bool, .list, kI, .list, .list] (
 .call 0 [vB 0, vL 1, vI 2, vL 3] [.bool, .list, kI, .list] <|
 .call 1 [vL 5] [.list] <|
 .jump [vB 6, vL 7, vI 8, vL 9, vL 10]) <|
.letp .len [vL 4] <|
.iter [nI 0, ⟨.list, .e⟩] <|
.letp .ltI [vI 12, vI 11] <|
.ite (.v 14) (
 .row (.v 4) (.v 12) [kI, .bool, kI, .list, kI] <|
 .call 2 [vI 15, vB 16, vI 17, vL 18, vI 19] [kI, .bool, kI, .list, kI] <|
 .letp (.mkl 5) [vI 20, vB 21, vI 22, vL 23, vI 24] <|
 .chk .fits [vL 13, vL 25] <|
 .letp .app [vL 13, vL 25] <|
 .letp (.add .i64) [vI 12, nI 1] <|
 .jump [vI 27, vL 26]) <|
.up <|
.ret [vB 6, vL 7, vI 8, vL 9, vL 13, vL 10]
def Φ_ba : Phi := ph [φ_bg, φ_at, φ_bb]
def φ_ba := mir Φ_ba t_ba
def L_ba_0 (x4 : LL) (x6 : Bool) (x7 : LL) (x8 : Int) (x9 x10 : LL) (x11 x12 : Int) (x13 : LL) : Option Out :=
 let x14 := decide (x12 < x11)
 iteD x14 (
 rowD (.list x4) (.int .i64 x12) [(.int .i64), .bool, (.int .i64), .list, (.int .i64)] fun r15 =>
 let x15 := (getC r15 0).toInt
 let x16 := (getC r15 1).toBool
 let x17 := (getC r15 2).toInt
 let x18 := (getC r15 3).toList
 let x19 := (getC r15 4).toInt
 callD (φ_bb [C.int .i64 x15, C.bool x16, C.int .i64 x17, C.list x18, C.int .i64 x19]) [(.int .i64), .bool, (.int .i64), .list, (.int .i64)] fun r20 =>
 let x20 := (getC r20 0).toInt
 let x21 := (getC r20 1).toBool
 let x22 := (getC r20 2).toInt
 let x23 := (getC r20 3).toList
 let x24 := (getC r20 4).toInt
 let x25 := [[C.int .i64 x20, C.bool x21, C.int .i64 x22, C.list x23, C.int .i64 x24]]
 whenD (decide (x13.length + x25.length <= LMAX)) <|
 let x26 := (x13 ++ x25)
 let x27 := IntKind.wrap .i64 (x12 + 1)
 some (.jump [C.int .i64 x27, C.list x26])) <|
 upD <|
 some (.ret [C.bool x6, C.list x7, C.int .i64 x8, C.list x9, C.list x13, C.list x10])
def J_ba_1 (x4 : LL) (x6 : Bool) (x7 : LL) (x8 : Int) (x9 x10 : LL) : Option Out :=
 let x11 : Int := x4.length
 iterD (fun ps => L_ba_0 x4 x6 x7 x8 x9 x10 x11 ((getC ps 0).toInt) ((getC ps 1).toList)) [C.int .i64 0, C.list ([] : LL)]
def F_ba (x0 : Bool) (x1 : LL) (x2 : Int) (x3 x4 x5 : LL) : Option Out :=
 joinD (
 callD (φ_bg [C.bool x0, C.list x1, C.int .i64 x2, C.list x3]) [.bool, .list, (.int .i64), .list] fun r6 =>
 let x6 := (getC r6 0).toBool
 let x7 := (getC r6 1).toList
 let x8 := (getC r6 2).toInt
 let x9 := (getC r6 3).toList
 callD (φ_at [C.list x5]) [.list] fun r10 =>
 let x10 := (getC r10 0).toList
 some (.jump [C.bool x6, C.list x7, C.int .i64 x8, C.list x9, C.list x10])) fun ps => J_ba_1 x4 ((getC ps 0).toBool) ((getC ps 1).toList) ((getC ps 2).toInt) ((getC ps 3).toList) ((getC ps 4).toList)
def t_aq : Tree :=
.letp .len [vL 0] <|
.iter [nI 0, nI 0] <|
.letp .ltI [vI 3, vI 1] <|
.ite (.v 4) (
 .row (.v 0) (.v 3) [.list] <|
 .letp .len [vL 5] <|
 .letp (.add .i64) [vI 2, vI 6] <|
 .letp .ltI [vI 7, nI 0] <|
 .ite (.v 8) (
 .fail) <|
 .letp (.add .i64) [vI 3, nI 1] <|
 .jump [vI 7, vI 9]) <|
.up <|
.call 0 [⟨.list, .e⟩, vI 2] [.list] <|
.letp .len [vL 0] <|
.iter [nI 0, vL 5] <|
.letp .ltI [vI 7, vI 6] <|
.ite (.v 9) (
 .row (.v 0) (.v 7) [.list] <|
 .chk (.rowsk [kI, kI, kI, kI]) [vL 10] <|
 .chk .fits [vL 8, vL 10] <|
 .letp .app [vL 8, vL 10] <|
 .letp (.add .i64) [vI 7, nI 1] <|
 .jump [vI 12, vL 11]) <|
.up <|
.ret [vL 8]
def Φ_aq : Phi := ph [φ_av]
def φ_aq := mir Φ_aq t_aq
def L_aq_0 (x0 : LL) (x6 x7 : Int) (x8 : LL) : Option Out :=
 let x9 := decide (x7 < x6)
 iteD x9 (
 rowD (.list x0) (.int .i64 x7) [.list] fun r10 =>
 let x10 := (getC r10 0).toList
 whenD ((x10.all (kindsB [(.int .i64), (.int .i64), (.int .i64), (.int .i64)]))) <|
 whenD (decide (x8.length + x10.length <= LMAX)) <|
 let x11 := (x8 ++ x10)
 let x12 := IntKind.wrap .i64 (x7 + 1)
 some (.jump [C.int .i64 x12, C.list x11])) <|
 upD <|
 some (.ret [C.list x8])
def L_aq_1 (x0 : LL) (x1 x2 x3 : Int) : Option Out :=
 let x4 := decide (x3 < x1)
 iteD x4 (
 rowD (.list x0) (.int .i64 x3) [.list] fun r5 =>
 let x5 := (getC r5 0).toList
 let x6 : Int := x5.length
 let x7 := IntKind.wrap .i64 (x2 + x6)
 let x8 := decide (x7 < 0)
 iteD x8 (
 none) <|
 let x9 := IntKind.wrap .i64 (x3 + 1)
 some (.jump [C.int .i64 x7, C.int .i64 x9])) <|
 upD <|
 callD (φ_av [C.list ([] : LL), C.int .i64 x2]) [.list] fun r5 =>
 let x5 := (getC r5 0).toList
 let x6 : Int := x0.length
 iterD (fun ps => L_aq_0 x0 x6 ((getC ps 0).toInt) ((getC ps 1).toList)) [C.int .i64 0, C.list x5]
def F_aq (x0 : LL) : Option Out :=
 let x1 : Int := x0.length
 iterD (fun ps => L_aq_1 x0 x1 ((getC ps 0).toInt) ((getC ps 1).toInt)) [C.int .i64 0, C.int .i64 0]
def t_az : Tree :=
.call 0 [vI 6, vI 7, vI 8, vI 9] [.bool] <|
.ite (.v 10) (
 .call 1 [vB 0, vL 1, vI 2, vL 3, vI 6, vI 7, vI 8, vI 9] [.bool, .list, kI, .list] <|
 .ret [nI 0, nI 0, nI 0, nI 0, ⟨.bool, (.b false)⟩, vB 11, vL 12, vI 13, vL 14, vL 4, vL 5]) <|
.letp (.sub .i64) [vI 7, nI 1] <|
.chk .idx [vI 11, vL 4] <|
.row (.v 4) (.v 11) [kI, .bool, kI, .list, kI] <|
.call 2 [vI 12, vB 13, vI 14, vL 15, vI 16, vI 6, vI 7, vI 8, vI 9] [kI, .bool, kI, .list, kI, kI, kI, kI, kI, .bool] <|
.letp (.sub .i64) [vI 7, nI 1] <|
.chk .idx [vI 27, vL 4] <|
.letp (.setr 0) [vL 4, vI 27, vI 17, vB 18, vI 19, vL 20, vI 21] <|
.ret [vI 22, vI 23, vI 24, vI 25, vB 26, vB 0, vL 1, vI 2, vL 3, vL 28, vL 5]
def Φ_az : Phi := ph [φ_bo, φ_cq, φ_ct]
def φ_az := mir Φ_az t_az
def F_az (x0 : Bool) (x1 : LL) (x2 : Int) (x3 x4 x5 : LL) (x6 x7 : Int) (x8 x9 : Int) : Option Out :=
 callD (φ_bo [C.int .i64 x6, C.int .i64 x7, C.int .i64 x8, C.int .i64 x9]) [.bool] fun r10 =>
 let x10 := (getC r10 0).toBool
 iteD x10 (
 callD (φ_cq [C.bool x0, C.list x1, C.int .i64 x2, C.list x3, C.int .i64 x6, C.int .i64 x7, C.int .i64 x8, C.int .i64 x9]) [.bool, .list, (.int .i64), .list] fun r11 =>
 let x11 := (getC r11 0).toBool
 let x12 := (getC r11 1).toList
 let x13 := (getC r11 2).toInt
 let x14 := (getC r11 3).toList
 some (.ret [C.int .i64 0, C.int .i64 0, C.int .i64 0, C.int .i64 0, C.bool false, C.bool x11, C.list x12, C.int .i64 x13, C.list x14, C.list x4, C.list x5])) <|
 let x11 := IntKind.wrap .i64 (x7 - 1)
 whenD ((decide ((0 : Int) <= x11) && decide (x11 < (x4.length : Nat)))) <|
 rowD (.list x4) (.int .i64 x11) [(.int .i64), .bool, (.int .i64), .list, (.int .i64)] fun r12 =>
 let x12 := (getC r12 0).toInt
 let x13 := (getC r12 1).toBool
 let x14 := (getC r12 2).toInt
 let x15 := (getC r12 3).toList
 let x16 := (getC r12 4).toInt
 callD (φ_ct [C.int .i64 x12, C.bool x13, C.int .i64 x14, C.list x15, C.int .i64 x16, C.int .i64 x6, C.int .i64 x7, C.int .i64 x8, C.int .i64 x9]) [(.int .i64), .bool, (.int .i64), .list, (.int .i64), (.int .i64), (.int .i64), (.int .i64), (.int .i64), .bool] fun r17 =>
 let x17 := (getC r17 0).toInt
 let x18 := (getC r17 1).toBool
 let x19 := (getC r17 2).toInt
 let x20 := (getC r17 3).toList
 let x21 := (getC r17 4).toInt
 let x22 := (getC r17 5).toInt
 let x23 := (getC r17 6).toInt
 let x24 := (getC r17 7).toInt
 let x25 := (getC r17 8).toInt
 let x26 := (getC r17 9).toBool
 let x27 := IntKind.wrap .i64 (x7 - 1)
 whenD ((decide ((0 : Int) <= x27) && decide (x27 < (x4.length : Nat)))) <|
 let x28 := (setRow 0 x4 (Int.toNat x27) [C.int .i64 x17, C.bool x18, C.int .i64 x19, C.list x20, C.int .i64 x21])
 some (.ret [C.int .i64 x22, C.int .i64 x23, C.int .i64 x24, C.int .i64 x25, C.bool x26, C.bool x0, C.list x1, C.int .i64 x2, C.list x3, C.list x28, C.list x5])
def t_cc : Tree :=
.iter [nI 0, vB 0, vL 1, vI 2, vL 3, vL 4, vL 5] <|
.letp .ltI [vI 6, nI 4] <|
.ite (.v 13) (
 .call 1 [vB 7, vL 8, vI 9, vL 10, vL 11, vL 12, vI 6] [.bool, .list, kI, .list, .list, .list] <|
 .letp (.add .i64) [vI 6, nI 1] <|
 .jump [vI 20, vB 14, vL 15, vI 16, vL 17, vL 18, vL 19]) <|
.up <|
.call 2 [vB 7, vL 8, vI 9, vL 10] [.list] <|
.letp (.mkl 1) [vL 12, vL 14] <|
.call 3 [vL 15] [.list] <|
.letp .len [vL 16] <|
.iter [nI 0, vB 7, vL 8, vI 9, vL 12, vL 10, vL 11] <|
.letp .ltI [vI 18, vI 17] <|
.ite (.v 25) (
 .chk .idx [vI 18, vL 16] <|
 .row (.v 16) (.v 18) [kI, kI, kI, kI] <|
 .call 4 [vB 19, vL 20, vI 21, vL 23, vL 24, vL 22, vI 26, vI 27, vI 28, vI 29] [kI, kI, kI, kI, .bool, .bool, .list, kI, .list, .list, .list] <|
 .ite (.v 34) (
 .call 5 [vB 35, vL 36, vI 37, vL 38, vI 30, vI 31, vI 32, vI 33] [.bool, .list, kI, .list] <|
 .letp (.add .i64) [vI 18, nI 1] <|
 .jump [vI 45, vB 41, vL 42, vI 43, vL 40, vL 44, vL 39]) <|
 .letp (.add .i64) [vI 18, nI 1] <|
 .jump [vI 41, vB 35, vL 36, vI 37, vL 40, vL 38, vL 39]) <|
.up <|
.iter [nI 0, vB 19, vL 20, vI 21, vL 23, vL 24, ⟨.list, .e⟩] <|
.letp .ltI [vI 26, nI 4] <|
.ite (.v 33) (
 .call 0 [vB 27, vL 28, vI 29, vL 30, vL 31, vL 32, vI 26] [.bool, .list, kI, .list, .list, .list] <|
 .letp (.add .i64) [vI 26, nI 1] <|
 .jump [vI 40, vB 34, vL 35, vI 36, vL 37, vL 38, vL 39]) <|
.up <|
.ret [vB 27, vL 28, vI 29, vL 30, vL 31, vL 32]
def Φ_cc : Phi := ph [φ_ab, φ_ac, φ_bz, φ_aq, φ_az, φ_cq]
def φ_cc := mir Φ_cc t_cc
def L_cc_0 (x26 : Int) (x27 : Bool) (x28 : LL) (x29 : Int) (x30 x31 x32 : LL) : Option Out :=
 let x33 := decide (x26 < 4)
 iteD x33 (
 callD (φ_ab [C.bool x27, C.list x28, C.int .i64 x29, C.list x30, C.list x31, C.list x32, C.int .i64 x26]) [.bool, .list, (.int .i64), .list, .list, .list] fun r34 =>
 let x34 := (getC r34 0).toBool
 let x35 := (getC r34 1).toList
 let x36 := (getC r34 2).toInt
 let x37 := (getC r34 3).toList
 let x38 := (getC r34 4).toList
 let x39 := (getC r34 5).toList
 let x40 := IntKind.wrap .i64 (x26 + 1)
 some (.jump [C.int .i64 x40, C.bool x34, C.list x35, C.int .i64 x36, C.list x37, C.list x38, C.list x39])) <|
 upD <|
 some (.ret [C.bool x27, C.list x28, C.int .i64 x29, C.list x30, C.list x31, C.list x32])
def L_cc_1 (x16 : LL) (x17 x18 : Int) (x19 : Bool) (x20 : LL) (x21 : Int) (x22 x23 x24 : LL) : Option Out :=
 let x25 := decide (x18 < x17)
 iteD x25 (
 whenD ((decide ((0 : Int) <= x18) && decide (x18 < (x16.length : Nat)))) <|
 rowD (.list x16) (.int .i64 x18) [(.int .i64), (.int .i64), (.int .i64), (.int .i64)] fun r26 =>
 let x26 := (getC r26 0).toInt
 let x27 := (getC r26 1).toInt
 let x28 := (getC r26 2).toInt
 let x29 := (getC r26 3).toInt
 callD (φ_az [C.bool x19, C.list x20, C.int .i64 x21, C.list x23, C.list x24, C.list x22, C.int .i64 x26, C.int .i64 x27, C.int .i64 x28, C.int .i64 x29]) [(.int .i64), (.int .i64), (.int .i64), (.int .i64), .bool, .bool, .list, (.int .i64), .list, .list, .list] fun r30 =>
 let x30 := (getC r30 0).toInt
 let x31 := (getC r30 1).toInt
 let x32 := (getC r30 2).toInt
 let x33 := (getC r30 3).toInt
 let x34 := (getC r30 4).toBool
 let x35 := (getC r30 5).toBool
 let x36 := (getC r30 6).toList
 let x37 := (getC r30 7).toInt
 let x38 := (getC r30 8).toList
 let x39 := (getC r30 9).toList
 let x40 := (getC r30 10).toList
 iteD x34 (
 callD (φ_cq [C.bool x35, C.list x36, C.int .i64 x37, C.list x38, C.int .i64 x30, C.int .i64 x31, C.int .i64 x32, C.int .i64 x33]) [.bool, .list, (.int .i64), .list] fun r41 =>
 let x41 := (getC r41 0).toBool
 let x42 := (getC r41 1).toList
 let x43 := (getC r41 2).toInt
 let x44 := (getC r41 3).toList
 let x45 := IntKind.wrap .i64 (x18 + 1)
 some (.jump [C.int .i64 x45, C.bool x41, C.list x42, C.int .i64 x43, C.list x40, C.list x44, C.list x39])) <|
 let x41 := IntKind.wrap .i64 (x18 + 1)
 some (.jump [C.int .i64 x41, C.bool x35, C.list x36, C.int .i64 x37, C.list x40, C.list x38, C.list x39])) <|
 upD <|
 iterD (fun ps => L_cc_0 ((getC ps 0).toInt) ((getC ps 1).toBool) ((getC ps 2).toList) ((getC ps 3).toInt) ((getC ps 4).toList) ((getC ps 5).toList) ((getC ps 6).toList)) [C.int .i64 0, C.bool x19, C.list x20, C.int .i64 x21, C.list x23, C.list x24, C.list ([] : LL)]
def L_cc_2 (x6 : Int) (x7 : Bool) (x8 : LL) (x9 : Int) (x10 x11 x12 : LL) : Option Out :=
 let x13 := decide (x6 < 4)
 iteD x13 (
 callD (φ_ac [C.bool x7, C.list x8, C.int .i64 x9, C.list x10, C.list x11, C.list x12, C.int .i64 x6]) [.bool, .list, (.int .i64), .list, .list, .list] fun r14 =>
 let x14 := (getC r14 0).toBool
 let x15 := (getC r14 1).toList
 let x16 := (getC r14 2).toInt
 let x17 := (getC r14 3).toList
 let x18 := (getC r14 4).toList
 let x19 := (getC r14 5).toList
 let x20 := IntKind.wrap .i64 (x6 + 1)
 some (.jump [C.int .i64 x20, C.bool x14, C.list x15, C.int .i64 x16, C.list x17, C.list x18, C.list x19])) <|
 upD <|
 callD (φ_bz [C.bool x7, C.list x8, C.int .i64 x9, C.list x10]) [.list] fun r14 =>
 let x14 := (getC r14 0).toList
 let x15 := [[C.list x12], [C.list x14]]
 callD (φ_aq [C.list x15]) [.list] fun r16 =>
 let x16 := (getC r16 0).toList
 let x17 : Int := x16.length
 iterD (fun ps => L_cc_1 x16 x17 ((getC ps 0).toInt) ((getC ps 1).toBool) ((getC ps 2).toList) ((getC ps 3).toInt) ((getC ps 4).toList) ((getC ps 5).toList) ((getC ps 6).toList)) [C.int .i64 0, C.bool x7, C.list x8, C.int .i64 x9, C.list x12, C.list x10, C.list x11]
def F_cc (x0 : Bool) (x1 : LL) (x2 : Int) (x3 x4 x5 : LL) : Option Out :=
 iterD (fun ps => L_cc_2 ((getC ps 0).toInt) ((getC ps 1).toBool) ((getC ps 2).toList) ((getC ps 3).toInt) ((getC ps 4).toList) ((getC ps 5).toList) ((getC ps 6).toList)) [C.int .i64 0, C.bool x0, C.list x1, C.int .i64 x2, C.list x3, C.list x4, C.list x5]
def t_cu : Tree :=
.call 0 [vB 0, vL 1, vI 2, vL 3, vL 4, vL 5] [.bool] <|
.letp .not [vB 7] <|
.ite (.v 8) (
 .ret [⟨.bool, (.b false)⟩, ⟨.list, .e⟩, nI 0, ⟨.list, .e⟩, ⟨.list, .e⟩, ⟨.list, .e⟩]) <|
.call 1 [vI 6, nI 0, nI 9] [.bool] <|
.letp .not [vB 9] <|
.ite (.v 10) (
 .ret [⟨.bool, (.b false)⟩, ⟨.list, .e⟩, nI 0, ⟨.list, .e⟩, ⟨.list, .e⟩, ⟨.list, .e⟩]) <|
.call 2 [vB 0, vL 1, vI 2, vL 3, vL 4, vL 5] [.bool, .list, kI, .list, .list, .list] <|
.iter [nI 0, vB 11, vL 12, vI 13, vL 14, vL 15, vL 16] <|
.letp .ltI [vI 17, vI 6] <|
.ite (.v 24) (
 .call 3 [vB 18, vL 19, vI 20, vL 21, vL 22, vL 23] [.bool, .list, kI, .list, .list, .list] <|
 .letp (.add .i64) [vI 17, nI 1] <|
 .jump [vI 31, vB 25, vL 26, vI 27, vL 28, vL 29, vL 30]) <|
.up <|
.ret [vB 18, vL 19, vI 20, vL 21, vL 22, vL 23]
def Φ_cu : Phi := ph [φ_dx, φ_gd, φ_ba, φ_cc]
def φ_cu := mir Φ_cu t_cu
def L_cu_0 (x6 x17 : Int) (x18 : Bool) (x19 : LL) (x20 : Int) (x21 x22 x23 : LL) : Option Out :=
 let x24 := decide (x17 < x6)
 iteD x24 (
 callD (φ_cc [C.bool x18, C.list x19, C.int .i64 x20, C.list x21, C.list x22, C.list x23]) [.bool, .list, (.int .i64), .list, .list, .list] fun r25 =>
 let x25 := (getC r25 0).toBool
 let x26 := (getC r25 1).toList
 let x27 := (getC r25 2).toInt
 let x28 := (getC r25 3).toList
 let x29 := (getC r25 4).toList
 let x30 := (getC r25 5).toList
 let x31 := IntKind.wrap .i64 (x17 + 1)
 some (.jump [C.int .i64 x31, C.bool x25, C.list x26, C.int .i64 x27, C.list x28, C.list x29, C.list x30])) <|
 upD <|
 some (.ret [C.bool x18, C.list x19, C.int .i64 x20, C.list x21, C.list x22, C.list x23])
def F_cu (x0 : Bool) (x1 : LL) (x2 : Int) (x3 x4 x5 : LL) (x6 : Int) : Option Out :=
 callD (φ_dx [C.bool x0, C.list x1, C.int .i64 x2, C.list x3, C.list x4, C.list x5]) [.bool] fun r7 =>
 let x7 := (getC r7 0).toBool
 let x8 := (!x7)
 iteD x8 (
 some (.ret [C.bool false, C.list ([] : LL), C.int .i64 0, C.list ([] : LL), C.list ([] : LL), C.list ([] : LL)])) <|
 callD (φ_gd [C.int .i64 x6, C.int .i64 0, C.int .i64 9]) [.bool] fun r9 =>
 let x9 := (getC r9 0).toBool
 let x10 := (!x9)
 iteD x10 (
 some (.ret [C.bool false, C.list ([] : LL), C.int .i64 0, C.list ([] : LL), C.list ([] : LL), C.list ([] : LL)])) <|
 callD (φ_ba [C.bool x0, C.list x1, C.int .i64 x2, C.list x3, C.list x4, C.list x5]) [.bool, .list, (.int .i64), .list, .list, .list] fun r11 =>
 let x11 := (getC r11 0).toBool
 let x12 := (getC r11 1).toList
 let x13 := (getC r11 2).toInt
 let x14 := (getC r11 3).toList
 let x15 := (getC r11 4).toList
 let x16 := (getC r11 5).toList
 iterD (fun ps => L_cu_0 x6 ((getC ps 0).toInt) ((getC ps 1).toBool) ((getC ps 2).toList) ((getC ps 3).toInt) ((getC ps 4).toList) ((getC ps 5).toList) ((getC ps 6).toList)) [C.int .i64 0, C.bool x11, C.list x12, C.int .i64 x13, C.list x14, C.list x15, C.list x16]
def t_cs : Tree :=
.call 0 [vB 0, vL 1, vI 2, vL 3] [.bool] <|
.letp .not [vB 5] <|
.ite (.v 6) (
 .ret [⟨.list, .e⟩]) <|
.call 1 [vB 0, vL 1, vI 2, vL 3, vB 4] [.list] <|
.ret [vL 7]
def Φ_cs : Phi := ph [φ_fm, φ_ce]
def φ_cs := mir Φ_cs t_cs
def F_cs (x0 : Bool) (x1 : LL) (x2 : Int) (x3 : LL) (x4 : Bool) : Option Out :=
 callD (φ_fm [C.bool x0, C.list x1, C.int .i64 x2, C.list x3]) [.bool] fun r5 =>
 let x5 := (getC r5 0).toBool
 let x6 := (!x5)
 iteD x6 (
 some (.ret [C.list ([] : LL)])) <|
 callD (φ_ce [C.bool x0, C.list x1, C.int .i64 x2, C.list x3, C.bool x4]) [.list] fun r7 =>
 let x7 := (getC r7 0).toList
 some (.ret [C.list x7])
def t_by : Tree :=
.call 0 [vI 0, vB 1, vI 2, vL 3, vI 4] [.bool] <|
.letp .not [vB 6] <|
.ite (.v 7) (
 .ret [nI 0, ⟨.list, .e⟩]) <|
.call 1 [vI 0, vB 1, vI 2, vL 3, vI 4, vB 5] [kI, .list] <|
.ret [vI 8, vL 9]
def Φ_by : Phi := ph [φ_dz, φ_bi]
def φ_by := mir Φ_by t_by
def F_by (x0 : Int) (x1 : Bool) (x2 : Int) (x3 : LL) (x4 : Int) (x5 : Bool) : Option Out :=
 callD (φ_dz [C.int .i64 x0, C.bool x1, C.int .i64 x2, C.list x3, C.int .i64 x4]) [.bool] fun r6 =>
 let x6 := (getC r6 0).toBool
 let x7 := (!x6)
 iteD x7 (
 some (.ret [C.int .i64 0, C.list ([] : LL)])) <|
 callD (φ_bi [C.int .i64 x0, C.bool x1, C.int .i64 x2, C.list x3, C.int .i64 x4, C.bool x5]) [(.int .i64), .list] fun r8 =>
 let x8 := (getC r8 0).toInt
 let x9 := (getC r8 1).toList
 some (.ret [C.int .i64 x8, C.list x9])
def t_db : Tree :=
.call 0 [vI 0, vL 1] [.bool] <|
.letp .not [vB 2] <|
.ite (.v 3) (
 .ret [⟨kI, (.n (-1))⟩]) <|
.call 1 [vI 0, vL 1] [kI] <|
.ret [vI 4]
def Φ_db : Phi := ph [φ_ej, φ_bs]
def φ_db := mir Φ_db t_db
def F_db (x0 : Int) (x1 : LL) : Option Out :=
 callD (φ_ej [C.int .i64 x0, C.list x1]) [.bool] fun r2 =>
 let x2 := (getC r2 0).toBool
 let x3 := (!x2)
 iteD x3 (
 some (.ret [C.int .i64 (-1)])) <|
 callD (φ_bs [C.int .i64 x0, C.list x1]) [(.int .i64)] fun r4 =>
 let x4 := (getC r4 0).toInt
 some (.ret [C.int .i64 x4])
def t_ew : Tree :=
.call 0 [vB 0, vL 1, vI 2, vL 3, vL 4, vL 5] [.bool] <|
.letp .not [vB 10] <|
.ite (.v 11) (
 .ret [⟨.bool, (.b false)⟩, ⟨.list, .e⟩, nI 0, ⟨.list, .e⟩, ⟨.list, .e⟩, ⟨.list, .e⟩]) <|
.call 1 [vB 0, vL 1, vI 2, vL 3, vL 4, vL 5] [.bool, .list, kI, .list, .list, .list] <|
.call 2 [vB 12, vL 13, vI 14, vL 15, vL 16, vL 17, vI 6, vI 7, vI 8, vL 9] [.bool, .list, kI, .list, .list, .list] <|
.ret [vB 18, vL 19, vI 20, vL 21, vL 22, vL 23]
def Φ_ew : Phi := ph [φ_dx, φ_ba, φ_dw]
def φ_ew := mir Φ_ew t_ew
def F_ew (x0 : Bool) (x1 : LL) (x2 : Int) (x3 x4 x5 : LL) (x6 x7 x8 : Int) (x9 : LL) : Option Out :=
 callD (φ_dx [C.bool x0, C.list x1, C.int .i64 x2, C.list x3, C.list x4, C.list x5]) [.bool] fun r10 =>
 let x10 := (getC r10 0).toBool
 let x11 := (!x10)
 iteD x11 (
 some (.ret [C.bool false, C.list ([] : LL), C.int .i64 0, C.list ([] : LL), C.list ([] : LL), C.list ([] : LL)])) <|
 callD (φ_ba [C.bool x0, C.list x1, C.int .i64 x2, C.list x3, C.list x4, C.list x5]) [.bool, .list, (.int .i64), .list, .list, .list] fun r12 =>
 let x12 := (getC r12 0).toBool
 let x13 := (getC r12 1).toList
 let x14 := (getC r12 2).toInt
 let x15 := (getC r12 3).toList
 let x16 := (getC r12 4).toList
 let x17 := (getC r12 5).toList
 callD (φ_dw [C.bool x12, C.list x13, C.int .i64 x14, C.list x15, C.list x16, C.list x17, C.int .i64 x6, C.int .i64 x7, C.int .i64 x8, C.list x9]) [.bool, .list, (.int .i64), .list, .list, .list] fun r18 =>
 let x18 := (getC r18 0).toBool
 let x19 := (getC r18 1).toList
 let x20 := (getC r18 2).toInt
 let x21 := (getC r18 3).toList
 let x22 := (getC r18 4).toList
 let x23 := (getC r18 5).toList
 some (.ret [C.bool x18, C.list x19, C.int .i64 x20, C.list x21, C.list x22, C.list x23])
def t_cb : Tree :=
.call 0 [vB 0, vL 1, vI 2, vL 3, vL 4, vL 5] [.bool] <|
.letp .not [vB 7] <|
.ite (.v 8) (
 .ret [⟨.list, .e⟩]) <|
.call 1 [vI 6] [.bool] <|
.letp .not [vB 9] <|
.ite (.v 10) (
 .ret [⟨.list, .e⟩]) <|
.letp .len [vL 4] <|
.iter [nI 0, ⟨.list, .e⟩] <|
.letp .ltI [vI 12, vI 11] <|
.ite (.v 14) (
 .row (.v 4) (.v 12) [kI, .bool, kI, .list, kI] <|
 .call 2 [vI 15, vB 16, vI 17, vL 18, vI 19, ⟨.bool, (.b false)⟩] [kI, .list] <|
 .letp (.sub .i64) [vI 6, nI 1] <|
 .row (.v 21) (.v 22) [kI, kI] <|
 .letp (.mkl 2) [vI 23, vI 24] <|
 .chk .fits [vL 13, vL 25] <|
 .letp .app [vL 13, vL 25] <|
 .letp (.add .i64) [vI 12, nI 1] <|
 .jump [vI 27, vL 26]) <|
.up <|
.ret [vL 13]
def Φ_cb : Phi := ph [φ_dx, φ_fl, φ_bi]
def φ_cb := mir Φ_cb t_cb
def L_cb_0 (x4 : LL) (x6 x11 x12 : Int) (x13 : LL) : Option Out :=
 let x14 := decide (x12 < x11)
 iteD x14 (
 rowD (.list x4) (.int .i64 x12) [(.int .i64), .bool, (.int .i64), .list, (.int .i64)] fun r15 =>
 let x15 := (getC r15 0).toInt
 let x16 := (getC r15 1).toBool
 let x17 := (getC r15 2).toInt
 let x18 := (getC r15 3).toList
 let x19 := (getC r15 4).toInt
 callD (φ_bi [C.int .i64 x15, C.bool x16, C.int .i64 x17, C.list x18, C.int .i64 x19, C.bool false]) [(.int .i64), .list] fun r20 =>
 let x20 := (getC r20 0).toInt
 let x21 := (getC r20 1).toList
 let x22 := IntKind.wrap .i64 (x6 - 1)
 rowD (.list x21) (.int .i64 x22) [(.int .i64), (.int .i64)] fun r23 =>
 let x23 := (getC r23 0).toInt
 let x24 := (getC r23 1).toInt
 let x25 := [[C.int .i64 x23, C.int .i64 x24]]
 whenD (decide (x13.length + x25.length <= LMAX)) <|
 let x26 := (x13 ++ x25)
 let x27 := IntKind.wrap .i64 (x12 + 1)
 some (.jump [C.int .i64 x27, C.list x26])) <|
 upD <|
 some (.ret [C.list x13])
def F_cb (x0 : Bool) (x1 : LL) (x2 : Int) (x3 x4 x5 : LL) (x6 : Int) : Option Out :=
 callD (φ_dx [C.bool x0, C.list x1, C.int .i64 x2, C.list x3, C.list x4, C.list x5]) [.bool] fun r7 =>
 let x7 := (getC r7 0).toBool
 let x8 := (!x7)
 iteD x8 (
 some (.ret [C.list ([] : LL)])) <|
 callD (φ_fl [C.int .i64 x6]) [.bool] fun r9 =>
 let x9 := (getC r9 0).toBool
 let x10 := (!x9)
 iteD x10 (
 some (.ret [C.list ([] : LL)])) <|
 let x11 : Int := x4.length
 iterD (fun ps => L_cb_0 x4 x6 x11 ((getC ps 0).toInt) ((getC ps 1).toList)) [C.int .i64 0, C.list ([] : LL)]
def t_fv : Tree :=
.call 0 [vB 0, vL 1, vI 2, vL 3, ⟨.bool, (.b true)⟩] [.list] <|
.iter [nI 1] <|
.letp .leI [vI 7, nI 6] <|
.ite (.v 8) (
 .call 1 [vB 0, vL 1, vI 2, vL 3, vL 4, vL 5, vI 7] [.list] <|
 .letp .len [vL 9] <|
 .letp .neI [vI 10, nI 3] <|
 .ite (.v 11) (
 .up <|
 .ret [⟨.bool, (.b false)⟩]) <|
 .join [kI] (
 .letp .len [vL 6] <|
 .letp .leI [vI 7, vI 12] <|
 .ite (.v 13) (
 .letp (.sub .i64) [vI 7, nI 1] <|
 .row (.v 6) (.v 14) [.list, kI] <|
 .jump [vI 16]) <|
 .jump [nI 0]) <|
 .iter [nI 0] <|
 .letp .len [vL 9] <|
 .letp .ltI [vI 13, vI 14] <|
 .ite (.v 15) (
 .row (.v 9) (.v 13) [kI, kI] <|
 .join [] (
 .letp .neI [vI 17, nI 0] <|
 .ite (.v 18) (
 .letp .eqI [vI 12, nI 0] <|
 .ite (.v 19) (
 .up <|
 .up <|
 .up <|
 .ret [⟨.bool, (.b false)⟩]) <|
 .letp (.sub .i64) [vI 7, nI 1] <|
 .row (.v 6) (.v 20) [.list, kI] <|
 .row (.v 21) (.v 13) [kI] <|
 .letp .eqI [vI 23, nI 0] <|
 .ite (.v 24) (
 .up <|
 .up <|
 .up <|
 .ret [⟨.bool, (.b false)⟩]) <|
 .jump []) <|
 .jump []) <|
 .join [] (
 .letp .eqI [vI 17, nI 2] <|
 .ite (.v 18) (
 .letp .neI [vI 12, nI 2] <|
 .ite (.v 19) (
 .letp .neI [vI 12, nI 4] <|
 .ite (.v 20) (
 .up <|
 .up <|
 .up <|
 .ret [⟨.bool, (.b false)⟩]) <|
 .letp .eqI [vI 17, nI 3] <|
 .ite (.v 21) (
 .letp .neI [vI 12, nI 3] <|
 .ite (.v 22) (
 .letp .neI [vI 12, nI 5] <|
 .ite (.v 23) (
 .up <|
 .up <|
 .up <|
 .ret [⟨.bool, (.b false)⟩]) <|
 .jump []) <|
 .jump []) <|
 .jump []) <|
 .letp .eqI [vI 17, nI 3] <|
 .ite (.v 20) (
 .letp .neI [vI 12, nI 3] <|
 .ite (.v 21) (
 .letp .neI [vI 12, nI 5] <|
 .ite (.v 22) (
 .up <|
 .up <|
 .up <|
 .ret [⟨.bool, (.b false)⟩]) <|
 .jump []) <|
 .jump []) <|
 .jump []) <|
 .letp .eqI [vI 17, nI 3] <|
 .ite (.v 19) (
 .letp .neI [vI 12, nI 3] <|
 .ite (.v 20) (
 .letp .neI [vI 12, nI 5] <|
 .ite (.v 21) (
 .up <|
 .up <|
 .up <|
 .ret [⟨.bool, (.b false)⟩]) <|
 .jump []) <|
 .jump []) <|
 .jump []) <|
 .join [] (
 .letp .eqI [vI 17, nI 1] <|
 .ite (.v 18) (
 .letp (.sub .i64) [vI 7, nI 1] <|
 .row (.v 6) (.v 19) [.list, kI] <|
 .row (.v 20) (.v 13) [kI] <|
 .letp .neI [vI 16, vI 22] <|
 .ite (.v 23) (
 .up <|
 .up <|
 .up <|
 .ret [⟨.bool, (.b false)⟩]) <|
 .jump []) <|
 .letp .eqI [vI 17, nI 2] <|
 .ite (.v 19) (
 .letp (.sub .i64) [vI 7, nI 1] <|
 .row (.v 6) (.v 20) [.list, kI] <|
 .row (.v 21) (.v 13) [kI] <|
 .letp .neI [vI 16, vI 23] <|
 .ite (.v 24) (
 .up <|
 .up <|
 .up <|
 .ret [⟨.bool, (.b false)⟩]) <|
 .jump []) <|
 .jump []) <|
 .letp .eqI [vI 12, nI 4] <|
 .ite (.v 18) (
 .letp (.sub .i64) [vI 7, nI 1] <|
 .row (.v 6) (.v 19) [.list, kI] <|
 .row (.v 20) (.v 13) [kI] <|
 .letp .gtI [vI 22, nI 0] <|
 .ite (.v 23) (
 .letp .neI [vI 17, nI 2] <|
 .ite (.v 24) (
 .up <|
 .up <|
 .ret [⟨.bool, (.b false)⟩]) <|
 .letp .eqI [vI 12, nI 5] <|
 .ite (.v 25) (
 .letp (.sub .i64) [vI 7, nI 1] <|
 .row (.v 6) (.v 26) [.list, kI] <|
 .row (.v 27) (.v 13) [kI] <|
 .letp .gtI [vI 29, nI 0] <|
 .ite (.v 30) (
 .letp .neI [vI 17, nI 3] <|
 .ite (.v 31) (
 .up <|
 .up <|
 .ret [⟨.bool, (.b false)⟩]) <|
 .letp (.add .i64) [vI 13, nI 1] <|
 .jump [vI 32]) <|
 .letp (.add .i64) [vI 13, nI 1] <|
 .jump [vI 31]) <|
 .letp (.add .i64) [vI 13, nI 1] <|
 .jump [vI 26]) <|
 .letp .eqI [vI 12, nI 5] <|
 .ite (.v 24) (
 .letp (.sub .i64) [vI 7, nI 1] <|
 .row (.v 6) (.v 25) [.list, kI] <|
 .row (.v 26) (.v 13) [kI] <|
 .letp .gtI [vI 28, nI 0] <|
 .ite (.v 29) (
 .letp .neI [vI 17, nI 3] <|
 .ite (.v 30) (
 .up <|
 .up <|
 .ret [⟨.bool, (.b false)⟩]) <|
 .letp (.add .i64) [vI 13, nI 1] <|
 .jump [vI 31]) <|
 .letp (.add .i64) [vI 13, nI 1] <|
 .jump [vI 30]) <|
 .letp (.add .i64) [vI 13, nI 1] <|
 .jump [vI 25]) <|
 .letp .eqI [vI 12, nI 5] <|
 .ite (.v 19) (
 .letp (.sub .i64) [vI 7, nI 1] <|
 .row (.v 6) (.v 20) [.list, kI] <|
 .row (.v 21) (.v 13) [kI] <|
 .letp .gtI [vI 23, nI 0] <|
 .ite (.v 24) (
 .letp .neI [vI 17, nI 3] <|
 .ite (.v 25) (
 .up <|
 .up <|
 .ret [⟨.bool, (.b false)⟩]) <|
 .letp (.add .i64) [vI 13, nI 1] <|
 .jump [vI 26]) <|
 .letp (.add .i64) [vI 13, nI 1] <|
 .jump [vI 25]) <|
 .letp (.add .i64) [vI 13, nI 1] <|
 .jump [vI 20]) <|
 .up <|
 .letp (.add .i64) [vI 7, nI 1] <|
 .jump [vI 16]) <|
.up <|
.ret [⟨.bool, (.b true)⟩]
def Φ_fv : Phi := ph [φ_cs, φ_cb]
def φ_fv := mir Φ_fv t_fv
def J_fv_0 (x6 : LL) (x7 x12 : Int) (x13 x17 : Int) : Option Out :=
 let x18 := (x12 == 4)
 iteD x18 (
 let x19 := IntKind.wrap .i64 (x7 - 1)
 rowD (.list x6) (.int .i64 x19) [.list, (.int .i64)] fun r20 =>
 let x20 := (getC r20 0).toList
 let x21 := (getC r20 1).toInt
 rowD (.list x20) (.int .i64 x13) [(.int .i64)] fun r22 =>
 let x22 := (getC r22 0).toInt
 let x23 := decide (x22 > 0)
 iteD x23 (
 let x24 := (x17 != 2)
 iteD x24 (
 upD <|
 upD <|
 some (.ret [C.bool false])) <|
 let x25 := (x12 == 5)
 iteD x25 (
 let x26 := IntKind.wrap .i64 (x7 - 1)
 rowD (.list x6) (.int .i64 x26) [.list, (.int .i64)] fun r27 =>
 let x27 := (getC r27 0).toList
 let x28 := (getC r27 1).toInt
 rowD (.list x27) (.int .i64 x13) [(.int .i64)] fun r29 =>
 let x29 := (getC r29 0).toInt
 let x30 := decide (x29 > 0)
 iteD x30 (
 let x31 := (x17 != 3)
 iteD x31 (
 upD <|
 upD <|
 some (.ret [C.bool false])) <|
 let x32 := IntKind.wrap .i64 (x13 + 1)
 some (.jump [C.int .i64 x32])) <|
 let x31 := IntKind.wrap .i64 (x13 + 1)
 some (.jump [C.int .i64 x31])) <|
 let x26 := IntKind.wrap .i64 (x13 + 1)
 some (.jump [C.int .i64 x26])) <|
 let x24 := (x12 == 5)
 iteD x24 (
 let x25 := IntKind.wrap .i64 (x7 - 1)
 rowD (.list x6) (.int .i64 x25) [.list, (.int .i64)] fun r26 =>
 let x26 := (getC r26 0).toList
 let x27 := (getC r26 1).toInt
 rowD (.list x26) (.int .i64 x13) [(.int .i64)] fun r28 =>
 let x28 := (getC r28 0).toInt
 let x29 := decide (x28 > 0)
 iteD x29 (
 let x30 := (x17 != 3)
 iteD x30 (
 upD <|
 upD <|
 some (.ret [C.bool false])) <|
 let x31 := IntKind.wrap .i64 (x13 + 1)
 some (.jump [C.int .i64 x31])) <|
 let x30 := IntKind.wrap .i64 (x13 + 1)
 some (.jump [C.int .i64 x30])) <|
 let x25 := IntKind.wrap .i64 (x13 + 1)
 some (.jump [C.int .i64 x25])) <|
 let x19 := (x12 == 5)
 iteD x19 (
 let x20 := IntKind.wrap .i64 (x7 - 1)
 rowD (.list x6) (.int .i64 x20) [.list, (.int .i64)] fun r21 =>
 let x21 := (getC r21 0).toList
 let x22 := (getC r21 1).toInt
 rowD (.list x21) (.int .i64 x13) [(.int .i64)] fun r23 =>
 let x23 := (getC r23 0).toInt
 let x24 := decide (x23 > 0)
 iteD x24 (
 let x25 := (x17 != 3)
 iteD x25 (
 upD <|
 upD <|
 some (.ret [C.bool false])) <|
 let x26 := IntKind.wrap .i64 (x13 + 1)
 some (.jump [C.int .i64 x26])) <|
 let x25 := IntKind.wrap .i64 (x13 + 1)
 some (.jump [C.int .i64 x25])) <|
 let x20 := IntKind.wrap .i64 (x13 + 1)
 some (.jump [C.int .i64 x20])
def J_fv_1 (x6 : LL) (x7 x12 : Int) (x13 x16 x17 : Int) : Option Out :=
 joinD (
 let x18 := (x17 == 1)
 iteD x18 (
 let x19 := IntKind.wrap .i64 (x7 - 1)
 rowD (.list x6) (.int .i64 x19) [.list, (.int .i64)] fun r20 =>
 let x20 := (getC r20 0).toList
 let x21 := (getC r20 1).toInt
 rowD (.list x20) (.int .i64 x13) [(.int .i64)] fun r22 =>
 let x22 := (getC r22 0).toInt
 let x23 := (x16 != x22)
 iteD x23 (
 upD <|
 upD <|
 upD <|
 some (.ret [C.bool false])) <|
 some (.jump [])) <|
 let x19 := (x17 == 2)
 iteD x19 (
 let x20 := IntKind.wrap .i64 (x7 - 1)
 rowD (.list x6) (.int .i64 x20) [.list, (.int .i64)] fun r21 =>
 let x21 := (getC r21 0).toList
 let x22 := (getC r21 1).toInt
 rowD (.list x21) (.int .i64 x13) [(.int .i64)] fun r23 =>
 let x23 := (getC r23 0).toInt
 let x24 := (x16 != x23)
 iteD x24 (
 upD <|
 upD <|
 upD <|
 some (.ret [C.bool false])) <|
 some (.jump [])) <|
 some (.jump [])) fun ps => J_fv_0 x6 x7 x12 x13 x17
def J_fv_2 (x6 : LL) (x7 x12 : Int) (x13 x16 x17 : Int) : Option Out :=
 joinD (
 let x18 := (x17 == 2)
 iteD x18 (
 let x19 := (x12 != 2)
 iteD x19 (
 let x20 := (x12 != 4)
 iteD x20 (
 upD <|
 upD <|
 upD <|
 some (.ret [C.bool false])) <|
 let x21 := (x17 == 3)
 iteD x21 (
 let x22 := (x12 != 3)
 iteD x22 (
 let x23 := (x12 != 5)
 iteD x23 (
 upD <|
 upD <|
 upD <|
 some (.ret [C.bool false])) <|
 some (.jump [])) <|
 some (.jump [])) <|
 some (.jump [])) <|
 let x20 := (x17 == 3)
 iteD x20 (
 let x21 := (x12 != 3)
 iteD x21 (
 let x22 := (x12 != 5)
 iteD x22 (
 upD <|
 upD <|
 upD <|
 some (.ret [C.bool false])) <|
 some (.jump [])) <|
 some (.jump [])) <|
 some (.jump [])) <|
 let x19 := (x17 == 3)
 iteD x19 (
 let x20 := (x12 != 3)
 iteD x20 (
 let x21 := (x12 != 5)
 iteD x21 (
 upD <|
 upD <|
 upD <|
 some (.ret [C.bool false])) <|
 some (.jump [])) <|
 some (.jump [])) <|
 some (.jump [])) fun ps => J_fv_1 x6 x7 x12 x13 x16 x17
def L_fv_3 (x6 : LL) (x7 : Int) (x9 : LL) (x12 x13 : Int) : Option Out :=
 let x14 : Int := x9.length
 let x15 := decide (x13 < x14)
 iteD x15 (
 rowD (.list x9) (.int .i64 x13) [(.int .i64), (.int .i64)] fun r16 =>
 let x16 := (getC r16 0).toInt
 let x17 := (getC r16 1).toInt
 joinD (
 let x18 := (x17 != 0)
 iteD x18 (
 let x19 := (x12 == 0)
 iteD x19 (
 upD <|
 upD <|
 upD <|
 some (.ret [C.bool false])) <|
 let x20 := IntKind.wrap .i64 (x7 - 1)
 rowD (.list x6) (.int .i64 x20) [.list, (.int .i64)] fun r21 =>
 let x21 := (getC r21 0).toList
 let x22 := (getC r21 1).toInt
 rowD (.list x21) (.int .i64 x13) [(.int .i64)] fun r23 =>
 let x23 := (getC r23 0).toInt
 let x24 := (x23 == 0)
 iteD x24 (
 upD <|
 upD <|
 upD <|
 some (.ret [C.bool false])) <|
 some (.jump [])) <|
 some (.jump [])) fun ps => J_fv_2 x6 x7 x12 x13 x16 x17) <|
 upD <|
 let x16 := IntKind.wrap .i64 (x7 + 1)
 some (.jump [C.int .i64 x16])
def J_fv_4 (x6 : LL) (x7 : Int) (x9 : LL) (x12 : Int) : Option Out :=
 iterD (fun ps => L_fv_3 x6 x7 x9 x12 ((getC ps 0).toInt)) [C.int .i64 0]
def L_fv_5 (x0 : Bool) (x1 : LL) (x2 : Int) (x3 x4 : LL) (x5 x6 : LL) (x7 : Int) : Option Out :=
 let x8 := decide (x7 <= 6)
 iteD x8 (
 callD (φ_cb [C.bool x0, C.list x1, C.int .i64 x2, C.list x3, C.list x4, C.list x5, C.int .i64 x7]) [.list] fun r9 =>
 let x9 := (getC r9 0).toList
 let x10 : Int := x9.length
 let x11 := (x10 != 3)
 iteD x11 (
 upD <|
 some (.ret [C.bool false])) <|
 joinD (
 let x12 : Int := x6.length
 let x13 := decide (x7 <= x12)
 iteD x13 (
 let x14 := IntKind.wrap .i64 (x7 - 1)
 rowD (.list x6) (.int .i64 x14) [.list, (.int .i64)] fun r15 =>
 let x15 := (getC r15 0).toList
 let x16 := (getC r15 1).toInt
 some (.jump [C.int .i64 x16])) <|
 some (.jump [C.int .i64 0])) fun ps => J_fv_4 x6 x7 x9 ((getC ps 0).toInt)) <|
 upD <|
 some (.ret [C.bool true])
def F_fv (x0 : Bool) (x1 : LL) (x2 : Int) (x3 x4 x5 : LL) : Option Out :=
 callD (φ_cs [C.bool x0, C.list x1, C.int .i64 x2, C.list x3, C.bool true]) [.list] fun r6 =>
 let x6 := (getC r6 0).toList
 iterD (fun ps => L_fv_5 x0 x1 x2 x3 x4 x5 x6 ((getC ps 0).toInt)) [C.int .i64 1]
def t_cy : Tree :=
.call 0 [vB 0, vL 1, vI 2, vL 3] [.bool] <|
.letp .not [vB 4] <|
.ite (.v 5) (
 .ret [⟨.list, .e⟩]) <|
.call 1 [vB 0, vL 1, vI 2, vL 3] [.list] <|
.ret [vL 6]
def Φ_cy : Phi := ph [φ_fm, φ_bz]
def φ_cy := mir Φ_cy t_cy
def F_cy (x0 : Bool) (x1 : LL) (x2 : Int) (x3 : LL) : Option Out :=
 callD (φ_fm [C.bool x0, C.list x1, C.int .i64 x2, C.list x3]) [.bool] fun r4 =>
 let x4 := (getC r4 0).toBool
 let x5 := (!x4)
 iteD x5 (
 some (.ret [C.list ([] : LL)])) <|
 callD (φ_bz [C.bool x0, C.list x1, C.int .i64 x2, C.list x3]) [.list] fun r6 =>
 let x6 := (getC r6 0).toList
 some (.ret [C.list x6])
end
end Dx
