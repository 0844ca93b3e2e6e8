/- More of them. -/
import Derived.Test.YtnbafdnocjajcabGreatYa
set_option linter.all false
set_option linter.unusedVariables false
set_option linter.unusedSimpArgs false
set_option linter.unnecessarySimpa false
namespace Dx
open Go
noncomputable def F_bu (x0 : LL) (x1 : Int) : Option Out :=
  callD (φ_de [C.list x0]) [.bool] fun r2 =>
  let x2 := (getC r2 0).toBool
  let x3 : Bool := (!x2)
  iteD x3 (
    some (.ret [C.bool true])) <|
  callD (φ_fn [C.int .i64 x1, C.int .i64 1, C.int .i64 5]) [.bool] fun r4 =>
  let x4 := (getC r4 0).toBool
  let x5 : Bool := (!x4)
  some (.ret [C.bool x5])
def t_ag : Tree :=
.letp .len [vL 0] <|
.iter [nI 0] <|
.letp .ltI [vI 2, vI 1] <|
.ite (.v 3) (
  .row (.v 0) (.v 2) [.list, kI] <|
  .call 0 [vL 4, vI 5] [.bool] <|
  .ite (.v 6) (
    .up <|
    .ret [vI 2]) <|
  .letp (.add .i64) [vI 2, nI 1] <|
  .jump [vI 7]) <|
.up <|
.ret [⟨kI, (.n (-1))⟩]
noncomputable def Φ_ag : Phi := ph [φ_bu]
noncomputable def φ_ag := mir Φ_ag t_ag
noncomputable def L_ag_0 (x0 : LL) (x1 : Int) (x2 : Int) : Option Out :=
  let x3 : Bool := decide ((x2 : Int) < x1)
  iteD x3 (
    rowD (.list x0) (.int .i64 x2) [.list, (.int .i64)] fun r4 =>
    let x4 := (getC r4 0).toList
    let x5 := (getC r4 1).toInt
    callD (φ_bu [C.list x4, C.int .i64 x5]) [.bool] fun r6 =>
    let x6 := (getC r6 0).toBool
    iteD x6 (
      upD <|
      some (.ret [C.int .i64 x2])) <|
    let x7 : Int := IntKind.wrap .i64 (x2 + 1)
    some (.jump [C.int .i64 x7])) <|
  upD <|
  some (.ret [C.int .i64 (-1)])
noncomputable def F_ag (x0 : LL) : Option Out :=
  let x1 : Int := ((x0.length : Nat) : Int)
  iterD (fun ps => L_ag_0 x0 x1 ((getC ps 0).toInt)) [C.int .i64 0]
def t_af : Tree :=
.call 0 [vL 0] [kI] <|
.letp .geI [vI 1, nI 0] <|
.ret [vB 2]
noncomputable def Φ_af : Phi := ph [φ_ag]
noncomputable def φ_af := mir Φ_af t_af
noncomputable def F_af (x0 : LL) : Option Out :=
  callD (φ_ag [C.list x0]) [(.int .i64)] fun r1 =>
  let x1 := (getC r1 0).toInt
  let x2 : Bool := decide ((x1 : Int) ≥ 0)
  some (.ret [C.bool x2])
def t_ds : Tree :=
.letp .len [vL 0] <|
.letp .leI [vI 1, nI 6] <|
.ite (.v 2) (
  .call 0 [vL 0] [.bool] <|
  .letp .not [vB 3] <|
  .ret [vB 4]) <|
.ret [⟨.bool, (.b false)⟩]
noncomputable def Φ_ds : Phi := ph [φ_af]
noncomputable def φ_ds := mir Φ_ds t_ds
noncomputable def F_ds (x0 : LL) : Option Out :=
  let x1 : Int := ((x0.length : Nat) : Int)
  let x2 : Bool := decide ((x1 : Int) ≤ 6)
  iteD x2 (
    callD (φ_af [C.list x0]) [.bool] fun r3 =>
    let x3 := (getC r3 0).toBool
    let x4 : Bool := (!x3)
    some (.ret [C.bool x4])) <|
  some (.ret [C.bool false])
def t_dp : Tree :=
.letp .len [vL 0] <|
.call 0 [vI 1, nI 1, vI 2] [.bool] <|
.letp .not [vB 3] <|
.ite (.v 4) (
  .ret [nI 0]) <|
.letp (.sub .i64) [vI 1, nI 1] <|
.row (.v 0) (.v 5) [.list, kI] <|
.ret [vI 7]
noncomputable def Φ_dp : Phi := ph [φ_fn]
noncomputable def φ_dp := mir Φ_dp t_dp
noncomputable def F_dp (x0 : LL) (x1 : Int) : Option Out :=
  let x2 : Int := ((x0.length : Nat) : Int)
  callD (φ_fn [C.int .i64 x1, C.int .i64 1, C.int .i64 x2]) [.bool] fun r3 =>
  let x3 := (getC r3 0).toBool
  let x4 : Bool := (!x3)
  iteD x4 (
    some (.ret [C.int .i64 0])) <|
  let x5 : Int := IntKind.wrap .i64 (x1 - 1)
  rowD (.list x0) (.int .i64 x5) [.list, (.int .i64)] fun r6 =>
  let x6 := (getC r6 0).toList
  let x7 := (getC r6 1).toInt
  some (.ret [C.int .i64 x7])
def t_db : Tree :=
.call 0 [vL 0] [.bool] <|
.letp .not [vB 4] <|
.ite (.v 5) (
  .ret [⟨.bool, (.b false)⟩]) <|
.call 1 [vI 1, vI 2, vL 3] [.bool] <|
.letp .not [vB 6] <|
.ite (.v 7) (
  .ret [⟨.bool, (.b false)⟩]) <|
.call 2 [vL 0, vI 2] [kI] <|
.letp .eqI [vI 1, nI 4] <|
.ite (.v 9) (
  .letp .len [vL 0] <|
  .letp (.add .i64) [vI 10, nI 1] <|
  .letp .eqI [vI 2, vI 11] <|
  .ret [vB 12]) <|
.letp .eqI [vI 1, nI 5] <|
.ite (.v 10) (
  .letp .eqI [vI 8, nI 1] <|
  .ret [vB 11]) <|
.letp .eqI [vI 1, nI 6] <|
.ite (.v 11) (
  .letp .eqI [vI 8, nI 1] <|
  .ret [vB 12]) <|
.letp .eqI [vI 1, nI 7] <|
.ite (.v 12) (
  .letp .eqI [vI 8, nI 2] <|
  .ite (.v 13) (
    .ret [⟨.bool, (.b true)⟩]) <|
  .letp .eqI [vI 8, nI 3] <|
  .ret [vB 14]) <|
.ret [⟨.bool, (.b false)⟩]
noncomputable def Φ_db : Phi := ph [φ_ds, φ_fk, φ_dp]
noncomputable def φ_db := mir Φ_db t_db
noncomputable def F_db (x0 : LL) (x1 : Int) (x2 : Int) (x3 : LL) : Option Out :=
  callD (φ_ds [C.list x0]) [.bool] fun r4 =>
  let x4 := (getC r4 0).toBool
  let x5 : Bool := (!x4)
  iteD x5 (
    some (.ret [C.bool false])) <|
  callD (φ_fk [C.int .i64 x1, C.int .i64 x2, C.list x3]) [.bool] fun r6 =>
  let x6 := (getC r6 0).toBool
  let x7 : Bool := (!x6)
  iteD x7 (
    some (.ret [C.bool false])) <|
  callD (φ_dp [C.list x0, C.int .i64 x2]) [(.int .i64)] fun r8 =>
  let x8 := (getC r8 0).toInt
  let x9 : Bool := ((x1 : Int) == 4)
  iteD x9 (
    let x10 : Int := ((x0.length : Nat) : Int)
    let x11 : Int := IntKind.wrap .i64 (x10 + 1)
    let x12 : Bool := ((x2 : Int) == x11)
    some (.ret [C.bool x12])) <|
  let x10 : Bool := ((x1 : Int) == 5)
  iteD x10 (
    let x11 : Bool := ((x8 : Int) == 1)
    some (.ret [C.bool x11])) <|
  let x11 : Bool := ((x1 : Int) == 6)
  iteD x11 (
    let x12 : Bool := ((x8 : Int) == 1)
    some (.ret [C.bool x12])) <|
  let x12 : Bool := ((x1 : Int) == 7)
  iteD x12 (
    let x13 : Bool := ((x8 : Int) == 2)
    iteD x13 (
      some (.ret [C.bool true])) <|
    let x14 : Bool := ((x8 : Int) == 3)
    some (.ret [C.bool x14])) <|
  some (.ret [C.bool false])
def t_bb : Tree :=
.letp .isNil [vL 0] <|
.ite (.v 1) (
  .both (
    .ret [⟨.list, .e⟩]) <|
  .chk (.rowsk [kI]) [vL 0] <|
  .chk .fits [⟨.list, .e⟩, vL 0] <|
  .letp .app [⟨.list, .e⟩, vL 0] <|
  .ret [vL 2]) <|
.chk (.rowsk [kI]) [vL 0] <|
.chk .fits [⟨.list, .e⟩, vL 0] <|
.letp .app [⟨.list, .e⟩, vL 0] <|
.ret [vL 2]
noncomputable def φ_bb := mir (ph []) t_bb
noncomputable def F_bb (x0 : LL) : Option Out :=
  let x1 : Bool := x0.isEmpty
  iteD x1 (
    bothD (
      some (.ret [C.list ([] : LL)])) <|
    whenD ((x0.all (kindsB [(.int .i64)]))) <|
    whenD (decide (([] : LL).length + x0.length ≤ LMAX)) <|
    let x2 : LL := (([] : LL) ++ x0)
    some (.ret [C.list x2])) <|
  whenD ((x0.all (kindsB [(.int .i64)]))) <|
  whenD (decide (([] : LL).length + x0.length ≤ LMAX)) <|
  let x2 : LL := (([] : LL) ++ x0)
  some (.ret [C.list x2])
def t_ec : Tree :=
.call 0 [vL 0, vI 1, vI 2, vL 3] [.bool] <|
.letp .not [vB 4] <|
.ite (.v 5) (
  .ret [⟨.list, .e⟩, ⟨.bool, (.b false)⟩]) <|
.letp .len [vL 0] <|
.iter [nI 0, ⟨.list, .e⟩] <|
.letp .ltI [vI 7, vI 6] <|
.ite (.v 9) (
  .row (.v 0) (.v 7) [.list, kI] <|
  .call 1 [vL 10] [.list] <|
  .letp (.mkl 2) [vL 12, vI 11] <|
  .chk .fits [vL 8, vL 13] <|
  .letp .app [vL 8, vL 13] <|
  .letp (.add .i64) [vI 7, nI 1] <|
  .jump [vI 15, vL 14]) <|
.up <|
.letp .eqI [vI 1, nI 4] <|
.ite (.v 10) (
  .call 1 [vL 3] [.list] <|
  .letp (.mkl 2) [vL 11, nI 1] <|
  .chk .fits [vL 8, vL 12] <|
  .letp .app [vL 8, vL 12] <|
  .ret [vL 13, ⟨.bool, (.b true)⟩]) <|
.letp (.sub .i64) [vI 2, nI 1] <|
.chk .idx [vI 11, vL 8] <|
.letp .eqI [vI 1, nI 5] <|
.ite (.v 12) (
  .letp (.setr 1) [vL 8, vI 11, nI 2] <|
  .ret [vL 13, ⟨.bool, (.b true)⟩]) <|
.letp .eqI [vI 1, nI 6] <|
.ite (.v 13) (
  .letp (.setr 1) [vL 8, vI 11, nI 3] <|
  .ret [vL 14, ⟨.bool, (.b true)⟩]) <|
.row (.v 8) (.v 11) [.list, kI] <|
.letp .eqI [vI 15, nI 2] <|
.ite (.v 16) (
  .letp (.setr 1) [vL 8, vI 11, nI 4] <|
  .ret [vL 17, ⟨.bool, (.b true)⟩]) <|
.letp (.setr 1) [vL 8, vI 11, nI 5] <|
.ret [vL 17, ⟨.bool, (.b true)⟩]
noncomputable def Φ_ec : Phi := ph [φ_db, φ_bb]
noncomputable def φ_ec := mir Φ_ec t_ec
noncomputable def L_ec_0 (x0 : LL) (x1 : Int) (x2 : Int) (x3 : LL) (x6 : Int) (x7 : Int) (x8 : LL) : Option Out :=
  let x9 : Bool := decide ((x7 : Int) < x6)
  iteD x9 (
    rowD (.list x0) (.int .i64 x7) [.list, (.int .i64)] fun r10 =>
    let x10 := (getC r10 0).toList
    let x11 := (getC r10 1).toInt
    callD (φ_bb [C.list x10]) [.list] fun r12 =>
    let x12 := (getC r12 0).toList
    let x13 : LL := [[C.list x12, C.int .i64 x11]]
    whenD (decide (x8.length + x13.length ≤ LMAX)) <|
    let x14 : LL := (x8 ++ x13)
    let x15 : Int := IntKind.wrap .i64 (x7 + 1)
    some (.jump [C.int .i64 x15, C.list x14])) <|
  upD <|
  let x10 : Bool := ((x1 : Int) == 4)
  iteD x10 (
    callD (φ_bb [C.list x3]) [.list] fun r11 =>
    let x11 := (getC r11 0).toList
    let x12 : LL := [[C.list x11, C.int .i64 1]]
    whenD (decide (x8.length + x12.length ≤ LMAX)) <|
    let x13 : LL := (x8 ++ x12)
    some (.ret [C.list x13, C.bool true])) <|
  let x11 : Int := IntKind.wrap .i64 (x2 - 1)
  whenD ((decide ((0 : Int) ≤ x11) && decide ((x11 : Int) < (x8.length : Nat)))) <|
  let x12 : Bool := ((x1 : Int) == 5)
  iteD x12 (
    let x13 : LL := (setRow 1 x8 (Int.toNat x11) [C.int .i64 2])
    some (.ret [C.list x13, C.bool true])) <|
  let x13 : Bool := ((x1 : Int) == 6)
  iteD x13 (
    let x14 : LL := (setRow 1 x8 (Int.toNat x11) [C.int .i64 3])
    some (.ret [C.list x14, C.bool true])) <|
  rowD (.list x8) (.int .i64 x11) [.list, (.int .i64)] fun r14 =>
  let x14 := (getC r14 0).toList
  let x15 := (getC r14 1).toInt
  let x16 : Bool := ((x15 : Int) == 2)
  iteD x16 (
    let x17 : LL := (setRow 1 x8 (Int.toNat x11) [C.int .i64 4])
    some (.ret [C.list x17, C.bool true])) <|
  let x17 : LL := (setRow 1 x8 (Int.toNat x11) [C.int .i64 5])
  some (.ret [C.list x17, C.bool true])
noncomputable def F_ec (x0 : LL) (x1 : Int) (x2 : Int) (x3 : LL) : Option Out :=
  callD (φ_db [C.list x0, C.int .i64 x1, C.int .i64 x2, C.list x3]) [.bool] fun r4 =>
  let x4 := (getC r4 0).toBool
  let x5 : Bool := (!x4)
  iteD x5 (
    some (.ret [C.list ([] : LL), C.bool false])) <|
  let x6 : Int := ((x0.length : Nat) : Int)
  iterD (fun ps => L_ec_0 x0 x1 x2 x3 x6 ((getC ps 0).toInt) ((getC ps 1).toList)) [C.int .i64 0, C.list ([] : LL)]
def t_dk : Tree :=
.iter [⟨.list, .e⟩, ⟨.bool, (.b true)⟩, nI 0] <|
.ite (.v 2) (
  .letp .len [vL 0] <|
  .letp .ltI [vI 3, vI 4] <|
  .ite (.v 5) (
    .row (.v 0) (.v 3) [kI, kI, .list] <|
    .call 0 [vL 1, vI 6, vI 7, vL 8] [.list, .bool] <|
    .letp (.add .i64) [vI 3, nI 1] <|
    .jump [vL 9, vB 10, vI 11]) <|
  .up <|
  .ret [vL 1, vB 2]) <|
.up <|
.ret [vL 1, vB 2]
noncomputable def Φ_dk : Phi := ph [φ_ec]
noncomputable def φ_dk := mir Φ_dk t_dk
noncomputable def L_dk_0 (x0 : LL) (x1 : LL) (x2 : Bool) (x3 : Int) : Option Out :=
  iteD x2 (
    let x4 : Int := ((x0.length : Nat) : Int)
    let x5 : Bool := decide ((x3 : Int) < x4)
    iteD x5 (
      rowD (.list x0) (.int .i64 x3) [(.int .i64), (.int .i64), .list] fun r6 =>
      let x6 := (getC r6 0).toInt
      let x7 := (getC r6 1).toInt
      let x8 := (getC r6 2).toList
      callD (φ_ec [C.list x1, C.int .i64 x6, C.int .i64 x7, C.list x8]) [.list, .bool] fun r9 =>
      let x9 := (getC r9 0).toList
      let x10 := (getC r9 1).toBool
      let x11 : Int := IntKind.wrap .i64 (x3 + 1)
      some (.jump [C.list x9, C.bool x10, C.int .i64 x11])) <|
    upD <|
    some (.ret [C.list x1, C.bool x2])) <|
  upD <|
  some (.ret [C.list x1, C.bool x2])
noncomputable def F_dk (x0 : LL) : Option Out :=
  iterD (fun ps => L_dk_0 x0 ((getC ps 0).toList) ((getC ps 1).toBool) ((getC ps 2).toInt)) [C.list ([] : LL), C.bool true, C.int .i64 0]
def t_ew : Tree :=
.letp .eqI [vI 3, nI 0] <|
.letp .eqI [vI 0, nI 1] <|
.ite (.v 5) (
  .call 0 [vI 3, nI 1, nI 3] [.bool] <|
  .call 0 [vI 0, nI 1, nI 7] [.bool] <|
  .ite (.v 7) (
    .call 1 [vI 1] [.bool] <|
    .ite (.v 8) (
      .call 2 [vI 2] [.bool] <|
      .ite (.v 9) (
        .ret [vB 6]) <|
      .ret [⟨.bool, (.b false)⟩]) <|
    .ret [⟨.bool, (.b false)⟩]) <|
  .ret [⟨.bool, (.b false)⟩]) <|
.call 0 [vI 0, nI 1, nI 7] [.bool] <|
.ite (.v 6) (
  .call 1 [vI 1] [.bool] <|
  .ite (.v 7) (
    .call 2 [vI 2] [.bool] <|
    .ite (.v 8) (
      .ret [vB 4]) <|
    .ret [⟨.bool, (.b false)⟩]) <|
  .ret [⟨.bool, (.b false)⟩]) <|
.ret [⟨.bool, (.b false)⟩]
noncomputable def Φ_ew : Phi := ph [φ_fn, φ_dh, φ_eq]
noncomputable def φ_ew := mir Φ_ew t_ew
noncomputable def F_ew (x0 : Int) (x1 : Int) (x2 : Int) (x3 : Int) : Option Out :=
  let x4 : Bool := ((x3 : Int) == 0)
  let x5 : Bool := ((x0 : Int) == 1)
  iteD x5 (
    callD (φ_fn [C.int .i64 x3, C.int .i64 1, C.int .i64 3]) [.bool] fun r6 =>
    let x6 := (getC r6 0).toBool
    callD (φ_fn [C.int .i64 x0, C.int .i64 1, C.int .i64 7]) [.bool] fun r7 =>
    let x7 := (getC r7 0).toBool
    iteD x7 (
      callD (φ_dh [C.int .i64 x1]) [.bool] fun r8 =>
      let x8 := (getC r8 0).toBool
      iteD x8 (
        callD (φ_eq [C.int .i64 x2]) [.bool] fun r9 =>
        let x9 := (getC r9 0).toBool
        iteD x9 (
          some (.ret [C.bool x6])) <|
        some (.ret [C.bool false])) <|
      some (.ret [C.bool false])) <|
    some (.ret [C.bool false])) <|
  callD (φ_fn [C.int .i64 x0, C.int .i64 1, C.int .i64 7]) [.bool] fun r6 =>
  let x6 := (getC r6 0).toBool
  iteD x6 (
    callD (φ_dh [C.int .i64 x1]) [.bool] fun r7 =>
    let x7 := (getC r7 0).toBool
    iteD x7 (
      callD (φ_eq [C.int .i64 x2]) [.bool] fun r8 =>
      let x8 := (getC r8 0).toBool
      iteD x8 (
        some (.ret [C.bool x4])) <|
      some (.ret [C.bool false])) <|
    some (.ret [C.bool false])) <|
  some (.ret [C.bool false])
def t_bc : Tree :=
.letp .geI [vI 0, nI 4] <|
.ret [vB 4]
noncomputable def φ_bc := mir (ph []) t_bc
noncomputable def F_bc (x0 : Int) (x1 : Int) (x2 : Int) (x3 : Int) : Option Out :=
  let x4 : Bool := decide ((x0 : Int) ≥ 4)
  some (.ret [C.bool x4])
def t_at : Tree :=
.letp .len [vL 0] <|
.iter [nI 0] <|
.letp .ltI [vI 6, vI 5] <|
.ite (.v 7) (
  .row (.v 0) (.v 6) [kI, kI, kI, kI] <|
  .letp (.eqs 4) [vI 1, vI 2, vI 3, vI 4, vI 8, vI 9, vI 10, vI 11] <|
  .ite (.v 12) (
    .up <|
    .ret [vI 6]) <|
  .letp (.add .i64) [vI 6, nI 1] <|
  .jump [vI 13]) <|
.up <|
.ret [⟨kI, (.n (-1))⟩]
noncomputable def φ_at := mir (ph []) t_at
noncomputable def L_at_0 (x0 : LL) (x1 : Int) (x2 : Int) (x3 : Int) (x4 : Int) (x5 : Int) (x6 : Int) : Option Out :=
  let x7 : Bool := decide ((x6 : Int) < x5)
  iteD x7 (
    rowD (.list x0) (.int .i64 x6) [(.int .i64), (.int .i64), (.int .i64), (.int .i64)] fun r8 =>
    let x8 := (getC r8 0).toInt
    let x9 := (getC r8 1).toInt
    let x10 := (getC r8 2).toInt
    let x11 := (getC r8 3).toInt
    let x12 : Bool := ([x1, x2, x3, x4] == ([x8, x9, x10, x11] : List Int))
    iteD x12 (
      upD <|
      some (.ret [C.int .i64 x6])) <|
    let x13 : Int := IntKind.wrap .i64 (x6 + 1)
    some (.jump [C.int .i64 x13])) <|
  upD <|
  some (.ret [C.int .i64 (-1)])
noncomputable def F_at (x0 : LL) (x1 : Int) (x2 : Int) (x3 : Int) (x4 : Int) : Option Out :=
  let x5 : Int := ((x0.length : Nat) : Int)
  iterD (fun ps => L_at_0 x0 x1 x2 x3 x4 x5 ((getC ps 0).toInt)) [C.int .i64 0]
def t_ap : Tree :=
.call 0 [vL 0, vI 1, vI 2, vI 3, vI 4] [kI] <|
.letp .geI [vI 5, nI 0] <|
.ret [vB 6]
noncomputable def Φ_ap : Phi := ph [φ_at]
noncomputable def φ_ap := mir Φ_ap t_ap
noncomputable def F_ap (x0 : LL) (x1 : Int) (x2 : Int) (x3 : Int) (x4 : Int) : Option Out :=
  callD (φ_at [C.list x0, C.int .i64 x1, C.int .i64 x2, C.int .i64 x3, C.int .i64 x4]) [(.int .i64)] fun r5 =>
  let x5 := (getC r5 0).toInt
  let x6 : Bool := decide ((x5 : Int) ≥ 0)
  some (.ret [C.bool x6])
def t_ez : Tree :=
.join [] (
  .call 0 [vL 1, vI 2] [.bool] <|
  .letp .not [vB 4] <|
  .ite (.v 5) (
    .up <|
    .ret [⟨.bool, (.b false)⟩]) <|
  .letp .not [vB 0] <|
  .ite (.v 6) (
    .letp .len [vL 3] <|
    .letp .gtI [vI 7, nI 0] <|
    .ite (.v 8) (
      .up <|
      .ret [⟨.bool, (.b false)⟩]) <|
    .jump []) <|
  .jump []) <|
.call 1 [vL 1] [.list, .bool] <|
.letp .len [vL 3] <|
.iter [nI 0] <|
.letp .ltI [vI 7, vI 6] <|
.ite (.v 8) (
  .row (.v 3) (.v 7) [kI, kI, kI, kI] <|
  .call 2 [vI 9, vI 10, vI 11, vI 12] [.bool] <|
  .letp .not [vB 13] <|
  .ite (.v 14) (
    .up <|
    .ret [⟨.bool, (.b false)⟩]) <|
  .call 3 [vI 9, vI 10, vI 11, vI 12] [.bool] <|
  .letp .not [vB 15] <|
  .ite (.v 16) (
    .up <|
    .ret [⟨.bool, (.b false)⟩]) <|
  .letp .len [vL 4] <|
  .letp .gtI [vI 11, vI 17] <|
  .ite (.v 18) (
    .up <|
    .ret [⟨.bool, (.b false)⟩]) <|
  .chk .upto [vI 7, vL 3] <|
  .letp .take [vL 3, vI 7] <|
  .call 4 [vL 19, vI 9, vI 10, vI 11, vI 12] [.bool] <|
  .ite (.v 20) (
    .up <|
    .ret [⟨.bool, (.b false)⟩]) <|
  .letp (.add .i64) [vI 7, nI 1] <|
  .jump [vI 21]) <|
.up <|
.ret [vB 5]
noncomputable def Φ_ez : Phi := ph [φ_fh, φ_dk, φ_ew, φ_bc, φ_ap]
noncomputable def φ_ez := mir Φ_ez t_ez
noncomputable def L_ez_0 (x3 : LL) (x4 : LL) (x5 : Bool) (x6 : Int) (x7 : Int) : Option Out :=
  let x8 : Bool := decide ((x7 : Int) < x6)
  iteD x8 (
    rowD (.list x3) (.int .i64 x7) [(.int .i64), (.int .i64), (.int .i64), (.int .i64)] fun r9 =>
    let x9 := (getC r9 0).toInt
    let x10 := (getC r9 1).toInt
    let x11 := (getC r9 2).toInt
    let x12 := (getC r9 3).toInt
    callD (φ_ew [C.int .i64 x9, C.int .i64 x10, C.int .i64 x11, C.int .i64 x12]) [.bool] fun r13 =>
    let x13 := (getC r13 0).toBool
    let x14 : Bool := (!x13)
    iteD x14 (
      upD <|
      some (.ret [C.bool false])) <|
    callD (φ_bc [C.int .i64 x9, C.int .i64 x10, C.int .i64 x11, C.int .i64 x12]) [.bool] fun r15 =>
    let x15 := (getC r15 0).toBool
    let x16 : Bool := (!x15)
    iteD x16 (
      upD <|
      some (.ret [C.bool false])) <|
    let x17 : Int := ((x4.length : Nat) : Int)
    let x18 : Bool := decide ((x11 : Int) > x17)
    iteD x18 (
      upD <|
      some (.ret [C.bool false])) <|
    whenD ((decide ((0 : Int) ≤ x7) && decide ((x7 : Int) ≤ (x3.length : Nat)))) <|
    let x19 : LL := (x3.take (Int.toNat x7))
    callD (φ_ap [C.list x19, C.int .i64 x9, C.int .i64 x10, C.int .i64 x11, C.int .i64 x12]) [.bool] fun r20 =>
    let x20 := (getC r20 0).toBool
    iteD x20 (
      upD <|
      some (.ret [C.bool false])) <|
    let x21 : Int := IntKind.wrap .i64 (x7 + 1)
    some (.jump [C.int .i64 x21])) <|
  upD <|
  some (.ret [C.bool x5])
noncomputable def J_ez_1 (x1 : LL) (x3 : LL) : Option Out :=
  callD (φ_dk [C.list x1]) [.list, .bool] fun r4 =>
  let x4 := (getC r4 0).toList
  let x5 := (getC r4 1).toBool
  let x6 : Int := ((x3.length : Nat) : Int)
  iterD (fun ps => L_ez_0 x3 x4 x5 x6 ((getC ps 0).toInt)) [C.int .i64 0]
noncomputable def F_ez (x0 : Bool) (x1 : LL) (x2 : Int) (x3 : LL) : Option Out :=
  joinD (
    callD (φ_fh [C.list x1, C.int .i64 x2]) [.bool] fun r4 =>
    let x4 := (getC r4 0).toBool
    let x5 : Bool := (!x4)
    iteD x5 (
      upD <|
      some (.ret [C.bool false])) <|
    let x6 : Bool := (!x0)
    iteD x6 (
      let x7 : Int := ((x3.length : Nat) : Int)
      let x8 : Bool := decide ((x7 : Int) > 0)
      iteD x8 (
        upD <|
        some (.ret [C.bool false])) <|
      some (.jump [])) <|
    some (.jump [])) fun ps => J_ez_1 x1 x3
def t_be : Tree :=
.call 0 [vL 2] [.list] <|
.ret [vI 0, vI 1, vL 3]
noncomputable def Φ_be : Phi := ph [φ_bb]
noncomputable def φ_be := mir Φ_be t_be
noncomputable def F_be (x0 : Int) (x1 : Int) (x2 : LL) : Option Out :=
  callD (φ_bb [C.list x2]) [.list] fun r3 =>
  let x3 := (getC r3 0).toList
  some (.ret [C.int .i64 x0, C.int .i64 x1, C.list x3])
def t_cg : Tree :=
.chk .upto [vI 2, vL 0] <|
.letp .take [vL 0, vI 2] <|
.letp .len [vL 4] <|
.iter [nI 0, ⟨.list, .e⟩] <|
.letp .ltI [vI 6, vI 5] <|
.ite (.v 8) (
  .row (.v 4) (.v 6) [kI, kI, .list] <|
  .call 0 [vI 9, vI 10, vL 11] [kI, kI, .list] <|
  .letp (.mkl 3) [vI 12, vI 13, vL 14] <|
  .chk .fits [vL 7, vL 15] <|
  .letp .app [vL 7, vL 15] <|
  .letp (.add .i64) [vI 6, nI 1] <|
  .jump [vI 17, vL 16]) <|
.up <|
.ret [vL 7, vI 3]
noncomputable def Φ_cg : Phi := ph [φ_be]
noncomputable def φ_cg := mir Φ_cg t_cg
noncomputable def L_cg_0 (x3 : Int) (x4 : LL) (x5 : Int) (x6 : Int) (x7 : LL) : Option Out :=
  let x8 : Bool := decide ((x6 : Int) < x5)
  iteD x8 (
    rowD (.list x4) (.int .i64 x6) [(.int .i64), (.int .i64), .list] fun r9 =>
    let x9 := (getC r9 0).toInt
    let x10 := (getC r9 1).toInt
    let x11 := (getC r9 2).toList
    callD (φ_be [C.int .i64 x9, C.int .i64 x10, C.list x11]) [(.int .i64), (.int .i64), .list] fun r12 =>
    let x12 := (getC r12 0).toInt
    let x13 := (getC r12 1).toInt
    let x14 := (getC r12 2).toList
    let x15 : LL := [[C.int .i64 x12, C.int .i64 x13, C.list x14]]
    whenD (decide (x7.length + x15.length ≤ LMAX)) <|
    let x16 : LL := (x7 ++ x15)
    let x17 : Int := IntKind.wrap .i64 (x6 + 1)
    some (.jump [C.int .i64 x17, C.list x16])) <|
  upD <|
  some (.ret [C.list x7, C.int .i64 x3])
noncomputable def F_cg (x0 : LL) (x1 : Int) (x2 : Int) (x3 : Int) : Option Out :=
  whenD ((decide ((0 : Int) ≤ x2) && decide ((x2 : Int) ≤ (x0.length : Nat)))) <|
  let x4 : LL := (x0.take (Int.toNat x2))
  let x5 : Int := ((x4.length : Nat) : Int)
  iterD (fun ps => L_cg_0 x3 x4 x5 ((getC ps 0).toInt) ((getC ps 1).toList)) [C.int .i64 0, C.list ([] : LL)]
def t_bp : Tree :=
.letp .len [vL 0] <|
.call 0 [vL 0, vI 1, vI 2, vI 1] [.list, kI] <|
.ret [vL 3, vI 4]
noncomputable def Φ_bp : Phi := ph [φ_cg]
noncomputable def φ_bp := mir Φ_bp t_bp
noncomputable def F_bp (x0 : LL) (x1 : Int) : Option Out :=
  let x2 : Int := ((x0.length : Nat) : Int)
  callD (φ_cg [C.list x0, C.int .i64 x1, C.int .i64 x2, C.int .i64 x1]) [.list, (.int .i64)] fun r3 =>
  let x3 := (getC r3 0).toList
  let x4 := (getC r3 1).toInt
  some (.ret [C.list x3, C.int .i64 x4])
def t_ar : Tree :=
.letp .isNil [vL 0] <|
.ite (.v 1) (
  .both (
    .ret [⟨.list, .e⟩]) <|
  .chk (.rowsk [kI, kI, kI, kI]) [vL 0] <|
  .chk .fits [⟨.list, .e⟩, vL 0] <|
  .letp .app [⟨.list, .e⟩, vL 0] <|
  .ret [vL 2]) <|
.chk (.rowsk [kI, kI, kI, kI]) [vL 0] <|
.chk .fits [⟨.list, .e⟩, vL 0] <|
.letp .app [⟨.list, .e⟩, vL 0] <|
.ret [vL 2]
noncomputable def φ_ar := mir (ph []) t_ar
noncomputable def F_ar (x0 : LL) : Option Out :=
  let x1 : Bool := x0.isEmpty
  iteD x1 (
    bothD (
      some (.ret [C.list ([] : LL)])) <|
    whenD ((x0.all (kindsB [(.int .i64), (.int .i64), (.int .i64), (.int .i64)]))) <|
    whenD (decide (([] : LL).length + x0.length ≤ LMAX)) <|
    let x2 : LL := (([] : LL) ++ x0)
    some (.ret [C.list x2])) <|
  whenD ((x0.all (kindsB [(.int .i64), (.int .i64), (.int .i64), (.int .i64)]))) <|
  whenD (decide (([] : LL).length + x0.length ≤ LMAX)) <|
  let x2 : LL := (([] : LL) ++ x0)
  some (.ret [C.list x2])
def t_bd : Tree :=
.call 0 [vL 1, vI 2] [.list, kI] <|
.call 1 [vL 3] [.list] <|
.ret [vB 0, vL 4, vI 5, vL 6]
noncomputable def Φ_bd : Phi := ph [φ_bp, φ_ar]
noncomputable def φ_bd := mir Φ_bd t_bd
noncomputable def F_bd (x0 : Bool) (x1 : LL) (x2 : Int) (x3 : LL) : Option Out :=
  callD (φ_bp [C.list x1, C.int .i64 x2]) [.list, (.int .i64)] fun r4 =>
  let x4 := (getC r4 0).toList
  let x5 := (getC r4 1).toInt
  callD (φ_ar [C.list x3]) [.list] fun r6 =>
  let x6 := (getC r6 0).toList
  some (.ret [C.bool x0, C.list x4, C.int .i64 x5, C.list x6])
def t_cb : Tree :=
.ite (.v 2) (
  .chk .upto [vI 1, vL 0] <|
  .letp .take [vL 0, vI 1] <|
  .ret [vL 3]) <|
.ret [vL 0]
noncomputable def φ_cb := mir (ph []) t_cb
noncomputable def F_cb (x0 : LL) (x1 : Int) (x2 : Bool) : Option Out :=
  iteD x2 (
    whenD ((decide ((0 : Int) ≤ x1) && decide ((x1 : Int) ≤ (x0.length : Nat)))) <|
    let x3 : LL := (x0.take (Int.toNat x1))
    some (.ret [C.list x3])) <|
  some (.ret [C.list x0])
def t_br : Tree :=
.call 0 [vL 1, vI 2, vB 4] [.list] <|
.call 1 [vL 5] [.list, .bool] <|
.ret [vL 6]
noncomputable def Φ_br : Phi := ph [φ_cb, φ_dk]
noncomputable def φ_br := mir Φ_br t_br
noncomputable def F_br (x0 : Bool) (x1 : LL) (x2 : Int) (x3 : LL) (x4 : Bool) : Option Out :=
  callD (φ_cb [C.list x1, C.int .i64 x2, C.bool x4]) [.list] fun r5 =>
  let x5 := (getC r5 0).toList
  callD (φ_dk [C.list x5]) [.list, .bool] fun r6 =>
  let x6 := (getC r6 0).toList
  let x7 := (getC r6 1).toBool
  some (.ret [C.list x6])
def t_er : Tree :=
.call 0 [vL 0, vI 1] [.bool] <|
.letp .not [vB 5] <|
.ite (.v 6) (
  .ret [⟨.list, .e⟩, nI 0, ⟨.bool, (.b false)⟩]) <|
.call 1 [vI 2, vI 3, vL 4] [.bool] <|
.letp .not [vB 7] <|
.ite (.v 8) (
  .ret [⟨.list, .e⟩, nI 0, ⟨.bool, (.b false)⟩]) <|
.call 2 [vL 0, vI 1] [.list, kI] <|
.letp .len [vL 9] <|
.letp .eqI [vI 11, nI 40] <|
.ite (.v 12) (
  .ret [vL 9, vI 10, ⟨.bool, (.b false)⟩]) <|
.call 3 [vI 2, vI 3, vL 4] [kI, kI, .list] <|
.letp (.mkl 3) [vI 13, vI 14, vL 15] <|
.chk .fits [vL 9, vL 16] <|
.letp .app [vL 9, vL 16] <|
.ret [vL 17, vI 10, ⟨.bool, (.b true)⟩]
noncomputable def Φ_er : Phi := ph [φ_fh, φ_fk, φ_bp, φ_be]
noncomputable def φ_er := mir Φ_er t_er
noncomputable def F_er (x0 : LL) (x1 : Int) (x2 : Int) (x3 : Int) (x4 : LL) : Option Out :=
  callD (φ_fh [C.list x0, C.int .i64 x1]) [.bool] fun r5 =>
  let x5 := (getC r5 0).toBool
  let x6 : Bool := (!x5)
  iteD x6 (
    some (.ret [C.list ([] : LL), C.int .i64 0, C.bool false])) <|
  callD (φ_fk [C.int .i64 x2, C.int .i64 x3, C.list x4]) [.bool] fun r7 =>
  let x7 := (getC r7 0).toBool
  let x8 : Bool := (!x7)
  iteD x8 (
    some (.ret [C.list ([] : LL), C.int .i64 0, C.bool false])) <|
  callD (φ_bp [C.list x0, C.int .i64 x1]) [.list, (.int .i64)] fun r9 =>
  let x9 := (getC r9 0).toList
  let x10 := (getC r9 1).toInt
  let x11 : Int := ((x9.length : Nat) : Int)
  let x12 : Bool := ((x11 : Int) == 40)
  iteD x12 (
    some (.ret [C.list x9, C.int .i64 x10, C.bool false])) <|
  callD (φ_be [C.int .i64 x2, C.int .i64 x3, C.list x4]) [(.int .i64), (.int .i64), .list] fun r13 =>
  let x13 := (getC r13 0).toInt
  let x14 := (getC r13 1).toInt
  let x15 := (getC r13 2).toList
  let x16 : LL := [[C.int .i64 x13, C.int .i64 x14, C.list x15]]
  whenD (decide (x9.length + x16.length ≤ LMAX)) <|
  let x17 : LL := (x9 ++ x16)
  some (.ret [C.list x17, C.int .i64 x10, C.bool true])
def t_bs : Tree :=
.letp .not [vB 0] <|
.ite (.v 7) (
  .ret [⟨.bool, (.b false)⟩, vB 0, vL 1, vI 2, vL 3]) <|
.call 0 [vB 0, vL 1, vI 2, vL 3, ⟨.bool, (.b false)⟩] [.list] <|
.call 1 [vL 8, vI 4, vI 5, vL 6] [.bool] <|
.letp .not [vB 9] <|
.ite (.v 10) (
  .ret [⟨.bool, (.b false)⟩, vB 0, vL 1, vI 2, vL 3]) <|
.call 2 [vL 1, vI 2, vI 4, vI 5, vL 6] [.list, kI, .bool] <|
.ret [vB 13, vB 0, vL 11, vI 12, vL 3]
noncomputable def Φ_bs : Phi := ph [φ_br, φ_db, φ_er]
noncomputable def φ_bs := mir Φ_bs t_bs
noncomputable def F_bs (x0 : Bool) (x1 : LL) (x2 : Int) (x3 : LL) (x4 : Int) (x5 : Int) (x6 : LL) : Option Out :=
  let x7 : Bool := (!x0)
  iteD x7 (
    some (.ret [C.bool false, C.bool x0, C.list x1, C.int .i64 x2, C.list x3])) <|
  callD (φ_br [C.bool x0, C.list x1, C.int .i64 x2, C.list x3, C.bool false]) [.list] fun r8 =>
  let x8 := (getC r8 0).toList
  callD (φ_db [C.list x8, C.int .i64 x4, C.int .i64 x5, C.list x6]) [.bool] fun r9 =>
  let x9 := (getC r9 0).toBool
  let x10 : Bool := (!x9)
  iteD x10 (
    some (.ret [C.bool false, C.bool x0, C.list x1, C.int .i64 x2, C.list x3])) <|
  callD (φ_er [C.list x1, C.int .i64 x2, C.int .i64 x4, C.int .i64 x5, C.list x6]) [.list, (.int .i64), .bool] fun r11 =>
  let x11 := (getC r11 0).toList
  let x12 := (getC r11 1).toInt
  let x13 := (getC r11 2).toBool
  some (.ret [C.bool x13, C.bool x0, C.list x11, C.int .i64 x12, C.list x3])
def t_cj : Tree :=
.call 0 [vB 0, vL 1, vI 2, vL 3] [.bool] <|
.letp .not [vB 5] <|
.ite (.v 6) (
  .ret [⟨.bool, (.b false)⟩, ⟨.list, .e⟩, nI 0, ⟨.list, .e⟩, ⟨.bool, (.b false)⟩]) <|
.call 1 [vB 0, vL 1, vI 2, vL 3] [.bool, .list, kI, .list] <|
.call 2 [vB 7, vL 8, vI 9, vL 10, ⟨.bool, (.b false)⟩] [.list] <|
.letp .len [vL 11] <|
.letp (.add .i64) [vI 12, nI 1] <|
.call 3 [nI 4, vI 13, vL 4] [.bool] <|
.letp .not [vB 14] <|
.ite (.v 15) (
  .ret [⟨.bool, (.b false)⟩, ⟨.list, .e⟩, nI 0, ⟨.list, .e⟩, ⟨.bool, (.b false)⟩]) <|
.call 4 [vB 7, vL 8, vI 9, vL 10, nI 4, vI 13, vL 4] [.bool, .bool, .list, kI, .list] <|
.ret [vB 17, vL 18, vI 19, vL 20, vB 16]
noncomputable def Φ_cj : Phi := ph [φ_ez, φ_bd, φ_br, φ_fk, φ_bs]
noncomputable def φ_cj := mir Φ_cj t_cj
noncomputable def F_cj (x0 : Bool) (x1 : LL) (x2 : Int) (x3 : LL) (x4 : LL) : Option Out :=
  callD (φ_ez [C.bool x0, C.list x1, C.int .i64 x2, C.list x3]) [.bool] fun r5 =>
  let x5 := (getC r5 0).toBool
  let x6 : Bool := (!x5)
  iteD x6 (
    some (.ret [C.bool false, C.list ([] : LL), C.int .i64 0, C.list ([] : LL), C.bool false])) <|
  callD (φ_bd [C.bool x0, C.list x1, C.int .i64 x2, C.list x3]) [.bool, .list, (.int .i64), .list] fun r7 =>
  let x7 := (getC r7 0).toBool
  let x8 := (getC r7 1).toList
  let x9 := (getC r7 2).toInt
  let x10 := (getC r7 3).toList
  callD (φ_br [C.bool x7, C.list x8, C.int .i64 x9, C.list x10, C.bool false]) [.list] fun r11 =>
  let x11 := (getC r11 0).toList
  let x12 : Int := ((x11.length : Nat) : Int)
  let x13 : Int := IntKind.wrap .i64 (x12 + 1)
  callD (φ_fk [C.int .i64 4, C.int .i64 x13, C.list x4]) [.bool] fun r14 =>
  let x14 := (getC r14 0).toBool
  let x15 : Bool := (!x14)
  iteD x15 (
    some (.ret [C.bool false, C.list ([] : LL), C.int .i64 0, C.list ([] : LL), C.bool false])) <|
  callD (φ_bs [C.bool x7, C.list x8, C.int .i64 x9, C.list x10, C.int .i64 4, C.int .i64 x13, C.list x4]) [.bool, .bool, .list, (.int .i64), .list] fun r16 =>
  let x16 := (getC r16 0).toBool
  let x17 := (getC r16 1).toBool
  let x18 := (getC r16 2).toList
  let x19 := (getC r16 3).toInt
  let x20 := (getC r16 4).toList
  some (.ret [C.bool x17, C.list x18, C.int .i64 x19, C.list x20, C.bool x16])
def t_dd : Tree :=
.call 0 [vB 0, vL 1, vI 2, vL 3] [.bool] <|
.letp .not [vB 5] <|
.ite (.v 6) (
  .ret [⟨.bool, (.b false)⟩, ⟨.list, .e⟩, nI 0, ⟨.list, .e⟩, ⟨.bool, (.b false)⟩]) <|
.call 1 [vI 4] [.bool] <|
.letp .not [vB 7] <|
.ite (.v 8) (
  .ret [⟨.bool, (.b false)⟩, ⟨.list, .e⟩, nI 0, ⟨.list, .e⟩, ⟨.bool, (.b false)⟩]) <|
.call 2 [vB 0, vL 1, vI 2, vL 3] [.bool, .list, kI, .list] <|
.call 3 [vB 9, vL 10, vI 11, vL 12, nI 6, vI 4, ⟨.list, .e⟩] [.bool, .bool, .list, kI, .list] <|
.ret [vB 14, vL 15, vI 16, vL 17, vB 13]
noncomputable def Φ_dd : Phi := ph [φ_ez, φ_eq, φ_bd, φ_bs]
noncomputable def φ_dd := mir Φ_dd t_dd
noncomputable def F_dd (x0 : Bool) (x1 : LL) (x2 : Int) (x3 : LL) (x4 : Int) : Option Out :=
  callD (φ_ez [C.bool x0, C.list x1, C.int .i64 x2, C.list x3]) [.bool] fun r5 =>
  let x5 := (getC r5 0).toBool
  let x6 : Bool := (!x5)
  iteD x6 (
    some (.ret [C.bool false, C.list ([] : LL), C.int .i64 0, C.list ([] : LL), C.bool false])) <|
  callD (φ_eq [C.int .i64 x4]) [.bool] fun r7 =>
  let x7 := (getC r7 0).toBool
  let x8 : Bool := (!x7)
  iteD x8 (
    some (.ret [C.bool false, C.list ([] : LL), C.int .i64 0, C.list ([] : LL), C.bool false])) <|
  callD (φ_bd [C.bool x0, C.list x1, C.int .i64 x2, C.list x3]) [.bool, .list, (.int .i64), .list] fun r9 =>
  let x9 := (getC r9 0).toBool
  let x10 := (getC r9 1).toList
  let x11 := (getC r9 2).toInt
  let x12 := (getC r9 3).toList
  callD (φ_bs [C.bool x9, C.list x10, C.int .i64 x11, C.list x12, C.int .i64 6, C.int .i64 x4, C.list ([] : LL)]) [.bool, .bool, .list, (.int .i64), .list] fun r13 =>
  let x13 := (getC r13 0).toBool
  let x14 := (getC r13 1).toBool
  let x15 := (getC r13 2).toList
  let x16 := (getC r13 3).toInt
  let x17 := (getC r13 4).toList
  some (.ret [C.bool x14, C.list x15, C.int .i64 x16, C.list x17, C.bool x13])
def t_ch : Tree :=
.call 0 [vL 3, vI 4, vI 5, vI 6, nI 0] [.bool] <|
.ret [vB 7]
noncomputable def Φ_ch : Phi := ph [φ_ap]
noncomputable def φ_ch := mir Φ_ch t_ch
noncomputable def F_ch (x0 : Bool) (x1 : LL) (x2 : Int) (x3 : LL) (x4 : Int) (x5 : Int) (x6 : Int) : Option Out :=
  callD (φ_ap [C.list x3, C.int .i64 x4, C.int .i64 x5, C.int .i64 x6, C.int .i64 0]) [.bool] fun r7 =>
  let x7 := (getC r7 0).toBool
  some (.ret [C.bool x7])
def t_bh : Tree :=
.letp .not [vB 0] <|
.ite (.v 4) (
  .ret [⟨.list, .e⟩]) <|
.call 0 [vB 0, vL 1, vI 2, vL 3, ⟨.bool, (.b true)⟩] [.list] <|
.letp .len [vL 5] <|
.iter [nI 0, ⟨.list, .e⟩] <|
.letp .ltI [vI 7, vI 6] <|
.ite (.v 9) (
  .row (.v 5) (.v 7) [.list, kI] <|
  .letp (.tab [(1, 1), (2, 2), (3, 3)]) [vI 11] <|
  .letp (.tab [(1, 4), (2, 6), (3, 7)]) [vI 11] <|
  .letp (.has [1, 2, 3]) [vI 11] <|
  .letp .len [vL 10] <|
  .iter [nI 0, vL 8] <|
  .letp .ltI [vI 16, vI 15] <|
  .ite (.v 18) (
    .row (.v 10) (.v 16) [kI] <|
    .letp .not [vB 14] <|
    .ite (.v 20) (
      .letp (.add .i64) [vI 16, nI 1] <|
      .jump [vI 21, vL 17]) <|
    .letp .eqI [vI 19, nI 0] <|
    .ite (.v 21) (
      .letp (.add .i64) [vI 16, nI 1] <|
      .jump [vI 22, vL 17]) <|
    .letp (.add .i64) [vI 16, nI 1] <|
    .letp (.add .i64) [vI 7, nI 1] <|
    .call 1 [vB 0, vL 1, vI 2, vL 3, vI 13, vI 22, vI 23] [.bool] <|
    .ite (.v 24) (
      .letp (.add .i64) [vI 16, nI 1] <|
      .jump [vI 25, vL 17]) <|
    .letp (.add .i64) [vI 16, nI 1] <|
    .letp (.add .i64) [vI 7, nI 1] <|
    .letp .eqI [vI 12, nI 1] <|
    .ite (.v 27) (
      .letp (.mkl 4) [vI 12, vI 25, vI 26, vI 19] <|
      .chk .fits [vL 17, vL 28] <|
      .letp .app [vL 17, vL 28] <|
      .letp (.add .i64) [vI 16, nI 1] <|
      .jump [vI 30, vL 29]) <|
    .letp (.mkl 4) [vI 12, vI 25, vI 26, nI 0] <|
    .chk .fits [vL 17, vL 28] <|
    .letp .app [vL 17, vL 28] <|
    .letp (.add .i64) [vI 16, nI 1] <|
    .jump [vI 30, vL 29]) <|
  .up <|
  .letp (.add .i64) [vI 7, nI 1] <|
  .jump [vI 19, vL 17]) <|
.up <|
.ret [vL 8]
noncomputable def Φ_bh : Phi := ph [φ_br, φ_ch]
noncomputable def φ_bh := mir Φ_bh t_bh
noncomputable def L_bh_0 (x0 : Bool) (x1 : LL) (x2 : Int) (x3 : LL) (x7 : Int) (x10 : LL) (x12 : Int) (x13 : Int) (x14 : Bool) (x15 : Int) (x16 : Int) (x17 : LL) : Option Out :=
  let x18 : Bool := decide ((x16 : Int) < x15)
  iteD x18 (
    rowD (.list x10) (.int .i64 x16) [(.int .i64)] fun r19 =>
    let x19 := (getC r19 0).toInt
    let x20 : Bool := (!x14)
    iteD x20 (
      let x21 : Int := IntKind.wrap .i64 (x16 + 1)
      some (.jump [C.int .i64 x21, C.list x17])) <|
    let x21 : Bool := ((x19 : Int) == 0)
    iteD x21 (
      let x22 : Int := IntKind.wrap .i64 (x16 + 1)
      some (.jump [C.int .i64 x22, C.list x17])) <|
    let x22 : Int := IntKind.wrap .i64 (x16 + 1)
    let x23 : Int := IntKind.wrap .i64 (x7 + 1)
    callD (φ_ch [C.bool x0, C.list x1, C.int .i64 x2, C.list x3, C.int .i64 x13, C.int .i64 x22, C.int .i64 x23]) [.bool] fun r24 =>
    let x24 := (getC r24 0).toBool
    iteD x24 (
      let x25 : Int := IntKind.wrap .i64 (x16 + 1)
      some (.jump [C.int .i64 x25, C.list x17])) <|
    let x25 : Int := IntKind.wrap .i64 (x16 + 1)
    let x26 : Int := IntKind.wrap .i64 (x7 + 1)
    let x27 : Bool := ((x12 : Int) == 1)
    iteD x27 (
      let x28 : LL := [[C.int .i64 x12, C.int .i64 x25, C.int .i64 x26, C.int .i64 x19]]
      whenD (decide (x17.length + x28.length ≤ LMAX)) <|
      let x29 : LL := (x17 ++ x28)
      let x30 : Int := IntKind.wrap .i64 (x16 + 1)
      some (.jump [C.int .i64 x30, C.list x29])) <|
    let x28 : LL := [[C.int .i64 x12, C.int .i64 x25, C.int .i64 x26, C.int .i64 0]]
    whenD (decide (x17.length + x28.length ≤ LMAX)) <|
    let x29 : LL := (x17 ++ x28)
    let x30 : Int := IntKind.wrap .i64 (x16 + 1)
    some (.jump [C.int .i64 x30, C.list x29])) <|
  upD <|
  let x19 : Int := IntKind.wrap .i64 (x7 + 1)
  some (.jump [C.int .i64 x19, C.list x17])
noncomputable def L_bh_1 (x0 : Bool) (x1 : LL) (x2 : Int) (x3 : LL) (x5 : LL) (x6 : Int) (x7 : Int) (x8 : LL) : Option Out :=
  let x9 : Bool := decide ((x7 : Int) < x6)
  iteD x9 (
    rowD (.list x5) (.int .i64 x7) [.list, (.int .i64)] fun r10 =>
    let x10 := (getC r10 0).toList
    let x11 := (getC r10 1).toInt
    let x12 : Int := (lookI [(1, 1), (2, 2), (3, 3)] x11)
    let x13 : Int := (lookI [(1, 4), (2, 6), (3, 7)] x11)
    let x14 : Bool := (([1, 2, 3] : List Int).any fun k => (x11 : Int) == k)
    let x15 : Int := ((x10.length : Nat) : Int)
    iterD (fun ps => L_bh_0 x0 x1 x2 x3 x7 x10 x12 x13 x14 x15 ((getC ps 0).toInt) ((getC ps 1).toList)) [C.int .i64 0, C.list x8]) <|
  upD <|
  some (.ret [C.list x8])
noncomputable def F_bh (x0 : Bool) (x1 : LL) (x2 : Int) (x3 : LL) : Option Out :=
  let x4 : Bool := (!x0)
  iteD x4 (
    some (.ret [C.list ([] : LL)])) <|
  callD (φ_br [C.bool x0, C.list x1, C.int .i64 x2, C.list x3, C.bool true]) [.list] fun r5 =>
  let x5 := (getC r5 0).toList
  let x6 : Int := ((x5.length : Nat) : Int)
  iterD (fun ps => L_bh_1 x0 x1 x2 x3 x5 x6 ((getC ps 0).toInt) ((getC ps 1).toList)) [C.int .i64 0, C.list ([] : LL)]
def t_bm : Tree :=
.letp .len [vL 5] <|
.letp .ltI [vI 10, nI 14] <|
.ite (.v 11) (
  .letp (.mkl 4) [vI 6, vI 7, vI 8, vI 9] <|
  .chk .fits [vL 5, vL 12] <|
  .letp .app [vL 5, vL 12] <|
  .ret [vB 0, vL 1, vI 2, vL 3, vL 4, vL 13]) <|
.ret [vB 0, vL 1, vI 2, vL 3, vL 4, vL 5]
noncomputable def φ_bm := mir (ph []) t_bm
noncomputable def F_bm (x0 : Bool) (x1 : LL) (x2 : Int) (x3 : LL) (x4 : LL) (x5 : LL) (x6 : Int) (x7 : Int) (x8 : Int) (x9 : Int) : Option Out :=
  let x10 : Int := ((x5.length : Nat) : Int)
  let x11 : Bool := decide ((x10 : Int) < 14)
  iteD x11 (
    let x12 : LL := [[C.int .i64 x6, C.int .i64 x7, C.int .i64 x8, C.int .i64 x9]]
    whenD (decide (x5.length + x12.length ≤ LMAX)) <|
    let x13 : LL := (x5 ++ x12)
    some (.ret [C.bool x0, C.list x1, C.int .i64 x2, C.list x3, C.list x4, C.list x13])) <|
  some (.ret [C.bool x0, C.list x1, C.int .i64 x2, C.list x3, C.list x4, C.list x5])
def t_bq : Tree :=
.letp .len [vL 6] <|
.iter [⟨.bool, (.b false)⟩, ⟨.bool, (.b true)⟩, nI 0] <|
.letp .ltI [vI 10, vI 7] <|
.ite (.v 11) (
  .row (.v 6) (.v 10) [kI] <|
  .letp .eqI [vI 12, nI 0] <|
  .ite (.v 13) (
    .letp (.add .i64) [vI 10, nI 1] <|
    .jump [vB 8, vB 9, vI 14]) <|
  .letp (.add .i64) [vI 10, nI 1] <|
  .call 0 [vB 0, vL 1, vI 2, vL 3, vI 4, vI 14, vI 5] [.bool] <|
  .ite (.v 8) (
    .ite (.v 9) (
      .letp (.add .i64) [vI 10, nI 1] <|
      .jump [⟨.bool, (.b true)⟩, vB 15, vI 16]) <|
    .letp (.add .i64) [vI 10, nI 1] <|
    .jump [⟨.bool, (.b true)⟩, ⟨.bool, (.b false)⟩, vI 16]) <|
  .ite (.v 9) (
    .letp (.add .i64) [vI 10, nI 1] <|
    .jump [vB 15, vB 15, vI 16]) <|
  .letp (.add .i64) [vI 10, nI 1] <|
  .jump [vB 15, ⟨.bool, (.b false)⟩, vI 16]) <|
.up <|
.ret [vB 8, vB 9]
noncomputable def Φ_bq : Phi := ph [φ_ch]
noncomputable def φ_bq := mir Φ_bq t_bq
noncomputable def L_bq_0 (x0 : Bool) (x1 : LL) (x2 : Int) (x3 : LL) (x4 : Int) (x5 : Int) (x6 : LL) (x7 : Int) (x8 : Bool) (x9 : Bool) (x10 : Int) : Option Out :=
  let x11 : Bool := decide ((x10 : Int) < x7)
  iteD x11 (
    rowD (.list x6) (.int .i64 x10) [(.int .i64)] fun r12 =>
    let x12 := (getC r12 0).toInt
    let x13 : Bool := ((x12 : Int) == 0)
    iteD x13 (
      let x14 : Int := IntKind.wrap .i64 (x10 + 1)
      some (.jump [C.bool x8, C.bool x9, C.int .i64 x14])) <|
    let x14 : Int := IntKind.wrap .i64 (x10 + 1)
    callD (φ_ch [C.bool x0, C.list x1, C.int .i64 x2, C.list x3, C.int .i64 x4, C.int .i64 x14, C.int .i64 x5]) [.bool] fun r15 =>
    let x15 := (getC r15 0).toBool
    iteD x8 (
      iteD x9 (
        let x16 : Int := IntKind.wrap .i64 (x10 + 1)
        some (.jump [C.bool true, C.bool x15, C.int .i64 x16])) <|
      let x16 : Int := IntKind.wrap .i64 (x10 + 1)
      some (.jump [C.bool true, C.bool false, C.int .i64 x16])) <|
    iteD x9 (
      let x16 : Int := IntKind.wrap .i64 (x10 + 1)
      some (.jump [C.bool x15, C.bool x15, C.int .i64 x16])) <|
    let x16 : Int := IntKind.wrap .i64 (x10 + 1)
    some (.jump [C.bool x15, C.bool false, C.int .i64 x16])) <|
  upD <|
  some (.ret [C.bool x8, C.bool x9])
noncomputable def F_bq (x0 : Bool) (x1 : LL) (x2 : Int) (x3 : LL) (x4 : Int) (x5 : Int) (x6 : LL) : Option Out :=
  let x7 : Int := ((x6.length : Nat) : Int)
  iterD (fun ps => L_bq_0 x0 x1 x2 x3 x4 x5 x6 x7 ((getC ps 0).toBool) ((getC ps 1).toBool) ((getC ps 2).toInt)) [C.bool false, C.bool true, C.int .i64 0]
def t_az : Tree :=
.call 0 [⟨.bool, (.v 0)⟩, ⟨.list, (.v 1)⟩, ⟨(.int .i64), (.v 2)⟩, ⟨.list, (.v 3)⟩, ⟨.bool, (.b false)⟩] [.list] <|
.letp (.sub .i64) [⟨(.int .i64), (.v 4)⟩, ⟨(.int .i64), (.n 1)⟩] <|
.row (.v 5) (.v 6) [.list, (.int .i64)] <|
.call 1 [⟨.bool, (.v 0)⟩, ⟨.list, (.v 1)⟩, ⟨(.int .i64), (.v 2)⟩, ⟨.list, (.v 3)⟩, ⟨(.int .i64), (.n 5)⟩, ⟨(.int .i64), (.v 4)⟩, ⟨.list, (.v 7)⟩] [.bool, .bool] <|
.call 1 [⟨.bool, (.v 0)⟩, ⟨.list, (.v 1)⟩, ⟨(.int .i64), (.v 2)⟩, ⟨.list, (.v 3)⟩, ⟨(.int .i64), (.n 4)⟩, ⟨(.int .i64), (.v 4)⟩, ⟨.list, (.v 7)⟩] [.bool, .bool] <|
.call 1 [⟨.bool, (.v 0)⟩, ⟨.list, (.v 1)⟩, ⟨(.int .i64), (.v 2)⟩, ⟨.list, (.v 3)⟩, ⟨(.int .i64), (.n 6)⟩, ⟨(.int .i64), (.v 4)⟩, ⟨.list, (.v 7)⟩] [.bool, .bool] <|
.call 1 [⟨.bool, (.v 0)⟩, ⟨.list, (.v 1)⟩, ⟨(.int .i64), (.v 2)⟩, ⟨.list, (.v 3)⟩, ⟨(.int .i64), (.n 7)⟩, ⟨(.int .i64), (.v 4)⟩, ⟨.list, (.v 7)⟩] [.bool, .bool] <|
.call 0 [⟨.bool, (.v 0)⟩, ⟨.list, (.v 1)⟩, ⟨(.int .i64), (.v 2)⟩, ⟨.list, (.v 3)⟩, ⟨.bool, (.b true)⟩] [.list] <|
.call 2 [⟨.list, (.v 17)⟩, ⟨(.int .i64), (.v 4)⟩] [(.int .i64)] <|
.letp .eqI [⟨(.int .i64), (.v 18)⟩, ⟨(.int .i64), (.v 8)⟩] <|
.join [.bool] (
  .letp .eqI [⟨(.int .i64), (.v 8)⟩, ⟨(.int .i64), (.n 1)⟩] <|
  .ite (.v 20) (
    .jump [⟨.bool, (.v 9)⟩]) <|
  .jump [⟨.bool, (.b false)⟩]) <|
.ite (.v 20) (
  .call 3 [⟨.bool, (.v 0)⟩, ⟨.list, (.v 1)⟩, ⟨(.int .i64), (.v 2)⟩, ⟨.list, (.v 3)⟩, ⟨(.int .i64), (.n 6)⟩, ⟨(.int .i64), (.v 4)⟩, ⟨.list, .e⟩] [.bool, .bool, .list, (.int .i64), .list] <|
  .ret [⟨.bool, (.v 22)⟩, ⟨.list, (.v 23)⟩, ⟨(.int .i64), (.v 24)⟩, ⟨.list, (.v 25)⟩]) <|
.join [.bool] (
  .letp .eqI [⟨(.int .i64), (.v 8)⟩, ⟨(.int .i64), (.n 1)⟩] <|
  .ite (.v 21) (
    .jump [⟨.bool, (.v 12)⟩]) <|
  .jump [⟨.bool, (.b false)⟩]) <|
.ite (.v 21) (
  .call 3 [⟨.bool, (.v 0)⟩, ⟨.list, (.v 1)⟩, ⟨(.int .i64), (.v 2)⟩, ⟨.list, (.v 3)⟩, ⟨(.int .i64), (.n 5)⟩, ⟨(.int .i64), (.v 4)⟩, ⟨.list, .e⟩] [.bool, .bool, .list, (.int .i64), .list] <|
  .ret [⟨.bool, (.v 23)⟩, ⟨.list, (.v 24)⟩, ⟨(.int .i64), (.v 25)⟩, ⟨.list, (.v 26)⟩]) <|
.letp .eqI [⟨(.int .i64), (.v 8)⟩, ⟨(.int .i64), (.n 2)⟩] <|
.ite (.v 22) (
  .ite (.v 19) (
    .ite (.v 14) (
      .call 3 [⟨.bool, (.v 0)⟩, ⟨.list, (.v 1)⟩, ⟨(.int .i64), (.v 2)⟩, ⟨.list, (.v 3)⟩, ⟨(.int .i64), (.n 7)⟩, ⟨(.int .i64), (.v 4)⟩, ⟨.list, .e⟩] [.bool, .bool, .list, (.int .i64), .list] <|
      .ret [⟨.bool, (.v 24)⟩, ⟨.list, (.v 25)⟩, ⟨(.int .i64), (.v 26)⟩, ⟨.list, (.v 27)⟩]) <|
    .letp .eqI [⟨(.int .i64), (.v 8)⟩, ⟨(.int .i64), (.n 3)⟩] <|
    .ite (.v 23) (
      .ite (.v 19) (
        .ite (.v 16) (
          .call 3 [⟨.bool, (.v 0)⟩, ⟨.list, (.v 1)⟩, ⟨(.int .i64), (.v 2)⟩, ⟨.list, (.v 3)⟩, ⟨(.int .i64), (.n 7)⟩, ⟨(.int .i64), (.v 4)⟩, ⟨.list, .e⟩] [.bool, .bool, .list, (.int .i64), .list] <|
          .ret [⟨.bool, (.v 25)⟩, ⟨.list, (.v 26)⟩, ⟨(.int .i64), (.v 27)⟩, ⟨.list, (.v 28)⟩]) <|
        .ret [⟨.bool, (.v 0)⟩, ⟨.list, (.v 1)⟩, ⟨(.int .i64), (.v 2)⟩, ⟨.list, (.v 3)⟩]) <|
      .ret [⟨.bool, (.v 0)⟩, ⟨.list, (.v 1)⟩, ⟨(.int .i64), (.v 2)⟩, ⟨.list, (.v 3)⟩]) <|
    .ret [⟨.bool, (.v 0)⟩, ⟨.list, (.v 1)⟩, ⟨(.int .i64), (.v 2)⟩, ⟨.list, (.v 3)⟩]) <|
  .letp .eqI [⟨(.int .i64), (.v 8)⟩, ⟨(.int .i64), (.n 3)⟩] <|
  .ite (.v 23) (
    .ite (.v 19) (
      .ite (.v 16) (
        .call 3 [⟨.bool, (.v 0)⟩, ⟨.list, (.v 1)⟩, ⟨(.int .i64), (.v 2)⟩, ⟨.list, (.v 3)⟩, ⟨(.int .i64), (.n 7)⟩, ⟨(.int .i64), (.v 4)⟩, ⟨.list, .e⟩] [.bool, .bool, .list, (.int .i64), .list] <|
        .ret [⟨.bool, (.v 25)⟩, ⟨.list, (.v 26)⟩, ⟨(.int .i64), (.v 27)⟩, ⟨.list, (.v 28)⟩]) <|
      .ret [⟨.bool, (.v 0)⟩, ⟨.list, (.v 1)⟩, ⟨(.int .i64), (.v 2)⟩, ⟨.list, (.v 3)⟩]) <|
    .ret [⟨.bool, (.v 0)⟩, ⟨.list, (.v 1)⟩, ⟨(.int .i64), (.v 2)⟩, ⟨.list, (.v 3)⟩]) <|
  .ret [⟨.bool, (.v 0)⟩, ⟨.list, (.v 1)⟩, ⟨(.int .i64), (.v 2)⟩, ⟨.list, (.v 3)⟩]) <|
.letp .eqI [⟨(.int .i64), (.v 8)⟩, ⟨(.int .i64), (.n 3)⟩] <|
.ite (.v 23) (
  .ite (.v 19) (
    .ite (.v 16) (
      .call 3 [⟨.bool, (.v 0)⟩, ⟨.list, (.v 1)⟩, ⟨(.int .i64), (.v 2)⟩, ⟨.list, (.v 3)⟩, ⟨(.int .i64), (.n 7)⟩, ⟨(.int .i64), (.v 4)⟩, ⟨.list, .e⟩] [.bool, .bool, .list, (.int .i64), .list] <|
      .ret [⟨.bool, (.v 25)⟩, ⟨.list, (.v 26)⟩, ⟨(.int .i64), (.v 27)⟩, ⟨.list, (.v 28)⟩]) <|
    .ret [⟨.bool, (.v 0)⟩, ⟨.list, (.v 1)⟩, ⟨(.int .i64), (.v 2)⟩, ⟨.list, (.v 3)⟩]) <|
  .ret [⟨.bool, (.v 0)⟩, ⟨.list, (.v 1)⟩, ⟨(.int .i64), (.v 2)⟩, ⟨.list, (.v 3)⟩]) <|
.ret [⟨.bool, (.v 0)⟩, ⟨.list, (.v 1)⟩, ⟨(.int .i64), (.v 2)⟩, ⟨.list, (.v 3)⟩]
noncomputable def Φ_az : Phi := fun n => match n with
  | 0 => φ_br
  | 1 => φ_bq
  | 2 => φ_dp
  | 3 => φ_bs
  | _ => fun _ => none
noncomputable def φ_az (cs : List C) : Option (List C) := retOf (den Φ_az t_az cs)
noncomputable def J_az_0 (x0 : Bool) (x1 : LL) (x2 : Int) (x3 : LL) (x4 : Int) (x8 : Int) (x14 : Bool) (x16 : Bool) (x19 : Bool) (x21 : Bool) : Option Out :=
  iteD x21 (
    callD (φ_bs [C.bool x0, C.list x1, C.int .i64 x2, C.list x3, C.int .i64 5, C.int .i64 x4, C.list ([] : LL)]) [.bool, .bool, .list, (.int .i64), .list] fun r22 =>
    let x22 := (getC r22 0).toBool
    let x23 := (getC r22 1).toBool
    let x24 := (getC r22 2).toList
    let x25 := (getC r22 3).toInt
    let x26 := (getC r22 4).toList
    some (.ret [C.bool x23, C.list x24, C.int .i64 x25, C.list x26])) <|
  let x22 : Bool := ((x8 : Int) == 2)
  iteD x22 (
    iteD x19 (
      iteD x14 (
        callD (φ_bs [C.bool x0, C.list x1, C.int .i64 x2, C.list x3, C.int .i64 7, C.int .i64 x4, C.list ([] : LL)]) [.bool, .bool, .list, (.int .i64), .list] fun r23 =>
        let x23 := (getC r23 0).toBool
        let x24 := (getC r23 1).toBool
        let x25 := (getC r23 2).toList
        let x26 := (getC r23 3).toInt
        let x27 := (getC r23 4).toList
        some (.ret [C.bool x24, C.list x25, C.int .i64 x26, C.list x27])) <|
      let x23 : Bool := ((x8 : Int) == 3)
      iteD x23 (
        iteD x19 (
          iteD x16 (
            callD (φ_bs [C.bool x0, C.list x1, C.int .i64 x2, C.list x3, C.int .i64 7, C.int .i64 x4, C.list ([] : LL)]) [.bool, .bool, .list, (.int .i64), .list] fun r24 =>
            let x24 := (getC r24 0).toBool
            let x25 := (getC r24 1).toBool
            let x26 := (getC r24 2).toList
            let x27 := (getC r24 3).toInt
            let x28 := (getC r24 4).toList
            some (.ret [C.bool x25, C.list x26, C.int .i64 x27, C.list x28])) <|
          some (.ret [C.bool x0, C.list x1, C.int .i64 x2, C.list x3])) <|
        some (.ret [C.bool x0, C.list x1, C.int .i64 x2, C.list x3])) <|
      some (.ret [C.bool x0, C.list x1, C.int .i64 x2, C.list x3])) <|
    let x23 : Bool := ((x8 : Int) == 3)
    iteD x23 (
      iteD x19 (
        iteD x16 (
          callD (φ_bs [C.bool x0, C.list x1, C.int .i64 x2, C.list x3, C.int .i64 7, C.int .i64 x4, C.list ([] : LL)]) [.bool, .bool, .list, (.int .i64), .list] fun r24 =>
          let x24 := (getC r24 0).toBool
          let x25 := (getC r24 1).toBool
          let x26 := (getC r24 2).toList
          let x27 := (getC r24 3).toInt
          let x28 := (getC r24 4).toList
          some (.ret [C.bool x25, C.list x26, C.int .i64 x27, C.list x28])) <|
        some (.ret [C.bool x0, C.list x1, C.int .i64 x2, C.list x3])) <|
      some (.ret [C.bool x0, C.list x1, C.int .i64 x2, C.list x3])) <|
    some (.ret [C.bool x0, C.list x1, C.int .i64 x2, C.list x3])) <|
  let x23 : Bool := ((x8 : Int) == 3)
  iteD x23 (
    iteD x19 (
      iteD x16 (
        callD (φ_bs [C.bool x0, C.list x1, C.int .i64 x2, C.list x3, C.int .i64 7, C.int .i64 x4, C.list ([] : LL)]) [.bool, .bool, .list, (.int .i64), .list] fun r24 =>
        let x24 := (getC r24 0).toBool
        let x25 := (getC r24 1).toBool
        let x26 := (getC r24 2).toList
        let x27 := (getC r24 3).toInt
        let x28 := (getC r24 4).toList
        some (.ret [C.bool x25, C.list x26, C.int .i64 x27, C.list x28])) <|
      some (.ret [C.bool x0, C.list x1, C.int .i64 x2, C.list x3])) <|
    some (.ret [C.bool x0, C.list x1, C.int .i64 x2, C.list x3])) <|
  some (.ret [C.bool x0, C.list x1, C.int .i64 x2, C.list x3])
noncomputable def J_az_1 (x0 : Bool) (x1 : LL) (x2 : Int) (x3 : LL) (x4 : Int) (x8 : Int) (x12 : Bool) (x14 : Bool) (x16 : Bool) (x19 : Bool) (x20 : Bool) : Option Out :=
  iteD x20 (
    callD (φ_bs [C.bool x0, C.list x1, C.int .i64 x2, C.list x3, C.int .i64 6, C.int .i64 x4, C.list ([] : LL)]) [.bool, .bool, .list, (.int .i64), .list] fun r21 =>
    let x21 := (getC r21 0).toBool
    let x22 := (getC r21 1).toBool
    let x23 := (getC r21 2).toList
    let x24 := (getC r21 3).toInt
    let x25 := (getC r21 4).toList
    some (.ret [C.bool x22, C.list x23, C.int .i64 x24, C.list x25])) <|
  joinD (
    let x21 : Bool := ((x8 : Int) == 1)
    iteD x21 (
      some (.jump [C.bool x12])) <|
    some (.jump [C.bool false])) fun ps => J_az_0 x0 x1 x2 x3 x4 x8 x14 x16 x19 ((getC ps 0).toBool)
noncomputable def F_az (x0 : Bool) (x1 : LL) (x2 : Int) (x3 : LL) (x4 : Int) : Option Out :=
  callD (φ_br [C.bool x0, C.list x1, C.int .i64 x2, C.list x3, C.bool false]) [.list] fun r5 =>
  let x5 := (getC r5 0).toList
  let x6 : Int := IntKind.wrap .i64 (x4 - 1)
  rowD (.list x5) (.int .i64 x6) [.list, (.int .i64)] fun r7 =>
  let x7 := (getC r7 0).toList
  let x8 := (getC r7 1).toInt
  callD (φ_bq [C.bool x0, C.list x1, C.int .i64 x2, C.list x3, C.int .i64 5, C.int .i64 x4, C.list x7]) [.bool, .bool] fun r9 =>
  let x9 := (getC r9 0).toBool
  let x10 := (getC r9 1).toBool
  callD (φ_bq [C.bool x0, C.list x1, C.int .i64 x2, C.list x3, C.int .i64 4, C.int .i64 x4, C.list x7]) [.bool, .bool] fun r11 =>
  let x11 := (getC r11 0).toBool
  let x12 := (getC r11 1).toBool
  callD (φ_bq [C.bool x0, C.list x1, C.int .i64 x2, C.list x3, C.int .i64 6, C.int .i64 x4, C.list x7]) [.bool, .bool] fun r13 =>
  let x13 := (getC r13 0).toBool
  let x14 := (getC r13 1).toBool
  callD (φ_bq [C.bool x0, C.list x1, C.int .i64 x2, C.list x3, C.int .i64 7, C.int .i64 x4, C.list x7]) [.bool, .bool] fun r15 =>
  let x15 := (getC r15 0).toBool
  let x16 := (getC r15 1).toBool
  callD (φ_br [C.bool x0, C.list x1, C.int .i64 x2, C.list x3, C.bool true]) [.list] fun r17 =>
  let x17 := (getC r17 0).toList
  callD (φ_dp [C.list x17, C.int .i64 x4]) [(.int .i64)] fun r18 =>
  let x18 := (getC r18 0).toInt
  let x19 : Bool := ((x18 : Int) == x8)
  joinD (
    let x20 : Bool := ((x8 : Int) == 1)
    iteD x20 (
      some (.jump [C.bool x9])) <|
    some (.jump [C.bool false])) fun ps => J_az_1 x0 x1 x2 x3 x4 x8 x12 x14 x16 x19 ((getC ps 0).toBool)
def t_cf : Tree :=
.letp .not [vB 0] <|
.ite (.v 8) (
  .ret [vB 0, vL 1, vI 2, vL 3]) <|
.call 0 [vI 4, vI 5, vI 6, vI 7] [.bool] <|
.letp .not [vB 9] <|
.ite (.v 10) (
  .ret [vB 0, vL 1, vI 2, vL 3]) <|
.call 1 [vI 4, vI 5, vI 6, vI 7] [.bool] <|
.letp .not [vB 11] <|
.ite (.v 12) (
  .ret [vB 0, vL 1, vI 2, vL 3]) <|
.call 2 [vB 0, vL 1, vI 2, vL 3, ⟨.bool, (.b false)⟩] [.list] <|
.letp .len [vL 13] <|
.letp .gtI [vI 6, vI 14] <|
.ite (.v 15) (
  .ret [vB 0, vL 1, vI 2, vL 3]) <|
.call 3 [vL 3, vI 4, vI 5, vI 6, vI 7] [.bool] <|
.letp .not [vB 16] <|
.ite (.v 17) (
  .letp (.mkl 4) [vI 4, vI 5, vI 6, vI 7] <|
  .chk .fits [vL 3, vL 18] <|
  .letp .app [vL 3, vL 18] <|
  .call 4 [vB 0, vL 1, vI 2, vL 19, vI 6] [.bool, .list, kI, .list] <|
  .ret [vB 20, vL 21, vI 22, vL 23]) <|
.call 4 [vB 0, vL 1, vI 2, vL 3, vI 6] [.bool, .list, kI, .list] <|
.ret [vB 18, vL 19, vI 20, vL 21]
noncomputable def Φ_cf : Phi := ph [φ_ew, φ_bc, φ_br, φ_ap, φ_az]
noncomputable def φ_cf := mir Φ_cf t_cf
noncomputable def F_cf (x0 : Bool) (x1 : LL) (x2 : Int) (x3 : LL) (x4 : Int) (x5 : Int) (x6 : Int) (x7 : Int) : Option Out :=
  let x8 : Bool := (!x0)
  iteD x8 (
    some (.ret [C.bool x0, C.list x1, C.int .i64 x2, C.list x3])) <|
  callD (φ_ew [C.int .i64 x4, C.int .i64 x5, C.int .i64 x6, C.int .i64 x7]) [.bool] fun r9 =>
  let x9 := (getC r9 0).toBool
  let x10 : Bool := (!x9)
  iteD x10 (
    some (.ret [C.bool x0, C.list x1, C.int .i64 x2, C.list x3])) <|
  callD (φ_bc [C.int .i64 x4, C.int .i64 x5, C.int .i64 x6, C.int .i64 x7]) [.bool] fun r11 =>
  let x11 := (getC r11 0).toBool
  let x12 : Bool := (!x11)
  iteD x12 (
    some (.ret [C.bool x0, C.list x1, C.int .i64 x2, C.list x3])) <|
  callD (φ_br [C.bool x0, C.list x1, C.int .i64 x2, C.list x3, C.bool false]) [.list] fun r13 =>
  let x13 := (getC r13 0).toList
  let x14 : Int := ((x13.length : Nat) : Int)
  let x15 : Bool := decide ((x6 : Int) > x14)
  iteD x15 (
    some (.ret [C.bool x0, C.list x1, C.int .i64 x2, C.list x3])) <|
  callD (φ_ap [C.list x3, C.int .i64 x4, C.int .i64 x5, C.int .i64 x6, C.int .i64 x7]) [.bool] fun r16 =>
  let x16 := (getC r16 0).toBool
  let x17 : Bool := (!x16)
  iteD x17 (
    let x18 : LL := [[C.int .i64 x4, C.int .i64 x5, C.int .i64 x6, C.int .i64 x7]]
    whenD (decide (x3.length + x18.length ≤ LMAX)) <|
    let x19 : LL := (x3 ++ x18)
    callD (φ_az [C.bool x0, C.list x1, C.int .i64 x2, C.list x19, C.int .i64 x6]) [.bool, .list, (.int .i64), .list] fun r20 =>
    let x20 := (getC r20 0).toBool
    let x21 := (getC r20 1).toList
    let x22 := (getC r20 2).toInt
    let x23 := (getC r20 3).toList
    some (.ret [C.bool x20, C.list x21, C.int .i64 x22, C.list x23])) <|
  callD (φ_az [C.bool x0, C.list x1, C.int .i64 x2, C.list x3, C.int .i64 x6]) [.bool, .list, (.int .i64), .list] fun r18 =>
  let x18 := (getC r18 0).toBool
  let x19 := (getC r18 1).toList
  let x20 := (getC r18 2).toInt
  let x21 := (getC r18 3).toList
  some (.ret [C.bool x18, C.list x19, C.int .i64 x20, C.list x21])
def t_co : Tree :=
.call 0 [vI 0, nI 0, nI 9] [.bool] <|
.letp .not [vB 1] <|
.ite (.v 2) (
  .ret [nI 0, ⟨.list, .e⟩, ⟨.bool, (.b false)⟩]) <|
.letp .rep [nI 6, nI 0, nI 0] <|
.ret [vI 0, vL 3, ⟨.bool, (.b true)⟩]
noncomputable def Φ_co : Phi := ph [φ_fn]
noncomputable def φ_co := mir Φ_co t_co
noncomputable def F_co (x0 : Int) : Option Out :=
  callD (φ_fn [C.int .i64 x0, C.int .i64 0, C.int .i64 9]) [.bool] fun r1 =>
  let x1 := (getC r1 0).toBool
  let x2 : Bool := (!x1)
  iteD x2 (
    some (.ret [C.int .i64 0, C.list ([] : LL), C.bool false])) <|
  let x3 : LL := (List.replicate (Int.toNat 6) [C.int .i64 0, C.int .i64 0])
  some (.ret [C.int .i64 x0, C.list x3, C.bool true])
def t_dt : Tree :=
.letp .eqI [vI 1, nI 0] <|
.ite (.v 2) (
  .letp .eqI [vI 0, nI 0] <|
  .ret [vB 3]) <|
.letp .eqI [vI 1, nI 1] <|
.ite (.v 3) (
  .call 0 [vI 0, nI 1, nI 3] [.bool] <|
  .ret [vB 4]) <|
.letp .eqI [vI 1, nI 2] <|
.ite (.v 4) (
  .call 0 [vI 0, nI 1, nI 3] [.bool] <|
  .ret [vB 5]) <|
.letp .eqI [vI 1, nI 3] <|
.ite (.v 5) (
  .call 0 [vI 0, nI 0, nI 3] [.bool] <|
  .ret [vB 6]) <|
.ret [⟨.bool, (.b false)⟩]
noncomputable def Φ_dt : Phi := ph [φ_fn]
noncomputable def φ_dt := mir Φ_dt t_dt
noncomputable def F_dt (x0 : Int) (x1 : Int) : Option Out :=
  let x2 : Bool := ((x1 : Int) == 0)
  iteD x2 (
    let x3 : Bool := ((x0 : Int) == 0)
    some (.ret [C.bool x3])) <|
  let x3 : Bool := ((x1 : Int) == 1)
  iteD x3 (
    callD (φ_fn [C.int .i64 x0, C.int .i64 1, C.int .i64 3]) [.bool] fun r4 =>
    let x4 := (getC r4 0).toBool
    some (.ret [C.bool x4])) <|
  let x4 : Bool := ((x1 : Int) == 2)
  iteD x4 (
    callD (φ_fn [C.int .i64 x0, C.int .i64 1, C.int .i64 3]) [.bool] fun r5 =>
    let x5 := (getC r5 0).toBool
    some (.ret [C.bool x5])) <|
  let x5 : Bool := ((x1 : Int) == 3)
  iteD x5 (
    callD (φ_fn [C.int .i64 x0, C.int .i64 0, C.int .i64 3]) [.bool] fun r6 =>
    let x6 := (getC r6 0).toBool
    some (.ret [C.bool x6])) <|
  some (.ret [C.bool false])
def t_ck : Tree :=
.call 0 [vI 0, vI 1] [.bool] <|
.letp .not [vB 2] <|
.ret [vB 3]
noncomputable def Φ_ck : Phi := ph [φ_dt]
noncomputable def φ_ck := mir Φ_ck t_ck
noncomputable def F_ck (x0 : Int) (x1 : Int) : Option Out :=
  callD (φ_dt [C.int .i64 x0, C.int .i64 x1]) [.bool] fun r2 =>
  let x2 := (getC r2 0).toBool
  let x3 : Bool := (!x2)
  some (.ret [C.bool x3])
def t_ai : Tree :=
.letp .len [vL 0] <|
.iter [nI 0] <|
.letp .ltI [vI 2, vI 1] <|
.ite (.v 3) (
  .row (.v 0) (.v 2) [kI, kI] <|
  .call 0 [vI 4, vI 5] [.bool] <|
  .ite (.v 6) (
    .up <|
    .ret [vI 2]) <|
  .letp (.add .i64) [vI 2, nI 1] <|
  .jump [vI 7]) <|
.up <|
.ret [⟨kI, (.n (-1))⟩]
noncomputable def Φ_ai : Phi := ph [φ_ck]
noncomputable def φ_ai := mir Φ_ai t_ai
noncomputable def L_ai_0 (x0 : LL) (x1 : Int) (x2 : Int) : Option Out :=
  let x3 : Bool := decide ((x2 : Int) < x1)
  iteD x3 (
    rowD (.list x0) (.int .i64 x2) [(.int .i64), (.int .i64)] fun r4 =>
    let x4 := (getC r4 0).toInt
    let x5 := (getC r4 1).toInt
    callD (φ_ck [C.int .i64 x4, C.int .i64 x5]) [.bool] fun r6 =>
    let x6 := (getC r6 0).toBool
    iteD x6 (
      upD <|
      some (.ret [C.int .i64 x2])) <|
    let x7 : Int := IntKind.wrap .i64 (x2 + 1)
    some (.jump [C.int .i64 x7])) <|
  upD <|
  some (.ret [C.int .i64 (-1)])
noncomputable def F_ai (x0 : LL) : Option Out :=
  let x1 : Int := ((x0.length : Nat) : Int)
  iterD (fun ps => L_ai_0 x0 x1 ((getC ps 0).toInt)) [C.int .i64 0]
def t_ae : Tree :=
.call 0 [vL 0] [kI] <|
.letp .geI [vI 1, nI 0] <|
.ret [vB 2]
noncomputable def Φ_ae : Phi := ph [φ_ai]
noncomputable def φ_ae := mir Φ_ae t_ae
noncomputable def F_ae (x0 : LL) : Option Out :=
  callD (φ_ai [C.list x0]) [(.int .i64)] fun r1 =>
  let x1 := (getC r1 0).toInt
  let x2 : Bool := decide ((x1 : Int) ≥ 0)
  some (.ret [C.bool x2])
def t_bn : Tree :=
.letp .len [vL 1] <|
.iter [vI 0, nI 0] <|
.letp .ltI [vI 4, vI 2] <|
.ite (.v 5) (
  .row (.v 1) (.v 4) [kI, kI] <|
  .letp .eqI [vI 7, nI 1] <|
  .ite (.v 8) (
    .letp (.sub .i64) [vI 3, vI 6] <|
    .letp (.add .i64) [vI 4, nI 1] <|
    .jump [vI 9, vI 10]) <|
  .letp .eqI [vI 7, nI 2] <|
  .ite (.v 9) (
    .letp (.sub .i64) [vI 3, vI 6] <|
    .letp (.add .i64) [vI 4, nI 1] <|
    .jump [vI 10, vI 11]) <|
  .letp (.add .i64) [vI 4, nI 1] <|
  .jump [vI 3, vI 10]) <|
.up <|
.ret [vI 3]
noncomputable def φ_bn := mir (ph []) t_bn
noncomputable def L_bn_0 (x1 : LL) (x2 : Int) (x3 : Int) (x4 : Int) : Option Out :=
  let x5 : Bool := decide ((x4 : Int) < x2)
  iteD x5 (
    rowD (.list x1) (.int .i64 x4) [(.int .i64), (.int .i64)] fun r6 =>
    let x6 := (getC r6 0).toInt
    let x7 := (getC r6 1).toInt
    let x8 : Bool := ((x7 : Int) == 1)
    iteD x8 (
      let x9 : Int := IntKind.wrap .i64 (x3 - x6)
      let x10 : Int := IntKind.wrap .i64 (x4 + 1)
      some (.jump [C.int .i64 x9, C.int .i64 x10])) <|
    let x9 : Bool := ((x7 : Int) == 2)
    iteD x9 (
      let x10 : Int := IntKind.wrap .i64 (x3 - x6)
      let x11 : Int := IntKind.wrap .i64 (x4 + 1)
      some (.jump [C.int .i64 x10, C.int .i64 x11])) <|
    let x10 : Int := IntKind.wrap .i64 (x4 + 1)
    some (.jump [C.int .i64 x3, C.int .i64 x10])) <|
  upD <|
  some (.ret [C.int .i64 x3])
noncomputable def F_bn (x0 : Int) (x1 : LL) : Option Out :=
  let x2 : Int := ((x1.length : Nat) : Int)
  iterD (fun ps => L_bn_0 x1 x2 ((getC ps 0).toInt) ((getC ps 1).toInt)) [C.int .i64 x0, C.int .i64 0]
def t_dv : Tree :=
.call 0 [vI 0, nI 0, nI 9] [.bool] <|
.ite (.v 2) (
  .letp .len [vL 1] <|
  .letp .eqI [vI 3, nI 6] <|
  .ite (.v 4) (
    .call 1 [vL 1] [.bool] <|
    .letp .not [vB 5] <|
    .ite (.v 6) (
      .call 2 [vI 0, vL 1] [kI] <|
      .letp .geI [vI 7, nI 0] <|
      .ret [vB 8]) <|
    .ret [⟨.bool, (.b false)⟩]) <|
  .ret [⟨.bool, (.b false)⟩]) <|
.ret [⟨.bool, (.b false)⟩]
noncomputable def Φ_dv : Phi := ph [φ_fn, φ_ae, φ_bn]
noncomputable def φ_dv := mir Φ_dv t_dv
noncomputable def F_dv (x0 : Int) (x1 : LL) : Option Out :=
  callD (φ_fn [C.int .i64 x0, C.int .i64 0, C.int .i64 9]) [.bool] fun r2 =>
  let x2 := (getC r2 0).toBool
  iteD x2 (
    let x3 : Int := ((x1.length : Nat) : Int)
    let x4 : Bool := ((x3 : Int) == 6)
    iteD x4 (
      callD (φ_ae [C.list x1]) [.bool] fun r5 =>
      let x5 := (getC r5 0).toBool
      let x6 : Bool := (!x5)
      iteD x6 (
        callD (φ_bn [C.int .i64 x0, C.list x1]) [(.int .i64)] fun r7 =>
        let x7 := (getC r7 0).toInt
        let x8 : Bool := decide ((x7 : Int) ≥ 0)
        some (.ret [C.bool x8])) <|
      some (.ret [C.bool false])) <|
    some (.ret [C.bool false])) <|
  some (.ret [C.bool false])
def t_ct : Tree :=
.call 0 [vI 0, vL 1] [.bool] <|
.letp .not [vB 5] <|
.ite (.v 6) (
  .ret [⟨.bool, (.b false)⟩]) <|
.call 1 [vI 2, vI 3, vL 4] [.bool] <|
.letp .not [vB 7] <|
.ite (.v 8) (
  .ret [⟨.bool, (.b false)⟩]) <|
.letp (.sub .i64) [vI 3, nI 1] <|
.row (.v 1) (.v 9) [kI, kI] <|
.letp .eqI [vI 2, nI 1] <|
.ite (.v 12) (
  .letp .eqI [vI 11, nI 0] <|
  .ite (.v 13) (
    .row (.v 4) (.n 0) [kI] <|
    .call 2 [vI 0, vL 1] [kI] <|
    .letp .leI [vI 14, vI 15] <|
    .ret [vB 16]) <|
  .ret [⟨.bool, (.b false)⟩]) <|
.letp .eqI [vI 2, nI 2] <|
.ite (.v 13) (
  .letp .eqI [vI 11, nI 1] <|
  .ret [vB 14]) <|
.letp .eqI [vI 2, nI 3] <|
.ite (.v 14) (
  .letp .eqI [vI 11, nI 1] <|
  .ite (.v 15) (
    .ret [⟨.bool, (.b true)⟩]) <|
  .letp .eqI [vI 11, nI 0] <|
  .ret [vB 16]) <|
.ret [⟨.bool, (.b false)⟩]
noncomputable def Φ_ct : Phi := ph [φ_dv, φ_fk, φ_bn]
noncomputable def φ_ct := mir Φ_ct t_ct
noncomputable def F_ct (x0 : Int) (x1 : LL) (x2 : Int) (x3 : Int) (x4 : LL) : Option Out :=
  callD (φ_dv [C.int .i64 x0, C.list x1]) [.bool] fun r5 =>
  let x5 := (getC r5 0).toBool
  let x6 : Bool := (!x5)
  iteD x6 (
    some (.ret [C.bool false])) <|
  callD (φ_fk [C.int .i64 x2, C.int .i64 x3, C.list x4]) [.bool] fun r7 =>
  let x7 := (getC r7 0).toBool
  let x8 : Bool := (!x7)
  iteD x8 (
    some (.ret [C.bool false])) <|
  let x9 : Int := IntKind.wrap .i64 (x3 - 1)
  rowD (.list x1) (.int .i64 x9) [(.int .i64), (.int .i64)] fun r10 =>
  let x10 := (getC r10 0).toInt
  let x11 := (getC r10 1).toInt
  let x12 : Bool := ((x2 : Int) == 1)
  iteD x12 (
    let x13 : Bool := ((x11 : Int) == 0)
    iteD x13 (
      rowD (.list x4) (.int .i64 0) [(.int .i64)] fun r14 =>
      let x14 := (getC r14 0).toInt
      callD (φ_bn [C.int .i64 x0, C.list x1]) [(.int .i64)] fun r15 =>
      let x15 := (getC r15 0).toInt
      let x16 : Bool := decide ((x14 : Int) ≤ x15)
      some (.ret [C.bool x16])) <|
    some (.ret [C.bool false])) <|
  let x13 : Bool := ((x2 : Int) == 2)
  iteD x13 (
    let x14 : Bool := ((x11 : Int) == 1)
    some (.ret [C.bool x14])) <|
  let x14 : Bool := ((x2 : Int) == 3)
  iteD x14 (
    let x15 : Bool := ((x11 : Int) == 1)
    iteD x15 (
      some (.ret [C.bool true])) <|
    let x16 : Bool := ((x11 : Int) == 0)
    some (.ret [C.bool x16])) <|
  some (.ret [C.bool false])
def t_as : Tree :=
.letp .isNil [vL 0] <|
.ite (.v 1) (
  .both (
    .ret [⟨.list, .e⟩]) <|
  .chk (.rowsk [kI, kI]) [vL 0] <|
  .chk .fits [⟨.list, .e⟩, vL 0] <|
  .letp .app [⟨.list, .e⟩, vL 0] <|
  .ret [vL 2]) <|
.chk (.rowsk [kI, kI]) [vL 0] <|
.chk .fits [⟨.list, .e⟩, vL 0] <|
.letp .app [⟨.list, .e⟩, vL 0] <|
.ret [vL 2]
noncomputable def φ_as := mir (ph []) t_as
noncomputable def F_as (x0 : LL) : Option Out :=
  let x1 : Bool := x0.isEmpty
  iteD x1 (
    bothD (
      some (.ret [C.list ([] : LL)])) <|
    whenD ((x0.all (kindsB [(.int .i64), (.int .i64)]))) <|
    whenD (decide (([] : LL).length + x0.length ≤ LMAX)) <|
    let x2 : LL := (([] : LL) ++ x0)
    some (.ret [C.list x2])) <|
  whenD ((x0.all (kindsB [(.int .i64), (.int .i64)]))) <|
  whenD (decide (([] : LL).length + x0.length ≤ LMAX)) <|
  let x2 : LL := (([] : LL) ++ x0)
  some (.ret [C.list x2])
def t_dn : Tree :=
.call 0 [vI 0, vL 1, vI 2, vI 3, vL 4] [.bool] <|
.letp .not [vB 5] <|
.ite (.v 6) (
  .ret [nI 0, ⟨.list, .e⟩, ⟨.bool, (.b false)⟩]) <|
.join [.list] (
  .call 1 [vL 1] [.list] <|
  .jump [vL 7]) <|
.letp (.sub .i64) [vI 3, nI 1] <|
.chk .idx [vI 8, vL 7] <|
.letp .eqI [vI 2, nI 1] <|
.ite (.v 9) (
  .row (.v 4) (.n 0) [kI] <|
  .letp (.setr 0) [vL 7, vI 8, vI 10, nI 1] <|
  .ret [vI 0, vL 11, ⟨.bool, (.b true)⟩]) <|
.letp .eqI [vI 2, nI 2] <|
.ite (.v 10) (
  .letp (.setr 1) [vL 7, vI 8, nI 2] <|
  .ret [vI 0, vL 11, ⟨.bool, (.b true)⟩]) <|
.letp .eqI [vI 2, nI 3] <|
.ite (.v 11) (
  .letp (.setr 1) [vL 7, vI 8, nI 3] <|
  .ret [vI 0, vL 12, ⟨.bool, (.b true)⟩]) <|
.ret [vI 0, vL 7, ⟨.bool, (.b true)⟩]
noncomputable def Φ_dn : Phi := ph [φ_ct, φ_as]
noncomputable def φ_dn := mir Φ_dn t_dn
noncomputable def J_dn_0 (x0 : Int) (x2 : Int) (x3 : Int) (x4 : LL) (x7 : LL) : Option Out :=
  let x8 : Int := IntKind.wrap .i64 (x3 - 1)
  whenD ((decide ((0 : Int) ≤ x8) && decide ((x8 : Int) < (x7.length : Nat)))) <|
  let x9 : Bool := ((x2 : Int) == 1)
  iteD x9 (
    rowD (.list x4) (.int .i64 0) [(.int .i64)] fun r10 =>
    let x10 := (getC r10 0).toInt
    let x11 : LL := (setRow 0 x7 (Int.toNat x8) [C.int .i64 x10, C.int .i64 1])
    some (.ret [C.int .i64 x0, C.list x11, C.bool true])) <|
  let x10 : Bool := ((x2 : Int) == 2)
  iteD x10 (
    let x11 : LL := (setRow 1 x7 (Int.toNat x8) [C.int .i64 2])
    some (.ret [C.int .i64 x0, C.list x11, C.bool true])) <|
  let x11 : Bool := ((x2 : Int) == 3)
  iteD x11 (
    let x12 : LL := (setRow 1 x7 (Int.toNat x8) [C.int .i64 3])
    some (.ret [C.int .i64 x0, C.list x12, C.bool true])) <|
  some (.ret [C.int .i64 x0, C.list x7, C.bool true])
noncomputable def F_dn (x0 : Int) (x1 : LL) (x2 : Int) (x3 : Int) (x4 : LL) : Option Out :=
  callD (φ_ct [C.int .i64 x0, C.list x1, C.int .i64 x2, C.int .i64 x3, C.list x4]) [.bool] fun r5 =>
  let x5 := (getC r5 0).toBool
  let x6 : Bool := (!x5)
  iteD x6 (
    some (.ret [C.int .i64 0, C.list ([] : LL), C.bool false])) <|
  joinD (
    callD (φ_as [C.list x1]) [.list] fun r7 =>
    let x7 := (getC r7 0).toList
    some (.jump [C.list x7])) fun ps => J_dn_0 x0 x2 x3 x4 ((getC ps 0).toList)
def t_ef : Tree :=
.call 0 [vI 0] [kI, .list, .bool] <|
.iter [vB 4, nI 0, vI 2, vL 3] <|
.ite (.v 5) (
  .letp .len [vL 1] <|
  .letp .ltI [vI 6, vI 9] <|
  .ite (.v 10) (
    .row (.v 1) (.v 6) [kI, kI, .list] <|
    .call 1 [vI 7, vL 8, vI 11, vI 12, vL 13] [kI, .list, .bool] <|
    .letp (.add .i64) [vI 6, nI 1] <|
    .jump [vB 16, vI 17, vI 14, vL 15]) <|
  .up <|
  .ret [vI 7, vL 8, vB 5]) <|
.up <|
.ret [vI 7, vL 8, vB 5]
noncomputable def Φ_ef : Phi := ph [φ_co, φ_dn]
noncomputable def φ_ef := mir Φ_ef t_ef
noncomputable def L_ef_0 (x1 : LL) (x5 : Bool) (x6 : Int) (x7 : Int) (x8 : LL) : Option Out :=
  iteD x5 (
    let x9 : Int := ((x1.length : Nat) : Int)
    let x10 : Bool := decide ((x6 : Int) < x9)
    iteD x10 (
      rowD (.list x1) (.int .i64 x6) [(.int .i64), (.int .i64), .list] fun r11 =>
      let x11 := (getC r11 0).toInt
      let x12 := (getC r11 1).toInt
      let x13 := (getC r11 2).toList
      callD (φ_dn [C.int .i64 x7, C.list x8, C.int .i64 x11, C.int .i64 x12, C.list x13]) [(.int .i64), .list, .bool] fun r14 =>
      let x14 := (getC r14 0).toInt
      let x15 := (getC r14 1).toList
      let x16 := (getC r14 2).toBool
      let x17 : Int := IntKind.wrap .i64 (x6 + 1)
      some (.jump [C.bool x16, C.int .i64 x17, C.int .i64 x14, C.list x15])) <|
    upD <|
    some (.ret [C.int .i64 x7, C.list x8, C.bool x5])) <|
  upD <|
  some (.ret [C.int .i64 x7, C.list x8, C.bool x5])
noncomputable def F_ef (x0 : Int) (x1 : LL) : Option Out :=
  callD (φ_co [C.int .i64 x0]) [(.int .i64), .list, .bool] fun r2 =>
  let x2 := (getC r2 0).toInt
  let x3 := (getC r2 1).toList
  let x4 := (getC r2 2).toBool
  iterD (fun ps => L_ef_0 x1 ((getC ps 0).toBool) ((getC ps 1).toInt) ((getC ps 2).toInt) ((getC ps 3).toList)) [C.bool x4, C.int .i64 0, C.int .i64 x2, C.list x3]
def t_dy : Tree :=
.call 0 [vI 0] [.bool] <|
.letp .not [vB 5] <|
.ite (.v 6) (
  .ret [⟨.bool, (.b false)⟩]) <|
.call 1 [vL 3, vI 4] [.bool] <|
.letp .not [vB 7] <|
.ite (.v 8) (
  .ret [⟨.bool, (.b false)⟩]) <|
.call 2 [vI 2, vL 3] [kI, .list, .bool] <|
.ret [vB 11]
noncomputable def Φ_dy : Phi := ph [φ_dh, φ_fh, φ_ef]
noncomputable def φ_dy := mir Φ_dy t_dy
noncomputable def F_dy (x0 : Int) (x1 : Bool) (x2 : Int) (x3 : LL) (x4 : Int) : Option Out :=
  callD (φ_dh [C.int .i64 x0]) [.bool] fun r5 =>
  let x5 := (getC r5 0).toBool
  let x6 : Bool := (!x5)
  iteD x6 (
    some (.ret [C.bool false])) <|
  callD (φ_fh [C.list x3, C.int .i64 x4]) [.bool] fun r7 =>
  let x7 := (getC r7 0).toBool
  let x8 : Bool := (!x7)
  iteD x8 (
    some (.ret [C.bool false])) <|
  callD (φ_ef [C.int .i64 x2, C.list x3]) [(.int .i64), .list, .bool] fun r9 =>
  let x9 := (getC r9 0).toInt
  let x10 := (getC r9 1).toList
  let x11 := (getC r9 2).toBool
  some (.ret [C.bool x11])
def t_ax : Tree :=
.call 0 [vL 3, vI 4] [.list, kI] <|
.ret [vI 0, vB 1, vI 2, vL 5, vI 6]
noncomputable def Φ_ax : Phi := ph [φ_bp]
noncomputable def φ_ax := mir Φ_ax t_ax
noncomputable def F_ax (x0 : Int) (x1 : Bool) (x2 : Int) (x3 : LL) (x4 : Int) : Option Out :=
  callD (φ_bp [C.list x3, C.int .i64 x4]) [.list, (.int .i64)] fun r5 =>
  let x5 := (getC r5 0).toList
  let x6 := (getC r5 1).toInt
  some (.ret [C.int .i64 x0, C.bool x1, C.int .i64 x2, C.list x5, C.int .i64 x6])
def t_ay : Tree :=
.call 0 [vL 3, vI 4, vB 5] [.list] <|
.call 1 [vI 2, vL 6] [kI, .list, .bool] <|
.ret [vI 7, vL 8]
noncomputable def Φ_ay : Phi := ph [φ_cb, φ_ef]
noncomputable def φ_ay := mir Φ_ay t_ay
noncomputable def F_ay (x0 : Int) (x1 : Bool) (x2 : Int) (x3 : LL) (x4 : Int) (x5 : Bool) : Option Out :=
  callD (φ_cb [C.list x3, C.int .i64 x4, C.bool x5]) [.list] fun r6 =>
  let x6 := (getC r6 0).toList
  callD (φ_ef [C.int .i64 x2, C.list x6]) [(.int .i64), .list, .bool] fun r7 =>
  let x7 := (getC r7 0).toInt
  let x8 := (getC r7 1).toList
  let x9 := (getC r7 2).toBool
  some (.ret [C.int .i64 x7, C.list x8])
def t_au : Tree :=
.letp (.sub .i64) [vI 7, nI 1] <|
.letp (.sub .i64) [vI 7, nI 1] <|
.call 0 [vI 0, vB 1, vI 2, vL 3, vI 4, ⟨.bool, (.b false)⟩] [kI, .list] <|
.row (.v 12) (.v 9) [kI, kI] <|
.call 0 [vI 0, vB 1, vI 2, vL 3, vI 4, ⟨.bool, (.b true)⟩] [kI, .list] <|
.row (.v 16) (.v 10) [kI, kI] <|
.join [.bool] (
  .letp .eqI [vI 5, nI 1] <|
  .ite (.v 19) (
    .letp .eqI [vI 14, nI 0] <|
    .jump [vB 20]) <|
  .jump [⟨.bool, (.b false)⟩]) <|
.ite (.v 19) (
  .ret [nI 5]) <|
.join [.bool] (
  .letp .eqI [vI 5, nI 1] <|
  .ite (.v 20) (
    .letp .eqI [vI 18, nI 1] <|
    .ite (.v 21) (
      .jump [⟨.bool, (.b true)⟩]) <|
    .letp .eqI [vI 18, nI 2] <|
    .jump [vB 22]) <|
  .jump [⟨.bool, (.b false)⟩]) <|
.ite (.v 20) (
  .ret [nI 4]) <|
.letp .eqI [vI 5, nI 1] <|
.ite (.v 21) (
  .letp .eqI [vI 18, nI 3] <|
  .ite (.v 22) (
    .ret [nI 5]) <|
  .letp .eqI [vI 5, nI 2] <|
  .ite (.v 23) (
    .letp .eqI [vI 18, nI 2] <|
    .ite (.v 24) (
      .ret [nI 6]) <|
    .letp .eqI [vI 5, nI 3] <|
    .ite (.v 25) (
      .letp .eqI [vI 18, nI 3] <|
      .ite (.v 26) (
        .ret [nI 7]) <|
      .ret [nI 0]) <|
    .ret [nI 0]) <|
  .letp .eqI [vI 5, nI 3] <|
  .ite (.v 24) (
    .letp .eqI [vI 18, nI 3] <|
    .ite (.v 25) (
      .ret [nI 7]) <|
    .ret [nI 0]) <|
  .ret [nI 0]) <|
.letp .eqI [vI 5, nI 2] <|
.ite (.v 22) (
  .letp .eqI [vI 18, nI 2] <|
  .ite (.v 23) (
    .ret [nI 6]) <|
  .letp .eqI [vI 5, nI 3] <|
  .ite (.v 24) (
    .letp .eqI [vI 18, nI 3] <|
    .ite (.v 25) (
      .ret [nI 7]) <|
    .ret [nI 0]) <|
  .ret [nI 0]) <|
.letp .eqI [vI 5, nI 3] <|
.ite (.v 23) (
  .letp .eqI [vI 18, nI 3] <|
  .ite (.v 24) (
    .ret [nI 7]) <|
  .ret [nI 0]) <|
.ret [nI 0]
noncomputable def Φ_au : Phi := ph [φ_ay]
noncomputable def φ_au := mir Φ_au t_au
noncomputable def J_au_0 (x5 : Int) (x18 : Int) (x20 : Bool) : Option Out :=
  iteD x20 (
    some (.ret [C.int .i64 4])) <|
  let x21 : Bool := ((x5 : Int) == 1)
  iteD x21 (
    let x22 : Bool := ((x18 : Int) == 3)
    iteD x22 (
      some (.ret [C.int .i64 5])) <|
    let x23 : Bool := ((x5 : Int) == 2)
    iteD x23 (
      let x24 : Bool := ((x18 : Int) == 2)
      iteD x24 (
        some (.ret [C.int .i64 6])) <|
      let x25 : Bool := ((x5 : Int) == 3)
      iteD x25 (
        let x26 : Bool := ((x18 : Int) == 3)
        iteD x26 (
          some (.ret [C.int .i64 7])) <|
        some (.ret [C.int .i64 0])) <|
      some (.ret [C.int .i64 0])) <|
    let x24 : Bool := ((x5 : Int) == 3)
    iteD x24 (
      let x25 : Bool := ((x18 : Int) == 3)
      iteD x25 (
        some (.ret [C.int .i64 7])) <|
      some (.ret [C.int .i64 0])) <|
    some (.ret [C.int .i64 0])) <|
  let x22 : Bool := ((x5 : Int) == 2)
  iteD x22 (
    let x23 : Bool := ((x18 : Int) == 2)
    iteD x23 (
      some (.ret [C.int .i64 6])) <|
    let x24 : Bool := ((x5 : Int) == 3)
    iteD x24 (
      let x25 : Bool := ((x18 : Int) == 3)
      iteD x25 (
        some (.ret [C.int .i64 7])) <|
      some (.ret [C.int .i64 0])) <|
    some (.ret [C.int .i64 0])) <|
  let x23 : Bool := ((x5 : Int) == 3)
  iteD x23 (
    let x24 : Bool := ((x18 : Int) == 3)
    iteD x24 (
      some (.ret [C.int .i64 7])) <|
    some (.ret [C.int .i64 0])) <|
  some (.ret [C.int .i64 0])
noncomputable def J_au_1 (x5 : Int) (x18 : Int) (x19 : Bool) : Option Out :=
  iteD x19 (
    some (.ret [C.int .i64 5])) <|
  joinD (
    let x20 : Bool := ((x5 : Int) == 1)
    iteD x20 (
      let x21 : Bool := ((x18 : Int) == 1)
      iteD x21 (
        some (.jump [C.bool true])) <|
      let x22 : Bool := ((x18 : Int) == 2)
      some (.jump [C.bool x22])) <|
    some (.jump [C.bool false])) fun ps => J_au_0 x5 x18 ((getC ps 0).toBool)
noncomputable def F_au (x0 : Int) (x1 : Bool) (x2 : Int) (x3 : LL) (x4 : Int) (x5 : Int) (x6 : Int) (x7 : Int) (x8 : Int) : Option Out :=
  let x9 : Int := IntKind.wrap .i64 (x7 - 1)
  let x10 : Int := IntKind.wrap .i64 (x7 - 1)
  callD (φ_ay [C.int .i64 x0, C.bool x1, C.int .i64 x2, C.list x3, C.int .i64 x4, C.bool false]) [(.int .i64), .list] fun r11 =>
  let x11 := (getC r11 0).toInt
  let x12 := (getC r11 1).toList
  rowD (.list x12) (.int .i64 x9) [(.int .i64), (.int .i64)] fun r13 =>
  let x13 := (getC r13 0).toInt
  let x14 := (getC r13 1).toInt
  callD (φ_ay [C.int .i64 x0, C.bool x1, C.int .i64 x2, C.list x3, C.int .i64 x4, C.bool true]) [(.int .i64), .list] fun r15 =>
  let x15 := (getC r15 0).toInt
  let x16 := (getC r15 1).toList
  rowD (.list x16) (.int .i64 x10) [(.int .i64), (.int .i64)] fun r17 =>
  let x17 := (getC r17 0).toInt
  let x18 := (getC r17 1).toInt
  joinD (
    let x19 : Bool := ((x5 : Int) == 1)
    iteD x19 (
      let x20 : Bool := ((x14 : Int) == 0)
      some (.jump [C.bool x20])) <|
    some (.jump [C.bool false])) fun ps => J_au_1 x5 x18 ((getC ps 0).toBool)
def t_ci : Tree :=
.call 0 [vI 0, vB 1, vI 2, vL 3, vI 4] [.bool] <|
.letp .not [vB 9] <|
.ite (.v 10) (
  .ret [nI 0, ⟨.bool, (.b false)⟩, nI 0, ⟨.list, .e⟩, nI 0, nI 0, nI 0, nI 0, nI 0, ⟨.bool, (.b false)⟩]) <|
.call 1 [vI 0, vB 1, vI 2, vL 3, vI 4] [kI, .bool, kI, .list, kI] <|
.letp .not [vB 12] <|
.ite (.v 16) (
  .ret [vI 11, vB 12, vI 13, vL 14, vI 15, nI 0, nI 0, nI 0, nI 0, ⟨.bool, (.b false)⟩]) <|
.call 2 [vI 5, vI 6, vI 7, vI 8] [.bool] <|
.letp .not [vB 17] <|
.ite (.v 18) (
  .ret [vI 11, vB 12, vI 13, vL 14, vI 15, nI 0, nI 0, nI 0, nI 0, ⟨.bool, (.b false)⟩]) <|
.call 3 [vI 5, vI 6, vI 7, vI 8] [.bool] <|
.ite (.v 19) (
  .ret [vI 11, vB 12, vI 13, vL 14, vI 15, nI 0, nI 0, nI 0, nI 0, ⟨.bool, (.b false)⟩]) <|
.letp .neI [vI 6, vI 11] <|
.ite (.v 20) (
  .ret [vI 11, vB 12, vI 13, vL 14, vI 15, nI 0, nI 0, nI 0, nI 0, ⟨.bool, (.b false)⟩]) <|
.join [.list] (
  .letp .eqI [vI 5, nI 1] <|
  .ite (.v 21) (
    .letp (.mkl 1) [vI 8] <|
    .jump [vL 22]) <|
  .jump [⟨.list, .e⟩]) <|
.call 4 [vI 11, vB 12, vI 13, vL 14, vI 15, ⟨.bool, (.b false)⟩] [kI, .list] <|
.call 5 [vI 22, vL 23, vI 5, vI 7, vL 21] [.bool] <|
.ite (.v 24) (
  .call 6 [vL 14, vI 15, vI 5, vI 7, vL 21] [.list, kI, .bool] <|
  .ret [vI 11, vB 12, vI 13, vL 25, vI 26, nI 0, nI 0, nI 0, nI 0, ⟨.bool, (.b false)⟩]) <|
.call 7 [vI 11, vB 12, vI 13, vL 14, vI 15, vI 5, vI 6, vI 7, vI 8] [kI] <|
.letp .eqI [vI 25, nI 0] <|
.ite (.v 26) (
  .ret [vI 11, vB 12, vI 13, vL 14, vI 15, nI 0, nI 0, nI 0, nI 0, ⟨.bool, (.b false)⟩]) <|
.ret [vI 11, vB 12, vI 13, vL 14, vI 15, vI 25, vI 11, vI 7, nI 0, ⟨.bool, (.b true)⟩]
noncomputable def Φ_ci : Phi := ph [φ_dy, φ_ax, φ_ew, φ_bc, φ_ay, φ_ct, φ_er, φ_au]
noncomputable def φ_ci := mir Φ_ci t_ci
noncomputable def J_ci_0 (x5 : Int) (x6 : Int) (x7 : Int) (x8 : Int) (x11 : Int) (x12 : Bool) (x13 : Int) (x14 : LL) (x15 : Int) (x21 : LL) : Option Out :=
  callD (φ_ay [C.int .i64 x11, C.bool x12, C.int .i64 x13, C.list x14, C.int .i64 x15, C.bool false]) [(.int .i64), .list] fun r22 =>
  let x22 := (getC r22 0).toInt
  let x23 := (getC r22 1).toList
  callD (φ_ct [C.int .i64 x22, C.list x23, C.int .i64 x5, C.int .i64 x7, C.list x21]) [.bool] fun r24 =>
  let x24 := (getC r24 0).toBool
  iteD x24 (
    callD (φ_er [C.list x14, C.int .i64 x15, C.int .i64 x5, C.int .i64 x7, C.list x21]) [.list, (.int .i64), .bool] fun r25 =>
    let x25 := (getC r25 0).toList
    let x26 := (getC r25 1).toInt
    let x27 := (getC r25 2).toBool
    some (.ret [C.int .i64 x11, C.bool x12, C.int .i64 x13, C.list x25, C.int .i64 x26, C.int .i64 0, C.int .i64 0, C.int .i64 0, C.int .i64 0, C.bool false])) <|
  callD (φ_au [C.int .i64 x11, C.bool x12, C.int .i64 x13, C.list x14, C.int .i64 x15, C.int .i64 x5, C.int .i64 x6, C.int .i64 x7, C.int .i64 x8]) [(.int .i64)] fun r25 =>
  let x25 := (getC r25 0).toInt
  let x26 : Bool := ((x25 : Int) == 0)
  iteD x26 (
    some (.ret [C.int .i64 x11, C.bool x12, C.int .i64 x13, C.list x14, C.int .i64 x15, C.int .i64 0, C.int .i64 0, C.int .i64 0, C.int .i64 0, C.bool false])) <|
  some (.ret [C.int .i64 x11, C.bool x12, C.int .i64 x13, C.list x14, C.int .i64 x15, C.int .i64 x25, C.int .i64 x11, C.int .i64 x7, C.int .i64 0, C.bool true])
noncomputable def F_ci (x0 : Int) (x1 : Bool) (x2 : Int) (x3 : LL) (x4 : Int) (x5 : Int) (x6 : Int) (x7 : Int) (x8 : Int) : Option Out :=
  callD (φ_dy [C.int .i64 x0, C.bool x1, C.int .i64 x2, C.list x3, C.int .i64 x4]) [.bool] fun r9 =>
  let x9 := (getC r9 0).toBool
  let x10 : Bool := (!x9)
  iteD x10 (
    some (.ret [C.int .i64 0, C.bool false, C.int .i64 0, C.list ([] : LL), C.int .i64 0, C.int .i64 0, C.int .i64 0, C.int .i64 0, C.int .i64 0, C.bool false])) <|
  callD (φ_ax [C.int .i64 x0, C.bool x1, C.int .i64 x2, C.list x3, C.int .i64 x4]) [(.int .i64), .bool, (.int .i64), .list, (.int .i64)] fun r11 =>
  let x11 := (getC r11 0).toInt
  let x12 := (getC r11 1).toBool
  let x13 := (getC r11 2).toInt
  let x14 := (getC r11 3).toList
  let x15 := (getC r11 4).toInt
  let x16 : Bool := (!x12)
  iteD x16 (
    some (.ret [C.int .i64 x11, C.bool x12, C.int .i64 x13, C.list x14, C.int .i64 x15, C.int .i64 0, C.int .i64 0, C.int .i64 0, C.int .i64 0, C.bool false])) <|
  callD (φ_ew [C.int .i64 x5, C.int .i64 x6, C.int .i64 x7, C.int .i64 x8]) [.bool] fun r17 =>
  let x17 := (getC r17 0).toBool
  let x18 : Bool := (!x17)
  iteD x18 (
    some (.ret [C.int .i64 x11, C.bool x12, C.int .i64 x13, C.list x14, C.int .i64 x15, C.int .i64 0, C.int .i64 0, C.int .i64 0, C.int .i64 0, C.bool false])) <|
  callD (φ_bc [C.int .i64 x5, C.int .i64 x6, C.int .i64 x7, C.int .i64 x8]) [.bool] fun r19 =>
  let x19 := (getC r19 0).toBool
  iteD x19 (
    some (.ret [C.int .i64 x11, C.bool x12, C.int .i64 x13, C.list x14, C.int .i64 x15, C.int .i64 0, C.int .i64 0, C.int .i64 0, C.int .i64 0, C.bool false])) <|
  let x20 : Bool := ((x6 : Int) != x11)
  iteD x20 (
    some (.ret [C.int .i64 x11, C.bool x12, C.int .i64 x13, C.list x14, C.int .i64 x15, C.int .i64 0, C.int .i64 0, C.int .i64 0, C.int .i64 0, C.bool false])) <|
  joinD (
    let x21 : Bool := ((x5 : Int) == 1)
    iteD x21 (
      let x22 : LL := [[C.int .i64 x8]]
      some (.jump [C.list x22])) <|
    some (.jump [C.list ([] : LL)])) fun ps => J_ci_0 x5 x6 x7 x8 x11 x12 x13 x14 x15 ((getC ps 0).toList)
def t_ba : Tree :=
.call 0 [vI 6, vI 7, vI 8, vI 9] [.bool] <|
.ite (.v 10) (
  .call 1 [vB 0, vL 1, vI 2, vL 3, vI 6, vI 7, vI 8, vI 9] [.bool, .list, kI, .list] <|
  .ret [nI 0, nI 0, nI 0, nI 0, ⟨.bool, (.b false)⟩, vB 11, vL 12, vI 13, vL 14, vL 4, vL 5]) <|
.letp (.sub .i64) [vI 7, nI 1] <|
.chk .idx [vI 11, vL 4] <|
.row (.v 4) (.v 11) [kI, .bool, kI, .list, kI] <|
.call 2 [vI 12, vB 13, vI 14, vL 15, vI 16, vI 6, vI 7, vI 8, vI 9] [kI, .bool, kI, .list, kI, kI, kI, kI, kI, .bool] <|
.letp (.sub .i64) [vI 7, nI 1] <|
.chk .idx [vI 27, vL 4] <|
.letp (.setr 0) [vL 4, vI 27, vI 17, vB 18, vI 19, vL 20, vI 21] <|
.ret [vI 22, vI 23, vI 24, vI 25, vB 26, vB 0, vL 1, vI 2, vL 3, vL 28, vL 5]
noncomputable def Φ_ba : Phi := ph [φ_bc, φ_cf, φ_ci]
noncomputable def φ_ba := mir Φ_ba t_ba
noncomputable def F_ba (x0 : Bool) (x1 : LL) (x2 : Int) (x3 : LL) (x4 : LL) (x5 : LL) (x6 : Int) (x7 : Int) (x8 : Int) (x9 : Int) : Option Out :=
  callD (φ_bc [C.int .i64 x6, C.int .i64 x7, C.int .i64 x8, C.int .i64 x9]) [.bool] fun r10 =>
  let x10 := (getC r10 0).toBool
  iteD x10 (
    callD (φ_cf [C.bool x0, C.list x1, C.int .i64 x2, C.list x3, C.int .i64 x6, C.int .i64 x7, C.int .i64 x8, C.int .i64 x9]) [.bool, .list, (.int .i64), .list] fun r11 =>
    let x11 := (getC r11 0).toBool
    let x12 := (getC r11 1).toList
    let x13 := (getC r11 2).toInt
    let x14 := (getC r11 3).toList
    some (.ret [C.int .i64 0, C.int .i64 0, C.int .i64 0, C.int .i64 0, C.bool false, C.bool x11, C.list x12, C.int .i64 x13, C.list x14, C.list x4, C.list x5])) <|
  let x11 : Int := IntKind.wrap .i64 (x7 - 1)
  whenD ((decide ((0 : Int) ≤ x11) && decide ((x11 : Int) < (x4.length : Nat)))) <|
  rowD (.list x4) (.int .i64 x11) [(.int .i64), .bool, (.int .i64), .list, (.int .i64)] fun r12 =>
  let x12 := (getC r12 0).toInt
  let x13 := (getC r12 1).toBool
  let x14 := (getC r12 2).toInt
  let x15 := (getC r12 3).toList
  let x16 := (getC r12 4).toInt
  callD (φ_ci [C.int .i64 x12, C.bool x13, C.int .i64 x14, C.list x15, C.int .i64 x16, C.int .i64 x6, C.int .i64 x7, C.int .i64 x8, C.int .i64 x9]) [(.int .i64), .bool, (.int .i64), .list, (.int .i64), (.int .i64), (.int .i64), (.int .i64), (.int .i64), .bool] fun r17 =>
  let x17 := (getC r17 0).toInt
  let x18 := (getC r17 1).toBool
  let x19 := (getC r17 2).toInt
  let x20 := (getC r17 3).toList
  let x21 := (getC r17 4).toInt
  let x22 := (getC r17 5).toInt
  let x23 := (getC r17 6).toInt
  let x24 := (getC r17 7).toInt
  let x25 := (getC r17 8).toInt
  let x26 := (getC r17 9).toBool
  let x27 : Int := IntKind.wrap .i64 (x7 - 1)
  whenD ((decide ((0 : Int) ≤ x27) && decide ((x27 : Int) < (x4.length : Nat)))) <|
  let x28 : LL := (setRow 0 x4 (Int.toNat x27) [C.int .i64 x17, C.bool x18, C.int .i64 x19, C.list x20, C.int .i64 x21])
  some (.ret [C.int .i64 x22, C.int .i64 x23, C.int .i64 x24, C.int .i64 x25, C.bool x26, C.bool x0, C.list x1, C.int .i64 x2, C.list x3, C.list x28, C.list x5])
def t_cl : Tree :=
.letp .len [vL 5] <|
.letp (.sub .i64) [vI 10, nI 1] <|
.call 0 [vI 7, nI 0, vI 11] [.bool] <|
.letp .not [vB 12] <|
.ite (.v 13) (
  .ret [vB 0, vL 1, vI 2, vL 3, vL 4, vL 5]) <|
.join [kI, kI, kI, kI] (
  .chk .idx [vI 7, vL 5] <|
  .row (.v 5) (.v 7) [kI, kI, kI, kI] <|
  .jump [vI 14, vI 15, vI 16, vI 17]) <|
.letp .eqI [vI 6, nI 6] <|
.ite (.v 18) (
  .call 1 [vB 0, vL 1, vI 2, vL 3, vL 4, vL 5, vI 14, vI 15, vI 16, vI 17] [.bool, .list, kI, .list, .list, .list] <|
  .ret [vB 19, vL 20, vI 21, vL 22, vL 23, vL 24]) <|
.letp (.add .i64) [vI 7, nI 1] <|
.call 2 [vL 5, vI 7, vI 19] [.list] <|
.letp .neI [vI 6, nI 4] <|
.ite (.v 21) (
  .ret [vB 0, vL 1, vI 2, vL 3, vL 4, vL 20]) <|
.call 3 [vB 0, vL 1, vI 2, vL 3, vL 4, vL 20, vI 14, vI 15, vI 16, vI 17] [kI, kI, kI, kI, .bool, .bool, .list, kI, .list, .list, .list] <|
.ite (.v 26) (
  .call 1 [vB 27, vL 28, vI 29, vL 30, vL 31, vL 32, vI 22, vI 23, vI 24, vI 25] [.bool, .list, kI, .list, .list, .list] <|
  .ret [vB 33, vL 34, vI 35, vL 36, vL 37, vL 38]) <|
.ret [vB 27, vL 28, vI 29, vL 30, vL 31, vL 32]
noncomputable def Φ_cl : Phi := ph [φ_fn, φ_bm, φ_aq, φ_ba]
noncomputable def φ_cl := mir Φ_cl t_cl
noncomputable def J_cl_0 (x0 : Bool) (x1 : LL) (x2 : Int) (x3 : LL) (x4 : LL) (x5 : LL) (x6 : Int) (x7 : Int) (x14 : Int) (x15 : Int) (x16 : Int) (x17 : Int) : Option Out :=
  let x18 : Bool := ((x6 : Int) == 6)
  iteD x18 (
    callD (φ_bm [C.bool x0, C.list x1, C.int .i64 x2, C.list x3, C.list x4, C.list x5, C.int .i64 x14, C.int .i64 x15, C.int .i64 x16, C.int .i64 x17]) [.bool, .list, (.int .i64), .list, .list, .list] fun r19 =>
    let x19 := (getC r19 0).toBool
    let x20 := (getC r19 1).toList
    let x21 := (getC r19 2).toInt
    let x22 := (getC r19 3).toList
    let x23 := (getC r19 4).toList
    let x24 := (getC r19 5).toList
    some (.ret [C.bool x19, C.list x20, C.int .i64 x21, C.list x22, C.list x23, C.list x24])) <|
  let x19 : Int := IntKind.wrap .i64 (x7 + 1)
  callD (φ_aq [C.list x5, C.int .i64 x7, C.int .i64 x19]) [.list] fun r20 =>
  let x20 := (getC r20 0).toList
  let x21 : Bool := ((x6 : Int) != 4)
  iteD x21 (
    some (.ret [C.bool x0, C.list x1, C.int .i64 x2, C.list x3, C.list x4, C.list x20])) <|
  callD (φ_ba [C.bool x0, C.list x1, C.int .i64 x2, C.list x3, C.list x4, C.list x20, C.int .i64 x14, C.int .i64 x15, C.int .i64 x16, C.int .i64 x17]) [(.int .i64), (.int .i64), (.int .i64), (.int .i64), .bool, .bool, .list, (.int .i64), .list, .list, .list] fun r22 =>
  let x22 := (getC r22 0).toInt
  let x23 := (getC r22 1).toInt
  let x24 := (getC r22 2).toInt
  let x25 := (getC r22 3).toInt
  let x26 := (getC r22 4).toBool
  let x27 := (getC r22 5).toBool
  let x28 := (getC r22 6).toList
  let x29 := (getC r22 7).toInt
  let x30 := (getC r22 8).toList
  let x31 := (getC r22 9).toList
  let x32 := (getC r22 10).toList
  iteD x26 (
    callD (φ_bm [C.bool x27, C.list x28, C.int .i64 x29, C.list x30, C.list x31, C.list x32, C.int .i64 x22, C.int .i64 x23, C.int .i64 x24, C.int .i64 x25]) [.bool, .list, (.int .i64), .list, .list, .list] fun r33 =>
    let x33 := (getC r33 0).toBool
    let x34 := (getC r33 1).toList
    let x35 := (getC r33 2).toInt
    let x36 := (getC r33 3).toList
    let x37 := (getC r33 4).toList
    let x38 := (getC r33 5).toList
    some (.ret [C.bool x33, C.list x34, C.int .i64 x35, C.list x36, C.list x37, C.list x38])) <|
  some (.ret [C.bool x27, C.list x28, C.int .i64 x29, C.list x30, C.list x31, C.list x32])
noncomputable def F_cl (x0 : Bool) (x1 : LL) (x2 : Int) (x3 : LL) (x4 : LL) (x5 : LL) (x6 : Int) (x7 : Int) (x8 : Int) (x9 : LL) : Option Out :=
  let x10 : Int := ((x5.length : Nat) : Int)
  let x11 : Int := IntKind.wrap .i64 (x10 - 1)
  callD (φ_fn [C.int .i64 x7, C.int .i64 0, C.int .i64 x11]) [.bool] fun r12 =>
  let x12 := (getC r12 0).toBool
  let x13 : Bool := (!x12)
  iteD x13 (
    some (.ret [C.bool x0, C.list x1, C.int .i64 x2, C.list x3, C.list x4, C.list x5])) <|
  joinD (
    whenD ((decide ((0 : Int) ≤ x7) && decide ((x7 : Int) < (x5.length : Nat)))) <|
    rowD (.list x5) (.int .i64 x7) [(.int .i64), (.int .i64), (.int .i64), (.int .i64)] fun r14 =>
    let x14 := (getC r14 0).toInt
    let x15 := (getC r14 1).toInt
    let x16 := (getC r14 2).toInt
    let x17 := (getC r14 3).toInt
    some (.jump [C.int .i64 x14, C.int .i64 x15, C.int .i64 x16, C.int .i64 x17])) fun ps => J_cl_0 x0 x1 x2 x3 x4 x5 x6 x7 ((getC ps 0).toInt) ((getC ps 1).toInt) ((getC ps 2).toInt) ((getC ps 3).toInt)
def t_cv : Tree :=
.call 0 [vL 0, vI 1] [.bool] <|
.letp .not [vB 2] <|
.ite (.v 3) (
  .ret [⟨.list, .e⟩, nI 0]) <|
.letp .len [vL 0] <|
.letp .len [vL 0] <|
.call 1 [vL 0, vI 1, vI 4, vI 5] [.list, kI] <|
.ret [vL 6, vI 7]
noncomputable def Φ_cv : Phi := ph [φ_fh, φ_cg]
noncomputable def φ_cv := mir Φ_cv t_cv
noncomputable def F_cv (x0 : LL) (x1 : Int) : Option Out :=
  callD (φ_fh [C.list x0, C.int .i64 x1]) [.bool] fun r2 =>
  let x2 := (getC r2 0).toBool
  let x3 : Bool := (!x2)
  iteD x3 (
    some (.ret [C.list ([] : LL), C.int .i64 0])) <|
  let x4 : Int := ((x0.length : Nat) : Int)
  let x5 : Int := ((x0.length : Nat) : Int)
  callD (φ_cg [C.list x0, C.int .i64 x1, C.int .i64 x4, C.int .i64 x5]) [.list, (.int .i64)] fun r6 =>
  let x6 := (getC r6 0).toList
  let x7 := (getC r6 1).toInt
  some (.ret [C.list x6, C.int .i64 x7])
def t_bw : Tree :=
.call 0 [vB 0, vL 1, vI 2, vL 3] [.bool] <|
.letp .not [vB 4] <|
.ite (.v 5) (
  .ret [⟨.bool, (.b false)⟩, ⟨.list, .e⟩, nI 0, ⟨.list, .e⟩]) <|
.call 1 [vB 0, vL 1, vI 2, vL 3] [.bool, .list, kI, .list] <|
.ite (.v 6) (
  .call 2 [vL 7, vI 8] [.list, kI] <|
  .ret [vB 6, vL 10, vI 11, vL 9]) <|
.ret [vB 6, vL 7, vI 8, vL 9]
noncomputable def Φ_bw : Phi := ph [φ_ez, φ_bd, φ_cv]
noncomputable def φ_bw := mir Φ_bw t_bw
noncomputable def F_bw (x0 : Bool) (x1 : LL) (x2 : Int) (x3 : LL) : Option Out :=
  callD (φ_ez [C.bool x0, C.list x1, C.int .i64 x2, C.list x3]) [.bool] fun r4 =>
  let x4 := (getC r4 0).toBool
  let x5 : Bool := (!x4)
  iteD x5 (
    some (.ret [C.bool false, C.list ([] : LL), C.int .i64 0, C.list ([] : LL)])) <|
  callD (φ_bd [C.bool x0, C.list x1, C.int .i64 x2, C.list x3]) [.bool, .list, (.int .i64), .list] fun r6 =>
  let x6 := (getC r6 0).toBool
  let x7 := (getC r6 1).toList
  let x8 := (getC r6 2).toInt
  let x9 := (getC r6 3).toList
  iteD x6 (
    callD (φ_cv [C.list x7, C.int .i64 x8]) [.list, (.int .i64)] fun r10 =>
    let x10 := (getC r10 0).toList
    let x11 := (getC r10 1).toInt
    some (.ret [C.bool x6, C.list x10, C.int .i64 x11, C.list x9])) <|
  some (.ret [C.bool x6, C.list x7, C.int .i64 x8, C.list x9])
def t_bo : Tree :=
.call 0 [vI 0, vB 1, vI 2, vL 3, vI 4] [.bool] <|
.letp .not [vB 5] <|
.ite (.v 6) (
  .ret [nI 0, ⟨.bool, (.b false)⟩, nI 0, ⟨.list, .e⟩, nI 0]) <|
.call 1 [vI 0, vB 1, vI 2, vL 3, vI 4] [kI, .bool, kI, .list, kI] <|
.ite (.v 8) (
  .call 2 [vL 10, vI 11] [.list, kI] <|
  .ret [vI 7, vB 8, vI 9, vL 12, vI 13]) <|
.ret [vI 7, vB 8, vI 9, vL 10, vI 11]
noncomputable def Φ_bo : Phi := ph [φ_dy, φ_ax, φ_cv]
noncomputable def φ_bo := mir Φ_bo t_bo
noncomputable def F_bo (x0 : Int) (x1 : Bool) (x2 : Int) (x3 : LL) (x4 : Int) : Option Out :=
  callD (φ_dy [C.int .i64 x0, C.bool x1, C.int .i64 x2, C.list x3, C.int .i64 x4]) [.bool] fun r5 =>
  let x5 := (getC r5 0).toBool
  let x6 : Bool := (!x5)
  iteD x6 (
    some (.ret [C.int .i64 0, C.bool false, C.int .i64 0, C.list ([] : LL), C.int .i64 0])) <|
  callD (φ_ax [C.int .i64 x0, C.bool x1, C.int .i64 x2, C.list x3, C.int .i64 x4]) [(.int .i64), .bool, (.int .i64), .list, (.int .i64)] fun r7 =>
  let x7 := (getC r7 0).toInt
  let x8 := (getC r7 1).toBool
  let x9 := (getC r7 2).toInt
  let x10 := (getC r7 3).toList
  let x11 := (getC r7 4).toInt
  iteD x8 (
    callD (φ_cv [C.list x10, C.int .i64 x11]) [.list, (.int .i64)] fun r12 =>
    let x12 := (getC r12 0).toList
    let x13 := (getC r12 1).toInt
    some (.ret [C.int .i64 x7, C.bool x8, C.int .i64 x9, C.list x12, C.int .i64 x13])) <|
  some (.ret [C.int .i64 x7, C.bool x8, C.int .i64 x9, C.list x10, C.int .i64 x11])
def t_ab : Tree :=
.letp .eqI [vI 6, nI 0] <|
.ite (.v 7) (
  .call 1 [vB 0, vL 1, vI 2, vL 3] [.bool, .list, kI, .list] <|
  .ret [vB 8, vL 9, vI 10, vL 11, vL 4, vL 5]) <|
.call 0 [vI 6] [.bool] <|
.ite (.v 8) (
  .letp (.sub .i64) [vI 6, nI 1] <|
  .letp (.sub .i64) [vI 6, nI 1] <|
  .chk .idx [vI 10, vL 4] <|
  .row (.v 4) (.v 10) [kI, .bool, kI, .list, kI] <|
  .call 2 [vI 11, vB 12, vI 13, vL 14, vI 15] [kI, .bool, kI, .list, kI] <|
  .chk .idx [vI 9, vL 4] <|
  .letp (.setr 0) [vL 4, vI 9, vI 16, vB 17, vI 18, vL 19, vI 20] <|
  .ret [vB 0, vL 1, vI 2, vL 3, vL 21, vL 5]) <|
.ret [vB 0, vL 1, vI 2, vL 3, vL 4, vL 5]
noncomputable def Φ_ab : Phi := ph [φ_dh, φ_bw, φ_bo]
noncomputable def φ_ab := mir Φ_ab t_ab
noncomputable def F_ab (x0 : Bool) (x1 : LL) (x2 : Int) (x3 : LL) (x4 : LL) (x5 : LL) (x6 : Int) : Option Out :=
  let x7 : Bool := ((x6 : Int) == 0)
  iteD x7 (
    callD (φ_bw [C.bool x0, C.list x1, C.int .i64 x2, C.list x3]) [.bool, .list, (.int .i64), .list] fun r8 =>
    let x8 := (getC r8 0).toBool
    let x9 := (getC r8 1).toList
    let x10 := (getC r8 2).toInt
    let x11 := (getC r8 3).toList
    some (.ret [C.bool x8, C.list x9, C.int .i64 x10, C.list x11, C.list x4, C.list x5])) <|
  callD (φ_dh [C.int .i64 x6]) [.bool] fun r8 =>
  let x8 := (getC r8 0).toBool
  iteD x8 (
    let x9 : Int := IntKind.wrap .i64 (x6 - 1)
    let x10 : Int := IntKind.wrap .i64 (x6 - 1)
    whenD ((decide ((0 : Int) ≤ x10) && decide ((x10 : Int) < (x4.length : Nat)))) <|
    rowD (.list x4) (.int .i64 x10) [(.int .i64), .bool, (.int .i64), .list, (.int .i64)] fun r11 =>
    let x11 := (getC r11 0).toInt
    let x12 := (getC r11 1).toBool
    let x13 := (getC r11 2).toInt
    let x14 := (getC r11 3).toList
    let x15 := (getC r11 4).toInt
    callD (φ_bo [C.int .i64 x11, C.bool x12, C.int .i64 x13, C.list x14, C.int .i64 x15]) [(.int .i64), .bool, (.int .i64), .list, (.int .i64)] fun r16 =>
    let x16 := (getC r16 0).toInt
    let x17 := (getC r16 1).toBool
    let x18 := (getC r16 2).toInt
    let x19 := (getC r16 3).toList
    let x20 := (getC r16 4).toInt
    whenD ((decide ((0 : Int) ≤ x9) && decide ((x9 : Int) < (x4.length : Nat)))) <|
    let x21 : LL := (setRow 0 x4 (Int.toNat x9) [C.int .i64 x16, C.bool x17, C.int .i64 x18, C.list x19, C.int .i64 x20])
    some (.ret [C.bool x0, C.list x1, C.int .i64 x2, C.list x3, C.list x21, C.list x5])) <|
  some (.ret [C.bool x0, C.list x1, C.int .i64 x2, C.list x3, C.list x4, C.list x5])
def t_ed : Tree :=
.call 0 [vL 0, vI 1] [.bool] <|
.letp .not [vB 3] <|
.ite (.v 4) (
  .ret [⟨.list, .e⟩, nI 0]) <|
.letp .len [vL 0] <|
.letp (.sub .i64) [vI 5, vI 1] <|
.letp (.min .i64) [vI 2, vI 6] <|
.letp (.max .i64) [vI 7, nI 0] <|
.letp (.add .i64) [vI 1, vI 8] <|
.call 1 [vL 0, vI 1, vI 9, vI 9] [.list, kI] <|
.ret [vL 10, vI 11]
noncomputable def Φ_ed : Phi := ph [φ_fh, φ_cg]
noncomputable def φ_ed := mir Φ_ed t_ed
noncomputable def F_ed (x0 : LL) (x1 : Int) (x2 : Int) : Option Out :=
  callD (φ_fh [C.list x0, C.int .i64 x1]) [.bool] fun r3 =>
  let x3 := (getC r3 0).toBool
  let x4 : Bool := (!x3)
  iteD x4 (
    some (.ret [C.list ([] : LL), C.int .i64 0])) <|
  let x5 : Int := ((x0.length : Nat) : Int)
  let x6 : Int := IntKind.wrap .i64 (x5 - x1)
  let x7 : Int := (if (x6 : Int) < x2 then x6 else x2)
  let x8 : Int := (if (0 : Int) > x7 then 0 else x7)
  let x9 : Int := IntKind.wrap .i64 (x1 + x8)
  callD (φ_cg [C.list x0, C.int .i64 x1, C.int .i64 x9, C.int .i64 x9]) [.list, (.int .i64)] fun r10 =>
  let x10 := (getC r10 0).toList
  let x11 := (getC r10 1).toInt
  some (.ret [C.list x10, C.int .i64 x11])
def t_cq : Tree :=
.call 0 [vB 0, vL 1, vI 2, vL 3] [.bool] <|
.letp .not [vB 5] <|
.ite (.v 6) (
  .ret [⟨.bool, (.b false)⟩, ⟨.list, .e⟩, nI 0, ⟨.list, .e⟩]) <|
.call 1 [vL 1, vI 2, vI 4] [.list, kI] <|
.ret [⟨.bool, (.b false)⟩, vL 7, vI 8, ⟨.list, .e⟩]
noncomputable def Φ_cq : Phi := ph [φ_ez, φ_ed]
noncomputable def φ_cq := mir Φ_cq t_cq
noncomputable def F_cq (x0 : Bool) (x1 : LL) (x2 : Int) (x3 : LL) (x4 : Int) : Option Out :=
  callD (φ_ez [C.bool x0, C.list x1, C.int .i64 x2, C.list x3]) [.bool] fun r5 =>
  let x5 := (getC r5 0).toBool
  let x6 : Bool := (!x5)
  iteD x6 (
    some (.ret [C.bool false, C.list ([] : LL), C.int .i64 0, C.list ([] : LL)])) <|
  callD (φ_ed [C.list x1, C.int .i64 x2, C.int .i64 x4]) [.list, (.int .i64)] fun r7 =>
  let x7 := (getC r7 0).toList
  let x8 := (getC r7 1).toInt
  some (.ret [C.bool false, C.list x7, C.int .i64 x8, C.list ([] : LL)])
def t_bi : Tree :=
.call 0 [vB 0, vL 1, vI 2, vL 3, vI 6] [.bool, .list, kI, .list] <|
.ret [vB 8, vL 9, vI 10, vL 11]
noncomputable def Φ_bi : Phi := ph [φ_cq]
noncomputable def φ_bi := mir Φ_bi t_bi
noncomputable def F_bi (x0 : Bool) (x1 : LL) (x2 : Int) (x3 : LL) (x4 : Int) (x5 : Int) (x6 : Int) (x7 : LL) : Option Out :=
  callD (φ_cq [C.bool x0, C.list x1, C.int .i64 x2, C.list x3, C.int .i64 x6]) [.bool, .list, (.int .i64), .list] fun r8 =>
  let x8 := (getC r8 0).toBool
  let x9 := (getC r8 1).toList
  let x10 := (getC r8 2).toInt
  let x11 := (getC r8 3).toList
  some (.ret [C.bool x8, C.list x9, C.int .i64 x10, C.list x11])
def t_bv : Tree :=
.call 0 [vI 0, vB 1, vI 2, vL 3, vI 4] [.bool] <|
.letp .not [vB 6] <|
.ite (.v 7) (
  .ret [nI 0, ⟨.bool, (.b false)⟩, nI 0, ⟨.list, .e⟩, nI 0]) <|
.call 1 [vL 3, vI 4, vI 5] [.list, kI] <|
.ret [vI 0, ⟨.bool, (.b false)⟩, vI 2, vL 8, vI 9]
noncomputable def Φ_bv : Phi := ph [φ_dy, φ_ed]
noncomputable def φ_bv := mir Φ_bv t_bv
noncomputable def F_bv (x0 : Int) (x1 : Bool) (x2 : Int) (x3 : LL) (x4 : Int) (x5 : Int) : Option Out :=
  callD (φ_dy [C.int .i64 x0, C.bool x1, C.int .i64 x2, C.list x3, C.int .i64 x4]) [.bool] fun r6 =>
  let x6 := (getC r6 0).toBool
  let x7 : Bool := (!x6)
  iteD x7 (
    some (.ret [C.int .i64 0, C.bool false, C.int .i64 0, C.list ([] : LL), C.int .i64 0])) <|
  callD (φ_ed [C.list x3, C.int .i64 x4, C.int .i64 x5]) [.list, (.int .i64)] fun r8 =>
  let x8 := (getC r8 0).toList
  let x9 := (getC r8 1).toInt
  some (.ret [C.int .i64 x0, C.bool false, C.int .i64 x2, C.list x8, C.int .i64 x9])
def t_bk : Tree :=
.call 0 [vI 0, vB 1, vI 2, vL 3, vI 4, vI 7] [kI, .bool, kI, .list, kI] <|
.ret [vI 9, vB 10, vI 11, vL 12, vI 13]
noncomputable def Φ_bk : Phi := ph [φ_bv]
noncomputable def φ_bk := mir Φ_bk t_bk
noncomputable def F_bk (x0 : Int) (x1 : Bool) (x2 : Int) (x3 : LL) (x4 : Int) (x5 : Int) (x6 : Int) (x7 : Int) (x8 : LL) : Option Out :=
  callD (φ_bv [C.int .i64 x0, C.bool x1, C.int .i64 x2, C.list x3, C.int .i64 x4, C.int .i64 x7]) [(.int .i64), .bool, (.int .i64), .list, (.int .i64)] fun r9 =>
  let x9 := (getC r9 0).toInt
  let x10 := (getC r9 1).toBool
  let x11 := (getC r9 2).toInt
  let x12 := (getC r9 3).toList
  let x13 := (getC r9 4).toInt
  some (.ret [C.int .i64 x9, C.bool x10, C.int .i64 x11, C.list x12, C.int .i64 x13])
def t_aa : Tree :=
.letp .eqI [vI 6, nI 0] <|
.ite (.v 15) (
  .call 1 [vB 0, vL 1, vI 2, vL 3, vI 7, vI 8, vI 9, vL 10] [.bool, .list, kI, .list] <|
  .ret [vB 16, vL 17, vI 18, vL 19, vL 4, vL 5]) <|
.call 0 [vI 6] [.bool] <|
.ite (.v 16) (
  .letp (.sub .i64) [vI 6, nI 1] <|
  .letp (.sub .i64) [vI 6, nI 1] <|
  .chk .idx [vI 18, vL 4] <|
  .row (.v 4) (.v 18) [kI, .bool, kI, .list, kI] <|
  .call 2 [vI 19, vB 20, vI 21, vL 22, vI 23, vI 11, vI 12, vI 13, vL 14] [kI, .bool, kI, .list, kI] <|
  .chk .idx [vI 17, vL 4] <|
  .letp (.setr 0) [vL 4, vI 17, vI 24, vB 25, vI 26, vL 27, vI 28] <|
  .ret [vB 0, vL 1, vI 2, vL 3, vL 29, vL 5]) <|
.ret [vB 0, vL 1, vI 2, vL 3, vL 4, vL 5]
noncomputable def Φ_aa : Phi := ph [φ_dh, φ_bi, φ_bk]
noncomputable def φ_aa := mir Φ_aa t_aa
noncomputable def F_aa (x0 : Bool) (x1 : LL) (x2 : Int) (x3 : LL) (x4 : LL) (x5 : LL) (x6 : Int) (x7 : Int) (x8 : Int) (x9 : Int) (x10 : LL) (x11 : Int) (x12 : Int) (x13 : Int) (x14 : LL) : Option Out :=
  let x15 : Bool := ((x6 : Int) == 0)
  iteD x15 (
    callD (φ_bi [C.bool x0, C.list x1, C.int .i64 x2, C.list x3, C.int .i64 x7, C.int .i64 x8, C.int .i64 x9, C.list x10]) [.bool, .list, (.int .i64), .list] fun r16 =>
    let x16 := (getC r16 0).toBool
    let x17 := (getC r16 1).toList
    let x18 := (getC r16 2).toInt
    let x19 := (getC r16 3).toList
    some (.ret [C.bool x16, C.list x17, C.int .i64 x18, C.list x19, C.list x4, C.list x5])) <|
  callD (φ_dh [C.int .i64 x6]) [.bool] fun r16 =>
  let x16 := (getC r16 0).toBool
  iteD x16 (
    let x17 : Int := IntKind.wrap .i64 (x6 - 1)
    let x18 : Int := IntKind.wrap .i64 (x6 - 1)
    whenD ((decide ((0 : Int) ≤ x18) && decide ((x18 : Int) < (x4.length : Nat)))) <|
    rowD (.list x4) (.int .i64 x18) [(.int .i64), .bool, (.int .i64), .list, (.int .i64)] fun r19 =>
    let x19 := (getC r19 0).toInt
    let x20 := (getC r19 1).toBool
    let x21 := (getC r19 2).toInt
    let x22 := (getC r19 3).toList
    let x23 := (getC r19 4).toInt
    callD (φ_bk [C.int .i64 x19, C.bool x20, C.int .i64 x21, C.list x22, C.int .i64 x23, C.int .i64 x11, C.int .i64 x12, C.int .i64 x13, C.list x14]) [(.int .i64), .bool, (.int .i64), .list, (.int .i64)] fun r24 =>
    let x24 := (getC r24 0).toInt
    let x25 := (getC r24 1).toBool
    let x26 := (getC r24 2).toInt
    let x27 := (getC r24 3).toList
    let x28 := (getC r24 4).toInt
    whenD ((decide ((0 : Int) ≤ x17) && decide ((x17 : Int) < (x4.length : Nat)))) <|
    let x29 : LL := (setRow 0 x4 (Int.toNat x17) [C.int .i64 x24, C.bool x25, C.int .i64 x26, C.list x27, C.int .i64 x28])
    some (.ret [C.bool x0, C.list x1, C.int .i64 x2, C.list x3, C.list x29, C.list x5])) <|
  some (.ret [C.bool x0, C.list x1, C.int .i64 x2, C.list x3, C.list x4, C.list x5])
def t_dc : Tree :=
.call 0 [vB 0, vL 1, vI 2, vL 3] [.bool] <|
.letp .not [vB 4] <|
.ite (.v 5) (
  .ret [⟨.bool, (.b false)⟩, ⟨.list, .e⟩, nI 0, ⟨.list, .e⟩]) <|
.call 1 [vB 0, vL 1, vI 2, vL 3] [.bool, .list, kI, .list] <|
.ret [⟨.bool, (.b true)⟩, vL 7, vI 8, vL 9]
noncomputable def Φ_dc : Phi := ph [φ_ez, φ_bd]
noncomputable def φ_dc := mir Φ_dc t_dc
noncomputable def F_dc (x0 : Bool) (x1 : LL) (x2 : Int) (x3 : LL) : Option Out :=
  callD (φ_ez [C.bool x0, C.list x1, C.int .i64 x2, C.list x3]) [.bool] fun r4 =>
  let x4 := (getC r4 0).toBool
  let x5 : Bool := (!x4)
  iteD x5 (
    some (.ret [C.bool false, C.list ([] : LL), C.int .i64 0, C.list ([] : LL)])) <|
  callD (φ_bd [C.bool x0, C.list x1, C.int .i64 x2, C.list x3]) [.bool, .list, (.int .i64), .list] fun r6 =>
  let x6 := (getC r6 0).toBool
  let x7 := (getC r6 1).toList
  let x8 := (getC r6 2).toInt
  let x9 := (getC r6 3).toList
  some (.ret [C.bool true, C.list x7, C.int .i64 x8, C.list x9])
def t_cc : Tree :=
.call 0 [vI 0, vB 1, vI 2, vL 3, vI 4] [.bool] <|
.letp .not [vB 5] <|
.ite (.v 6) (
  .ret [nI 0, ⟨.bool, (.b false)⟩, nI 0, ⟨.list, .e⟩, nI 0]) <|
.call 1 [vI 0, vB 1, vI 2, vL 3, vI 4] [kI, .bool, kI, .list, kI] <|
.ret [vI 7, ⟨.bool, (.b true)⟩, vI 9, vL 10, vI 11]
noncomputable def Φ_cc : Phi := ph [φ_dy, φ_ax]
noncomputable def φ_cc := mir Φ_cc t_cc
noncomputable def F_cc (x0 : Int) (x1 : Bool) (x2 : Int) (x3 : LL) (x4 : Int) : Option Out :=
  callD (φ_dy [C.int .i64 x0, C.bool x1, C.int .i64 x2, C.list x3, C.int .i64 x4]) [.bool] fun r5 =>
  let x5 := (getC r5 0).toBool
  let x6 : Bool := (!x5)
  iteD x6 (
    some (.ret [C.int .i64 0, C.bool false, C.int .i64 0, C.list ([] : LL), C.int .i64 0])) <|
  callD (φ_ax [C.int .i64 x0, C.bool x1, C.int .i64 x2, C.list x3, C.int .i64 x4]) [(.int .i64), .bool, (.int .i64), .list, (.int .i64)] fun r7 =>
  let x7 := (getC r7 0).toInt
  let x8 := (getC r7 1).toBool
  let x9 := (getC r7 2).toInt
  let x10 := (getC r7 3).toList
  let x11 := (getC r7 4).toInt
  some (.ret [C.int .i64 x7, C.bool true, C.int .i64 x9, C.list x10, C.int .i64 x11])
def t_ad : Tree :=
.letp .eqI [vI 6, nI 0] <|
.ite (.v 7) (
  .call 1 [vB 0, vL 1, vI 2, vL 3] [.bool, .list, kI, .list] <|
  .ret [vB 8, vL 9, vI 10, vL 11, vL 4, vL 5]) <|
.call 0 [vI 6] [.bool] <|
.ite (.v 8) (
  .letp (.sub .i64) [vI 6, nI 1] <|
  .letp (.sub .i64) [vI 6, nI 1] <|
  .chk .idx [vI 10, vL 4] <|
  .row (.v 4) (.v 10) [kI, .bool, kI, .list, kI] <|
  .call 2 [vI 11, vB 12, vI 13, vL 14, vI 15] [kI, .bool, kI, .list, kI] <|
  .chk .idx [vI 9, vL 4] <|
  .letp (.setr 0) [vL 4, vI 9, vI 16, vB 17, vI 18, vL 19, vI 20] <|
  .ret [vB 0, vL 1, vI 2, vL 3, vL 21, vL 5]) <|
.ret [vB 0, vL 1, vI 2, vL 3, vL 4, vL 5]
noncomputable def Φ_ad : Phi := ph [φ_dh, φ_dc, φ_cc]
noncomputable def φ_ad := mir Φ_ad t_ad
noncomputable def F_ad (x0 : Bool) (x1 : LL) (x2 : Int) (x3 : LL) (x4 : LL) (x5 : LL) (x6 : Int) : Option Out :=
  let x7 : Bool := ((x6 : Int) == 0)
  iteD x7 (
    callD (φ_dc [C.bool x0, C.list x1, C.int .i64 x2, C.list x3]) [.bool, .list, (.int .i64), .list] fun r8 =>
    let x8 := (getC r8 0).toBool
    let x9 := (getC r8 1).toList
    let x10 := (getC r8 2).toInt
    let x11 := (getC r8 3).toList
    some (.ret [C.bool x8, C.list x9, C.int .i64 x10, C.list x11, C.list x4, C.list x5])) <|
  callD (φ_dh [C.int .i64 x6]) [.bool] fun r8 =>
  let x8 := (getC r8 0).toBool
  iteD x8 (
    let x9 : Int := IntKind.wrap .i64 (x6 - 1)
    let x10 : Int := IntKind.wrap .i64 (x6 - 1)
    whenD ((decide ((0 : Int) ≤ x10) && decide ((x10 : Int) < (x4.length : Nat)))) <|
    rowD (.list x4) (.int .i64 x10) [(.int .i64), .bool, (.int .i64), .list, (.int .i64)] fun r11 =>
    let x11 := (getC r11 0).toInt
    let x12 := (getC r11 1).toBool
    let x13 := (getC r11 2).toInt
    let x14 := (getC r11 3).toList
    let x15 := (getC r11 4).toInt
    callD (φ_cc [C.int .i64 x11, C.bool x12, C.int .i64 x13, C.list x14, C.int .i64 x15]) [(.int .i64), .bool, (.int .i64), .list, (.int .i64)] fun r16 =>
    let x16 := (getC r16 0).toInt
    let x17 := (getC r16 1).toBool
    let x18 := (getC r16 2).toInt
    let x19 := (getC r16 3).toList
    let x20 := (getC r16 4).toInt
    whenD ((decide ((0 : Int) ≤ x9) && decide ((x9 : Int) < (x4.length : Nat)))) <|
    let x21 : LL := (setRow 0 x4 (Int.toNat x9) [C.int .i64 x16, C.bool x17, C.int .i64 x18, C.list x19, C.int .i64 x20])
    some (.ret [C.bool x0, C.list x1, C.int .i64 x2, C.list x3, C.list x21, C.list x5])) <|
  some (.ret [C.bool x0, C.list x1, C.int .i64 x2, C.list x3, C.list x4, C.list x5])
def t_cy : Tree :=
.letp .eqI [vI 6, nI 1] <|
.ite (.v 10) (
  .call 0 [vB 0, vL 1, vI 2, vL 3, vL 9] [.bool, .list, kI, .list, .bool] <|
  .ite (.v 15) (
    .ret [vB 11, vL 12, vI 13, vL 14, vL 4, vL 5]) <|
  .ret [vB 0, vL 1, vI 2, vL 3, vL 4, vL 5]) <|
.letp .eqI [vI 6, nI 2] <|
.ite (.v 11) (
  .call 1 [vB 0, vL 1, vI 2, vL 3, vI 7] [.bool, .list, kI, .list, .bool] <|
  .ite (.v 16) (
    .ret [vB 12, vL 13, vI 14, vL 15, vL 4, vL 5]) <|
  .ret [vB 0, vL 1, vI 2, vL 3, vL 4, vL 5]) <|
.letp .eqI [vI 6, nI 3] <|
.ite (.v 12) (
  .call 2 [vB 0, vL 1, vI 2, vL 3] [.list] <|
  .letp .len [vL 13] <|
  .letp (.sub .i64) [vI 14, nI 1] <|
  .call 3 [vI 7, nI 0, vI 15] [.bool] <|
  .ite (.v 16) (
    .row (.v 13) (.v 7) [kI, kI, kI, kI] <|
    .call 4 [vB 0, vL 1, vI 2, vL 3, vL 4, vL 5, vI 17, vI 18, vI 19, vI 20] [.bool, .list, kI, .list, .list, .list] <|
    .ret [vB 21, vL 22, vI 23, vL 24, vL 25, vL 26]) <|
  .ret [vB 0, vL 1, vI 2, vL 3, vL 4, vL 5]) <|
.join [.bool] (
  .letp .eqI [vI 6, nI 4] <|
  .ite (.v 13) (
    .jump [⟨.bool, (.b true)⟩]) <|
  .letp .eqI [vI 6, nI 5] <|
  .ite (.v 14) (
    .jump [⟨.bool, (.b true)⟩]) <|
  .letp .eqI [vI 6, nI 6] <|
  .jump [vB 15]) <|
.ite (.v 13) (
  .call 5 [vB 0, vL 1, vI 2, vL 3, vL 4, vL 5, vI 6, vI 7, vI 8, vL 9] [.bool, .list, kI, .list, .list, .list] <|
  .ret [vB 14, vL 15, vI 16, vL 17, vL 18, vL 19]) <|
.letp .eqI [vI 6, nI 7] <|
.ite (.v 14) (
  .call 6 [vB 0, vL 1, vI 2, vL 3, vL 4, vL 5, vI 7] [.bool, .list, kI, .list, .list, .list] <|
  .ret [vB 15, vL 16, vI 17, vL 18, vL 19, vL 20]) <|
.letp .eqI [vI 6, nI 8] <|
.ite (.v 15) (
  .call 7 [vB 0, vL 1, vI 2, vL 3, vL 4, vL 5, vI 7, vI 6, vI 7, vI 8, vL 9, vI 6, vI 7, vI 8, vL 9] [.bool, .list, kI, .list, .list, .list] <|
  .ret [vB 16, vL 17, vI 18, vL 19, vL 20, vL 21]) <|
.letp .eqI [vI 6, nI 9] <|
.ite (.v 16) (
  .call 8 [vB 0, vL 1, vI 2, vL 3, vL 4, vL 5, vI 7] [.bool, .list, kI, .list, .list, .list] <|
  .ret [vB 17, vL 18, vI 19, vL 20, vL 21, vL 22]) <|
.ret [vB 0, vL 1, vI 2, vL 3, vL 4, vL 5]
noncomputable def Φ_cy : Phi := ph [φ_cj, φ_dd, φ_bh, φ_fn, φ_bm, φ_cl, φ_ab, φ_aa, φ_ad]
noncomputable def φ_cy := mir Φ_cy t_cy
noncomputable def J_cy_0 (x0 : Bool) (x1 : LL) (x2 : Int) (x3 : LL) (x4 : LL) (x5 : LL) (x6 : Int) (x7 : Int) (x8 : Int) (x9 : LL) (x13 : Bool) : Option Out :=
  iteD x13 (
    callD (φ_cl [C.bool x0, C.list x1, C.int .i64 x2, C.list x3, C.list x4, C.list x5, C.int .i64 x6, C.int .i64 x7, C.int .i64 x8, C.list x9]) [.bool, .list, (.int .i64), .list, .list, .list] fun r14 =>
    let x14 := (getC r14 0).toBool
    let x15 := (getC r14 1).toList
    let x16 := (getC r14 2).toInt
    let x17 := (getC r14 3).toList
    let x18 := (getC r14 4).toList
    let x19 := (getC r14 5).toList
    some (.ret [C.bool x14, C.list x15, C.int .i64 x16, C.list x17, C.list x18, C.list x19])) <|
  let x14 : Bool := ((x6 : Int) == 7)
  iteD x14 (
    callD (φ_ab [C.bool x0, C.list x1, C.int .i64 x2, C.list x3, C.list x4, C.list x5, C.int .i64 x7]) [.bool, .list, (.int .i64), .list, .list, .list] fun r15 =>
    let x15 := (getC r15 0).toBool
    let x16 := (getC r15 1).toList
    let x17 := (getC r15 2).toInt
    let x18 := (getC r15 3).toList
    let x19 := (getC r15 4).toList
    let x20 := (getC r15 5).toList
    some (.ret [C.bool x15, C.list x16, C.int .i64 x17, C.list x18, C.list x19, C.list x20])) <|
  let x15 : Bool := ((x6 : Int) == 8)
  iteD x15 (
    callD (φ_aa [C.bool x0, C.list x1, C.int .i64 x2, C.list x3, C.list x4, C.list x5, C.int .i64 x7, C.int .i64 x6, C.int .i64 x7, C.int .i64 x8, C.list x9, C.int .i64 x6, C.int .i64 x7, C.int .i64 x8, C.list x9]) [.bool, .list, (.int .i64), .list, .list, .list] fun r16 =>
    let x16 := (getC r16 0).toBool
    let x17 := (getC r16 1).toList
    let x18 := (getC r16 2).toInt
    let x19 := (getC r16 3).toList
    let x20 := (getC r16 4).toList
    let x21 := (getC r16 5).toList
    some (.ret [C.bool x16, C.list x17, C.int .i64 x18, C.list x19, C.list x20, C.list x21])) <|
  let x16 : Bool := ((x6 : Int) == 9)
  iteD x16 (
    callD (φ_ad [C.bool x0, C.list x1, C.int .i64 x2, C.list x3, C.list x4, C.list x5, C.int .i64 x7]) [.bool, .list, (.int .i64), .list, .list, .list] fun r17 =>
    let x17 := (getC r17 0).toBool
    let x18 := (getC r17 1).toList
    let x19 := (getC r17 2).toInt
    let x20 := (getC r17 3).toList
    let x21 := (getC r17 4).toList
    let x22 := (getC r17 5).toList
    some (.ret [C.bool x17, C.list x18, C.int .i64 x19, C.list x20, C.list x21, C.list x22])) <|
  some (.ret [C.bool x0, C.list x1, C.int .i64 x2, C.list x3, C.list x4, C.list x5])
noncomputable def F_cy (x0 : Bool) (x1 : LL) (x2 : Int) (x3 : LL) (x4 : LL) (x5 : LL) (x6 : Int) (x7 : Int) (x8 : Int) (x9 : LL) : Option Out :=
  let x10 : Bool := ((x6 : Int) == 1)
  iteD x10 (
    callD (φ_cj [C.bool x0, C.list x1, C.int .i64 x2, C.list x3, C.list x9]) [.bool, .list, (.int .i64), .list, .bool] fun r11 =>
    let x11 := (getC r11 0).toBool
    let x12 := (getC r11 1).toList
    let x13 := (getC r11 2).toInt
    let x14 := (getC r11 3).toList
    let x15 := (getC r11 4).toBool
    iteD x15 (
      some (.ret [C.bool x11, C.list x12, C.int .i64 x13, C.list x14, C.list x4, C.list x5])) <|
    some (.ret [C.bool x0, C.list x1, C.int .i64 x2, C.list x3, C.list x4, C.list x5])) <|
  let x11 : Bool := ((x6 : Int) == 2)
  iteD x11 (
    callD (φ_dd [C.bool x0, C.list x1, C.int .i64 x2, C.list x3, C.int .i64 x7]) [.bool, .list, (.int .i64), .list, .bool] fun r12 =>
    let x12 := (getC r12 0).toBool
    let x13 := (getC r12 1).toList
    let x14 := (getC r12 2).toInt
    let x15 := (getC r12 3).toList
    let x16 := (getC r12 4).toBool
    iteD x16 (
      some (.ret [C.bool x12, C.list x13, C.int .i64 x14, C.list x15, C.list x4, C.list x5])) <|
    some (.ret [C.bool x0, C.list x1, C.int .i64 x2, C.list x3, C.list x4, C.list x5])) <|
  let x12 : Bool := ((x6 : Int) == 3)
  iteD x12 (
    callD (φ_bh [C.bool x0, C.list x1, C.int .i64 x2, C.list x3]) [.list] fun r13 =>
    let x13 := (getC r13 0).toList
    let x14 : Int := ((x13.length : Nat) : Int)
    let x15 : Int := IntKind.wrap .i64 (x14 - 1)
    callD (φ_fn [C.int .i64 x7, C.int .i64 0, C.int .i64 x15]) [.bool] fun r16 =>
    let x16 := (getC r16 0).toBool
    iteD x16 (
      rowD (.list x13) (.int .i64 x7) [(.int .i64), (.int .i64), (.int .i64), (.int .i64)] fun r17 =>
      let x17 := (getC r17 0).toInt
      let x18 := (getC r17 1).toInt
      let x19 := (getC r17 2).toInt
      let x20 := (getC r17 3).toInt
      callD (φ_bm [C.bool x0, C.list x1, C.int .i64 x2, C.list x3, C.list x4, C.list x5, C.int .i64 x17, C.int .i64 x18, C.int .i64 x19, C.int .i64 x20]) [.bool, .list, (.int .i64), .list, .list, .list] fun r21 =>
      let x21 := (getC r21 0).toBool
      let x22 := (getC r21 1).toList
      let x23 := (getC r21 2).toInt
      let x24 := (getC r21 3).toList
      let x25 := (getC r21 4).toList
      let x26 := (getC r21 5).toList
      some (.ret [C.bool x21, C.list x22, C.int .i64 x23, C.list x24, C.list x25, C.list x26])) <|
    some (.ret [C.bool x0, C.list x1, C.int .i64 x2, C.list x3, C.list x4, C.list x5])) <|
  joinD (
    let x13 : Bool := ((x6 : Int) == 4)
    iteD x13 (
      some (.jump [C.bool true])) <|
    let x14 : Bool := ((x6 : Int) == 5)
    iteD x14 (
      some (.jump [C.bool true])) <|
    let x15 : Bool := ((x6 : Int) == 6)
    some (.jump [C.bool x15])) fun ps => J_cy_0 x0 x1 x2 x3 x4 x5 x6 x7 x8 x9 ((getC ps 0).toBool)
def t_by : Tree :=
.call 0 [vL 0] [.bool, .list, kI, .list, .list, .list, .bool] <|
.letp .not [vB 8] <|
.ite (.v 9) (
  .ret [⟨.bool, (.b false)⟩, ⟨.list, .e⟩, nI 0, ⟨.list, .e⟩, ⟨.list, .e⟩, ⟨.list, .e⟩, ⟨.bool, (.b false)⟩]) <|
.letp .len [vL 1] <|
.letp .gtI [vI 10, nI 80] <|
.ite (.v 11) (
  .ret [⟨.bool, (.b false)⟩, ⟨.list, .e⟩, nI 0, ⟨.list, .e⟩, ⟨.list, .e⟩, ⟨.list, .e⟩, ⟨.bool, (.b false)⟩]) <|
.letp .len [vL 1] <|
.iter [nI 0, vB 2, vL 3, vI 4, vL 5, vL 6, vL 7] <|
.letp .ltI [vI 13, vI 12] <|
.ite (.v 20) (
  .row (.v 1) (.v 13) [kI, kI, kI, .list] <|
  .call 1 [vB 14, vL 15, vI 16, vL 17, vL 18, vL 19, vI 21, vI 22, vI 23, vL 24] [.bool, .list, kI, .list, .list, .list] <|
  .letp (.add .i64) [vI 13, nI 1] <|
  .jump [vI 31, vB 25, vL 26, vI 27, vL 28, vL 29, vL 30]) <|
.up <|
.ret [vB 14, vL 15, vI 16, vL 17, vL 18, vL 19, ⟨.bool, (.b true)⟩]
noncomputable def Φ_by : Phi := ph [φ_cr, φ_cy]
noncomputable def φ_by := mir Φ_by t_by
noncomputable def L_by_0 (x1 : LL) (x12 : Int) (x13 : Int) (x14 : Bool) (x15 : LL) (x16 : Int) (x17 : LL) (x18 : LL) (x19 : LL) : Option Out :=
  let x20 : Bool := decide ((x13 : Int) < x12)
  iteD x20 (
    rowD (.list x1) (.int .i64 x13) [(.int .i64), (.int .i64), (.int .i64), .list] fun r21 =>
    let x21 := (getC r21 0).toInt
    let x22 := (getC r21 1).toInt
    let x23 := (getC r21 2).toInt
    let x24 := (getC r21 3).toList
    callD (φ_cy [C.bool x14, C.list x15, C.int .i64 x16, C.list x17, C.list x18, C.list x19, C.int .i64 x21, C.int .i64 x22, C.int .i64 x23, C.list x24]) [.bool, .list, (.int .i64), .list, .list, .list] fun r25 =>
    let x25 := (getC r25 0).toBool
    let x26 := (getC r25 1).toList
    let x27 := (getC r25 2).toInt
    let x28 := (getC r25 3).toList
    let x29 := (getC r25 4).toList
    let x30 := (getC r25 5).toList
    let x31 : Int := IntKind.wrap .i64 (x13 + 1)
    some (.jump [C.int .i64 x31, C.bool x25, C.list x26, C.int .i64 x27, C.list x28, C.list x29, C.list x30])) <|
  upD <|
  some (.ret [C.bool x14, C.list x15, C.int .i64 x16, C.list x17, C.list x18, C.list x19, C.bool true])
noncomputable def F_by (x0 : LL) (x1 : LL) : Option Out :=
  callD (φ_cr [C.list x0]) [.bool, .list, (.int .i64), .list, .list, .list, .bool] fun r2 =>
  let x2 := (getC r2 0).toBool
  let x3 := (getC r2 1).toList
  let x4 := (getC r2 2).toInt
  let x5 := (getC r2 3).toList
  let x6 := (getC r2 4).toList
  let x7 := (getC r2 5).toList
  let x8 := (getC r2 6).toBool
  let x9 : Bool := (!x8)
  iteD x9 (
    some (.ret [C.bool false, C.list ([] : LL), C.int .i64 0, C.list ([] : LL), C.list ([] : LL), C.list ([] : LL), C.bool false])) <|
  let x10 : Int := ((x1.length : Nat) : Int)
  let x11 : Bool := decide ((x10 : Int) > 80)
  iteD x11 (
    some (.ret [C.bool false, C.list ([] : LL), C.int .i64 0, C.list ([] : LL), C.list ([] : LL), C.list ([] : LL), C.bool false])) <|
  let x12 : Int := ((x1.length : Nat) : Int)
  iterD (fun ps => L_by_0 x1 x12 ((getC ps 0).toInt) ((getC ps 1).toBool) ((getC ps 2).toList) ((getC ps 3).toInt) ((getC ps 4).toList) ((getC ps 5).toList) ((getC ps 6).toList)) [C.int .i64 0, C.bool x2, C.list x3, C.int .i64 x4, C.list x5, C.list x6, C.list x7]
def t_bt : Tree :=
.call 0 [vL 0] [.bool, .list, kI, .list, .list, .list, .bool] <|
.letp .not [vB 8] <|
.ite (.v 9) (
  .ret [⟨.bool, (.b false)⟩, ⟨.list, .e⟩, nI 0, ⟨.list, .e⟩, ⟨.list, .e⟩, ⟨.list, .e⟩, ⟨.bool, (.b false)⟩]) <|
.letp .len [vL 1] <|
.letp .gtI [vI 10, nI 80] <|
.ite (.v 11) (
  .ret [⟨.bool, (.b false)⟩, ⟨.list, .e⟩, nI 0, ⟨.list, .e⟩, ⟨.list, .e⟩, ⟨.list, .e⟩, ⟨.bool, (.b false)⟩]) <|
.iter [nI 0, vB 2, vI 4, vL 3, vL 5, vL 6, vL 7] <|
.letp .len [vL 1] <|
.letp .ltI [vI 12, vI 19] <|
.ite (.v 20) (
  .row (.v 1) (.v 12) [kI, kI, kI, .list] <|
  .call 1 [vB 13, vL 15, vI 14, vL 16, vL 17, vL 18, vI 21, vI 22, vI 23, vL 24] [.bool, .list, kI, .list, .list, .list] <|
  .letp (.add .i64) [vI 12, nI 1] <|
  .jump [vI 31, vB 25, vI 27, vL 26, vL 28, vL 29, vL 30]) <|
.up <|
.ret [vB 13, vL 15, vI 14, vL 16, vL 17, vL 18, ⟨.bool, (.b true)⟩]
noncomputable def Φ_bt : Phi := ph [φ_cx, φ_fa]
noncomputable def φ_bt := mir Φ_bt t_bt
noncomputable def L_bt_0 (x1 : LL) (x12 : Int) (x13 : Bool) (x14 : Int) (x15 : LL) (x16 : LL) (x17 : LL) (x18 : LL) : Option Out :=
  let x19 : Int := ((x1.length : Nat) : Int)
  let x20 : Bool := decide ((x12 : Int) < x19)
  iteD x20 (
    rowD (.list x1) (.int .i64 x12) [(.int .i64), (.int .i64), (.int .i64), .list] fun r21 =>
    let x21 := (getC r21 0).toInt
    let x22 := (getC r21 1).toInt
    let x23 := (getC r21 2).toInt
    let x24 := (getC r21 3).toList
    callD (φ_fa [C.bool x13, C.list x15, C.int .i64 x14, C.list x16, C.list x17, C.list x18, C.int .i64 x21, C.int .i64 x22, C.int .i64 x23, C.list x24]) [.bool, .list, (.int .i64), .list, .list, .list] fun r25 =>
    let x25 := (getC r25 0).toBool
    let x26 := (getC r25 1).toList
    let x27 := (getC r25 2).toInt
    let x28 := (getC r25 3).toList
    let x29 := (getC r25 4).toList
    let x30 := (getC r25 5).toList
    let x31 : Int := IntKind.wrap .i64 (x12 + 1)
    some (.jump [C.int .i64 x31, C.bool x25, C.int .i64 x27, C.list x26, C.list x28, C.list x29, C.list x30])) <|
  upD <|
  some (.ret [C.bool x13, C.list x15, C.int .i64 x14, C.list x16, C.list x17, C.list x18, C.bool true])
noncomputable def F_bt (x0 : LL) (x1 : LL) : Option Out :=
  callD (φ_cx [C.list x0]) [.bool, .list, (.int .i64), .list, .list, .list, .bool] fun r2 =>
  let x2 := (getC r2 0).toBool
  let x3 := (getC r2 1).toList
  let x4 := (getC r2 2).toInt
  let x5 := (getC r2 3).toList
  let x6 := (getC r2 4).toList
  let x7 := (getC r2 5).toList
  let x8 := (getC r2 6).toBool
  let x9 : Bool := (!x8)
  iteD x9 (
    some (.ret [C.bool false, C.list ([] : LL), C.int .i64 0, C.list ([] : LL), C.list ([] : LL), C.list ([] : LL), C.bool false])) <|
  let x10 : Int := ((x1.length : Nat) : Int)
  let x11 : Bool := decide ((x10 : Int) > 80)
  iteD x11 (
    some (.ret [C.bool false, C.list ([] : LL), C.int .i64 0, C.list ([] : LL), C.list ([] : LL), C.list ([] : LL), C.bool false])) <|
  iterD (fun ps => L_bt_0 x1 ((getC ps 0).toInt) ((getC ps 1).toBool) ((getC ps 2).toInt) ((getC ps 3).toList) ((getC ps 4).toList) ((getC ps 5).toList) ((getC ps 6).toList)) [C.int .i64 0, C.bool x2, C.int .i64 x4, C.list x3, C.list x5, C.list x6, C.list x7]
def t_es : Tree :=
.letp .len [vL 0] <|
.letp .len [vL 1] <|
.letp .neI [vI 2, vI 3] <|
.ite (.v 4) (
  .ret [⟨.bool, (.b false)⟩]) <|
.iter [nI 0] <|
.letp .len [vL 0] <|
.letp .ltI [vI 5, vI 6] <|
.ite (.v 7) (
  .row (.v 0) (.v 5) [kI] <|
  .row (.v 1) (.v 5) [kI] <|
  .letp .neI [vI 8, vI 9] <|
  .ite (.v 10) (
    .up <|
    .ret [⟨.bool, (.b false)⟩]) <|
  .letp (.add .i64) [vI 5, nI 1] <|
  .jump [vI 11]) <|
.up <|
.ret [⟨.bool, (.b true)⟩]
noncomputable def φ_es := mir (ph []) t_es
noncomputable def L_es_0 (x0 : LL) (x1 : LL) (x5 : Int) : Option Out :=
  let x6 : Int := ((x0.length : Nat) : Int)
  let x7 : Bool := decide ((x5 : Int) < x6)
  iteD x7 (
    rowD (.list x0) (.int .i64 x5) [(.int .i64)] fun r8 =>
    let x8 := (getC r8 0).toInt
    rowD (.list x1) (.int .i64 x5) [(.int .i64)] fun r9 =>
    let x9 := (getC r9 0).toInt
    let x10 : Bool := ((x8 : Int) != x9)
    iteD x10 (
      upD <|
      some (.ret [C.bool false])) <|
    let x11 : Int := IntKind.wrap .i64 (x5 + 1)
    some (.jump [C.int .i64 x11])) <|
  upD <|
  some (.ret [C.bool true])
noncomputable def F_es (x0 : LL) (x1 : LL) : Option Out :=
  let x2 : Int := ((x0.length : Nat) : Int)
  let x3 : Int := ((x1.length : Nat) : Int)
  let x4 : Bool := ((x2 : Int) != x3)
  iteD x4 (
    some (.ret [C.bool false])) <|
  iterD (fun ps => L_es_0 x0 x1 ((getC ps 0).toInt)) [C.int .i64 0]
def t_fi : Tree :=
.letp .eqI [vI 0, vI 3] <|
.ite (.v 6) (
  .letp .eqI [vI 1, vI 4] <|
  .ite (.v 7) (
    .call 0 [vL 2, vL 5] [.bool] <|
    .ret [vB 8]) <|
  .ret [⟨.bool, (.b false)⟩]) <|
.ret [⟨.bool, (.b false)⟩]
noncomputable def Φ_fi : Phi := ph [φ_es]
noncomputable def φ_fi := mir Φ_fi t_fi
noncomputable def F_fi (x0 : Int) (x1 : Int) (x2 : LL) (x3 : Int) (x4 : Int) (x5 : LL) : Option Out :=
  let x6 : Bool := ((x0 : Int) == x3)
  iteD x6 (
    let x7 : Bool := ((x1 : Int) == x4)
    iteD x7 (
      callD (φ_es [C.list x2, C.list x5]) [.bool] fun r8 =>
      let x8 := (getC r8 0).toBool
      some (.ret [C.bool x8])) <|
    some (.ret [C.bool false])) <|
  some (.ret [C.bool false])
def t_ev : Tree :=
.letp .len [vL 0] <|
.letp .len [vL 1] <|
.letp .neI [vI 2, vI 3] <|
.ite (.v 4) (
  .ret [⟨.bool, (.b false)⟩]) <|
.iter [nI 0] <|
.letp .len [vL 0] <|
.letp .ltI [vI 5, vI 6] <|
.ite (.v 7) (
  .row (.v 0) (.v 5) [kI, kI, .list] <|
  .row (.v 1) (.v 5) [kI, kI, .list] <|
  .call 0 [vI 8, vI 9, vL 10, vI 11, vI 12, vL 13] [.bool] <|
  .letp .not [vB 14] <|
  .ite (.v 15) (
    .up <|
    .ret [⟨.bool, (.b false)⟩]) <|
  .letp (.add .i64) [vI 5, nI 1] <|
  .jump [vI 16]) <|
.up <|
.ret [⟨.bool, (.b true)⟩]
noncomputable def Φ_ev : Phi := ph [φ_fi]
noncomputable def φ_ev := mir Φ_ev t_ev
noncomputable def L_ev_0 (x0 : LL) (x1 : LL) (x5 : Int) : Option Out :=
  let x6 : Int := ((x0.length : Nat) : Int)
  let x7 : Bool := decide ((x5 : Int) < x6)
  iteD x7 (
    rowD (.list x0) (.int .i64 x5) [(.int .i64), (.int .i64), .list] fun r8 =>
    let x8 := (getC r8 0).toInt
    let x9 := (getC r8 1).toInt
    let x10 := (getC r8 2).toList
    rowD (.list x1) (.int .i64 x5) [(.int .i64), (.int .i64), .list] fun r11 =>
    let x11 := (getC r11 0).toInt
    let x12 := (getC r11 1).toInt
    let x13 := (getC r11 2).toList
    callD (φ_fi [C.int .i64 x8, C.int .i64 x9, C.list x10, C.int .i64 x11, C.int .i64 x12, C.list x13]) [.bool] fun r14 =>
    let x14 := (getC r14 0).toBool
    let x15 : Bool := (!x14)
    iteD x15 (
      upD <|
      some (.ret [C.bool false])) <|
    let x16 : Int := IntKind.wrap .i64 (x5 + 1)
    some (.jump [C.int .i64 x16])) <|
  upD <|
  some (.ret [C.bool true])
noncomputable def F_ev (x0 : LL) (x1 : LL) : Option Out :=
  let x2 : Int := ((x0.length : Nat) : Int)
  let x3 : Int := ((x1.length : Nat) : Int)
  let x4 : Bool := ((x2 : Int) != x3)
  iteD x4 (
    some (.ret [C.bool false])) <|
  iterD (fun ps => L_ev_0 x0 x1 ((getC ps 0).toInt)) [C.int .i64 0]
def t_fg : Tree :=
.letp .eqI [vI 1, vI 3] <|
.ite (.v 4) (
  .call 0 [vL 0, vL 2] [.bool] <|
  .ret [vB 5]) <|
.ret [⟨.bool, (.b false)⟩]
noncomputable def Φ_fg : Phi := ph [φ_ev]
noncomputable def φ_fg := mir Φ_fg t_fg
noncomputable def F_fg (x0 : LL) (x1 : Int) (x2 : LL) (x3 : Int) : Option Out :=
  let x4 : Bool := ((x1 : Int) == x3)
  iteD x4 (
    callD (φ_ev [C.list x0, C.list x2]) [.bool] fun r5 =>
    let x5 := (getC r5 0).toBool
    some (.ret [C.bool x5])) <|
  some (.ret [C.bool false])
def t_do : Tree :=
.letp .len [vL 0] <|
.letp .len [vL 1] <|
.letp .neI [vI 2, vI 3] <|
.ite (.v 4) (
  .ret [⟨.bool, (.b false)⟩]) <|
.iter [nI 0] <|
.letp .len [vL 0] <|
.letp .ltI [vI 5, vI 6] <|
.ite (.v 7) (
  .row (.v 0) (.v 5) [kI, kI, kI, kI] <|
  .row (.v 1) (.v 5) [kI, kI, kI, kI] <|
  .letp (.nes 4) [vI 8, vI 9, vI 10, vI 11, vI 12, vI 13, vI 14, vI 15] <|
  .ite (.v 16) (
    .up <|
    .ret [⟨.bool, (.b false)⟩]) <|
  .letp (.add .i64) [vI 5, nI 1] <|
  .jump [vI 17]) <|
.up <|
.ret [⟨.bool, (.b true)⟩]
noncomputable def φ_do := mir (ph []) t_do
noncomputable def L_do_0 (x0 : LL) (x1 : LL) (x5 : Int) : Option Out :=
  let x6 : Int := ((x0.length : Nat) : Int)
  let x7 : Bool := decide ((x5 : Int) < x6)
  iteD x7 (
    rowD (.list x0) (.int .i64 x5) [(.int .i64), (.int .i64), (.int .i64), (.int .i64)] fun r8 =>
    let x8 := (getC r8 0).toInt
    let x9 := (getC r8 1).toInt
    let x10 := (getC r8 2).toInt
    let x11 := (getC r8 3).toInt
    rowD (.list x1) (.int .i64 x5) [(.int .i64), (.int .i64), (.int .i64), (.int .i64)] fun r12 =>
    let x12 := (getC r12 0).toInt
    let x13 := (getC r12 1).toInt
    let x14 := (getC r12 2).toInt
    let x15 := (getC r12 3).toInt
    let x16 : Bool := (!([x8, x9, x10, x11] == ([x12, x13, x14, x15] : List Int)))
    iteD x16 (
      upD <|
      some (.ret [C.bool false])) <|
    let x17 : Int := IntKind.wrap .i64 (x5 + 1)
    some (.jump [C.int .i64 x17])) <|
  upD <|
  some (.ret [C.bool true])
noncomputable def F_do (x0 : LL) (x1 : LL) : Option Out :=
  let x2 : Int := ((x0.length : Nat) : Int)
  let x3 : Int := ((x1.length : Nat) : Int)
  let x4 : Bool := ((x2 : Int) != x3)
  iteD x4 (
    some (.ret [C.bool false])) <|
  iterD (fun ps => L_do_0 x0 x1 ((getC ps 0).toInt)) [C.int .i64 0]
def t_ei : Tree :=
.letp .eqB [vB 0, vB 4] <|
.ite (.v 8) (
  .call 0 [vL 1, vI 2, vL 5, vI 6] [.bool] <|
  .ite (.v 9) (
    .call 1 [vL 3, vL 7] [.bool] <|
    .ret [vB 10]) <|
  .ret [⟨.bool, (.b false)⟩]) <|
.ret [⟨.bool, (.b false)⟩]
noncomputable def Φ_ei : Phi := ph [φ_fg, φ_do]
noncomputable def φ_ei := mir Φ_ei t_ei
noncomputable def F_ei (x0 : Bool) (x1 : LL) (x2 : Int) (x3 : LL) (x4 : Bool) (x5 : LL) (x6 : Int) (x7 : LL) : Option Out :=
  let x8 : Bool := (x0 == x4)
  iteD x8 (
    callD (φ_fg [C.list x1, C.int .i64 x2, C.list x5, C.int .i64 x6]) [.bool] fun r9 =>
    let x9 := (getC r9 0).toBool
    iteD x9 (
      callD (φ_do [C.list x3, C.list x7]) [.bool] fun r10 =>
      let x10 := (getC r10 0).toBool
      some (.ret [C.bool x10])) <|
    some (.ret [C.bool false])) <|
  some (.ret [C.bool false])
def t_dj : Tree :=
.letp .eqI [vI 0, vI 5] <|
.ite (.v 10) (
  .letp .eqB [vB 1, vB 6] <|
  .ite (.v 11) (
    .letp .eqI [vI 2, vI 7] <|
    .ite (.v 12) (
      .call 0 [vL 3, vI 4, vL 8, vI 9] [.bool] <|
      .ret [vB 13]) <|
    .ret [⟨.bool, (.b false)⟩]) <|
  .ret [⟨.bool, (.b false)⟩]) <|
.ret [⟨.bool, (.b false)⟩]
noncomputable def Φ_dj : Phi := ph [φ_fg]
noncomputable def φ_dj := mir Φ_dj t_dj
noncomputable def F_dj (x0 : Int) (x1 : Bool) (x2 : Int) (x3 : LL) (x4 : Int) (x5 : Int) (x6 : Bool) (x7 : Int) (x8 : LL) (x9 : Int) : Option Out :=
  let x10 : Bool := ((x0 : Int) == x5)
  iteD x10 (
    let x11 : Bool := (x1 == x6)
    iteD x11 (
      let x12 : Bool := ((x2 : Int) == x7)
      iteD x12 (
        callD (φ_fg [C.list x3, C.int .i64 x4, C.list x8, C.int .i64 x9]) [.bool] fun r13 =>
        let x13 := (getC r13 0).toBool
        some (.ret [C.bool x13])) <|
      some (.ret [C.bool false])) <|
    some (.ret [C.bool false])) <|
  some (.ret [C.bool false])
def t_dl : Tree :=
.call 0 [vB 0, vL 1, vI 2, vL 3, vB 6, vL 7, vI 8, vL 9] [.bool] <|
.letp .not [vB 12] <|
.ite (.v 13) (
  .ret [⟨.bool, (.b false)⟩]) <|
.call 1 [vL 5, vL 11] [.bool] <|
.letp .not [vB 14] <|
.ite (.v 15) (
  .ret [⟨.bool, (.b false)⟩]) <|
.letp .len [vL 4] <|
.letp .len [vL 10] <|
.letp .neI [vI 16, vI 17] <|
.ite (.v 18) (
  .ret [⟨.bool, (.b false)⟩]) <|
.iter [nI 0] <|
.letp .len [vL 4] <|
.letp .ltI [vI 19, vI 20] <|
.ite (.v 21) (
  .row (.v 4) (.v 19) [kI, .bool, kI, .list, kI] <|
  .row (.v 10) (.v 19) [kI, .bool, kI, .list, kI] <|
  .call 2 [vI 22, vB 23, vI 24, vL 25, vI 26, vI 27, vB 28, vI 29, vL 30, vI 31] [.bool] <|
  .letp .not [vB 32] <|
  .ite (.v 33) (
    .up <|
    .ret [⟨.bool, (.b false)⟩]) <|
  .letp (.add .i64) [vI 19, nI 1] <|
  .jump [vI 34]) <|
.up <|
.ret [⟨.bool, (.b true)⟩]
noncomputable def Φ_dl : Phi := ph [φ_ei, φ_do, φ_dj]
noncomputable def φ_dl := mir Φ_dl t_dl
noncomputable def L_dl_0 (x4 : LL) (x10 : LL) (x19 : Int) : Option Out :=
  let x20 : Int := ((x4.length : Nat) : Int)
  let x21 : Bool := decide ((x19 : Int) < x20)
  iteD x21 (
    rowD (.list x4) (.int .i64 x19) [(.int .i64), .bool, (.int .i64), .list, (.int .i64)] fun r22 =>
    let x22 := (getC r22 0).toInt
    let x23 := (getC r22 1).toBool
    let x24 := (getC r22 2).toInt
    let x25 := (getC r22 3).toList
    let x26 := (getC r22 4).toInt
    rowD (.list x10) (.int .i64 x19) [(.int .i64), .bool, (.int .i64), .list, (.int .i64)] fun r27 =>
    let x27 := (getC r27 0).toInt
    let x28 := (getC r27 1).toBool
    let x29 := (getC r27 2).toInt
    let x30 := (getC r27 3).toList
    let x31 := (getC r27 4).toInt
    callD (φ_dj [C.int .i64 x22, C.bool x23, C.int .i64 x24, C.list x25, C.int .i64 x26, C.int .i64 x27, C.bool x28, C.int .i64 x29, C.list x30, C.int .i64 x31]) [.bool] fun r32 =>
    let x32 := (getC r32 0).toBool
    let x33 : Bool := (!x32)
    iteD x33 (
      upD <|
      some (.ret [C.bool false])) <|
    let x34 : Int := IntKind.wrap .i64 (x19 + 1)
    some (.jump [C.int .i64 x34])) <|
  upD <|
  some (.ret [C.bool true])
noncomputable def F_dl (x0 : Bool) (x1 : LL) (x2 : Int) (x3 : LL) (x4 : LL) (x5 : LL) (x6 : Bool) (x7 : LL) (x8 : Int) (x9 : LL) (x10 : LL) (x11 : LL) : Option Out :=
  callD (φ_ei [C.bool x0, C.list x1, C.int .i64 x2, C.list x3, C.bool x6, C.list x7, C.int .i64 x8, C.list x9]) [.bool] fun r12 =>
  let x12 := (getC r12 0).toBool
  let x13 : Bool := (!x12)
  iteD x13 (
    some (.ret [C.bool false])) <|
  callD (φ_do [C.list x5, C.list x11]) [.bool] fun r14 =>
  let x14 := (getC r14 0).toBool
  let x15 : Bool := (!x14)
  iteD x15 (
    some (.ret [C.bool false])) <|
  let x16 : Int := ((x4.length : Nat) : Int)
  let x17 : Int := ((x10.length : Nat) : Int)
  let x18 : Bool := ((x16 : Int) != x17)
  iteD x18 (
    some (.ret [C.bool false])) <|
  iterD (fun ps => L_dl_0 x4 x10 ((getC ps 0).toInt)) [C.int .i64 0]
def t_ca : Tree :=
.call 0 [vB 0, vL 1, vI 2, vL 3] [.bool] <|
.letp .not [vB 5] <|
.ite (.v 6) (
  .ret [⟨.list, .e⟩]) <|
.call 1 [vB 0, vL 1, vI 2, vL 3, vB 4] [.list] <|
.ret [vL 7]
noncomputable def Φ_ca : Phi := ph [φ_ez, φ_br]
noncomputable def φ_ca := mir Φ_ca t_ca
noncomputable def F_ca (x0 : Bool) (x1 : LL) (x2 : Int) (x3 : LL) (x4 : Bool) : Option Out :=
  callD (φ_ez [C.bool x0, C.list x1, C.int .i64 x2, C.list x3]) [.bool] fun r5 =>
  let x5 := (getC r5 0).toBool
  let x6 : Bool := (!x5)
  iteD x6 (
    some (.ret [C.list ([] : LL)])) <|
  callD (φ_br [C.bool x0, C.list x1, C.int .i64 x2, C.list x3, C.bool x4]) [.list] fun r7 =>
  let x7 := (getC r7 0).toList
  some (.ret [C.list x7])
def t_bz : Tree :=
.call 0 [vI 0, vI 1, vI 2, vI 3] [.bool] <|
.letp .not [vB 4] <|
.ret [vB 5]
noncomputable def Φ_bz : Phi := ph [φ_ew]
noncomputable def φ_bz := mir Φ_bz t_bz
noncomputable def F_bz (x0 : Int) (x1 : Int) (x2 : Int) (x3 : Int) : Option Out :=
  callD (φ_ew [C.int .i64 x0, C.int .i64 x1, C.int .i64 x2, C.int .i64 x3]) [.bool] fun r4 =>
  let x4 := (getC r4 0).toBool
  let x5 : Bool := (!x4)
  some (.ret [C.bool x5])
def t_ah : Tree :=
.letp .len [vL 0] <|
.iter [nI 0] <|
.letp .ltI [vI 2, vI 1] <|
.ite (.v 3) (
  .row (.v 0) (.v 2) [kI, kI, kI, kI] <|
  .call 0 [vI 4, vI 5, vI 6, vI 7] [.bool] <|
  .ite (.v 8) (
    .up <|
    .ret [vI 2]) <|
  .letp (.add .i64) [vI 2, nI 1] <|
  .jump [vI 9]) <|
.up <|
.ret [⟨kI, (.n (-1))⟩]
noncomputable def Φ_ah : Phi := ph [φ_bz]
noncomputable def φ_ah := mir Φ_ah t_ah
noncomputable def L_ah_0 (x0 : LL) (x1 : Int) (x2 : Int) : Option Out :=
  let x3 : Bool := decide ((x2 : Int) < x1)
  iteD x3 (
    rowD (.list x0) (.int .i64 x2) [(.int .i64), (.int .i64), (.int .i64), (.int .i64)] fun r4 =>
    let x4 := (getC r4 0).toInt
    let x5 := (getC r4 1).toInt
    let x6 := (getC r4 2).toInt
    let x7 := (getC r4 3).toInt
    callD (φ_bz [C.int .i64 x4, C.int .i64 x5, C.int .i64 x6, C.int .i64 x7]) [.bool] fun r8 =>
    let x8 := (getC r8 0).toBool
    iteD x8 (
      upD <|
      some (.ret [C.int .i64 x2])) <|
    let x9 : Int := IntKind.wrap .i64 (x2 + 1)
    some (.jump [C.int .i64 x9])) <|
  upD <|
  some (.ret [C.int .i64 (-1)])
noncomputable def F_ah (x0 : LL) : Option Out :=
  let x1 : Int := ((x0.length : Nat) : Int)
  iterD (fun ps => L_ah_0 x0 x1 ((getC ps 0).toInt)) [C.int .i64 0]
def t_ac : Tree :=
.call 0 [vL 0] [kI] <|
.letp .geI [vI 1, nI 0] <|
.ret [vB 2]
noncomputable def Φ_ac : Phi := ph [φ_ah]
noncomputable def φ_ac := mir Φ_ac t_ac
noncomputable def F_ac (x0 : LL) : Option Out :=
  callD (φ_ah [C.list x0]) [(.int .i64)] fun r1 =>
  let x1 := (getC r1 0).toInt
  let x2 : Bool := decide ((x1 : Int) ≥ 0)
  some (.ret [C.bool x2])
def t_eb : Tree :=
.call 0 [vB 0, vL 1, vI 2, vL 3] [.bool] <|
.letp .not [vB 6] <|
.ite (.v 7) (
  .ret [⟨.bool, (.b false)⟩]) <|
.letp .len [vL 4] <|
.letp .neI [vI 8, nI 3] <|
.ite (.v 9) (
  .ret [⟨.bool, (.b false)⟩]) <|
.letp .len [vL 5] <|
.letp .gtI [vI 10, nI 14] <|
.ite (.v 11) (
  .ret [⟨.bool, (.b false)⟩]) <|
.letp .len [vL 4] <|
.iter [nI 0] <|
.letp .ltI [vI 13, vI 12] <|
.ite (.v 14) (
  .row (.v 4) (.v 13) [kI, .bool, kI, .list, kI] <|
  .call 1 [vI 15, vB 16, vI 17, vL 18, vI 19] [.bool] <|
  .letp .not [vB 20] <|
  .ite (.v 21) (
    .up <|
    .ret [⟨.bool, (.b false)⟩]) <|
  .letp (.add .i64) [vI 13, nI 1] <|
  .letp .neI [vI 15, vI 22] <|
  .ite (.v 23) (
    .up <|
    .ret [⟨.bool, (.b false)⟩]) <|
  .letp (.add .i64) [vI 13, nI 1] <|
  .jump [vI 24]) <|
.up <|
.call 2 [vL 5] [.bool] <|
.letp .not [vB 15] <|
.ret [vB 16]
noncomputable def Φ_eb : Phi := ph [φ_ez, φ_dy, φ_ac]
noncomputable def φ_eb := mir Φ_eb t_eb
noncomputable def L_eb_0 (x4 : LL) (x5 : LL) (x12 : Int) (x13 : Int) : Option Out :=
  let x14 : Bool := decide ((x13 : Int) < x12)
  iteD x14 (
    rowD (.list x4) (.int .i64 x13) [(.int .i64), .bool, (.int .i64), .list, (.int .i64)] fun r15 =>
    let x15 := (getC r15 0).toInt
    let x16 := (getC r15 1).toBool
    let x17 := (getC r15 2).toInt
    let x18 := (getC r15 3).toList
    let x19 := (getC r15 4).toInt
    callD (φ_dy [C.int .i64 x15, C.bool x16, C.int .i64 x17, C.list x18, C.int .i64 x19]) [.bool] fun r20 =>
    let x20 := (getC r20 0).toBool
    let x21 : Bool := (!x20)
    iteD x21 (
      upD <|
      some (.ret [C.bool false])) <|
    let x22 : Int := IntKind.wrap .i64 (x13 + 1)
    let x23 : Bool := ((x15 : Int) != x22)
    iteD x23 (
      upD <|
      some (.ret [C.bool false])) <|
    let x24 : Int := IntKind.wrap .i64 (x13 + 1)
    some (.jump [C.int .i64 x24])) <|
  upD <|
  callD (φ_ac [C.list x5]) [.bool] fun r15 =>
  let x15 := (getC r15 0).toBool
  let x16 : Bool := (!x15)
  some (.ret [C.bool x16])
noncomputable def F_eb (x0 : Bool) (x1 : LL) (x2 : Int) (x3 : LL) (x4 : LL) (x5 : LL) : Option Out :=
  callD (φ_ez [C.bool x0, C.list x1, C.int .i64 x2, C.list x3]) [.bool] fun r6 =>
  let x6 := (getC r6 0).toBool
  let x7 : Bool := (!x6)
  iteD x7 (
    some (.ret [C.bool false])) <|
  let x8 : Int := ((x4.length : Nat) : Int)
  let x9 : Bool := ((x8 : Int) != 3)
  iteD x9 (
    some (.ret [C.bool false])) <|
  let x10 : Int := ((x5.length : Nat) : Int)
  let x11 : Bool := decide ((x10 : Int) > 14)
  iteD x11 (
    some (.ret [C.bool false])) <|
  let x12 : Int := ((x4.length : Nat) : Int)
  iterD (fun ps => L_eb_0 x4 x5 x12 ((getC ps 0).toInt)) [C.int .i64 0]
def t_bg : Tree :=
.call 0 [vB 0, vL 1, vI 2, vL 3, vL 4, vL 5] [.bool] <|
.letp .not [vB 7] <|
.ite (.v 8) (
  .ret [⟨.list, .e⟩]) <|
.call 1 [vI 6] [.bool] <|
.letp .not [vB 9] <|
.ite (.v 10) (
  .ret [⟨.list, .e⟩]) <|
.letp .len [vL 4] <|
.iter [nI 0, ⟨.list, .e⟩] <|
.letp .ltI [vI 12, vI 11] <|
.ite (.v 14) (
  .row (.v 4) (.v 12) [kI, .bool, kI, .list, kI] <|
  .call 2 [vI 15, vB 16, vI 17, vL 18, vI 19, ⟨.bool, (.b false)⟩] [kI, .list] <|
  .letp (.sub .i64) [vI 6, nI 1] <|
  .row (.v 21) (.v 22) [kI, kI] <|
  .letp (.mkl 2) [vI 23, vI 24] <|
  .chk .fits [vL 13, vL 25] <|
  .letp .app [vL 13, vL 25] <|
  .letp (.add .i64) [vI 12, nI 1] <|
  .jump [vI 27, vL 26]) <|
.up <|
.ret [vL 13]
noncomputable def Φ_bg : Phi := ph [φ_eb, φ_eq, φ_ay]
noncomputable def φ_bg := mir Φ_bg t_bg
noncomputable def L_bg_0 (x4 : LL) (x6 : Int) (x11 : Int) (x12 : Int) (x13 : LL) : Option Out :=
  let x14 : Bool := decide ((x12 : Int) < x11)
  iteD x14 (
    rowD (.list x4) (.int .i64 x12) [(.int .i64), .bool, (.int .i64), .list, (.int .i64)] fun r15 =>
    let x15 := (getC r15 0).toInt
    let x16 := (getC r15 1).toBool
    let x17 := (getC r15 2).toInt
    let x18 := (getC r15 3).toList
    let x19 := (getC r15 4).toInt
    callD (φ_ay [C.int .i64 x15, C.bool x16, C.int .i64 x17, C.list x18, C.int .i64 x19, C.bool false]) [(.int .i64), .list] fun r20 =>
    let x20 := (getC r20 0).toInt
    let x21 := (getC r20 1).toList
    let x22 : Int := IntKind.wrap .i64 (x6 - 1)
    rowD (.list x21) (.int .i64 x22) [(.int .i64), (.int .i64)] fun r23 =>
    let x23 := (getC r23 0).toInt
    let x24 := (getC r23 1).toInt
    let x25 : LL := [[C.int .i64 x23, C.int .i64 x24]]
    whenD (decide (x13.length + x25.length ≤ LMAX)) <|
    let x26 : LL := (x13 ++ x25)
    let x27 : Int := IntKind.wrap .i64 (x12 + 1)
    some (.jump [C.int .i64 x27, C.list x26])) <|
  upD <|
  some (.ret [C.list x13])
noncomputable def F_bg (x0 : Bool) (x1 : LL) (x2 : Int) (x3 : LL) (x4 : LL) (x5 : LL) (x6 : Int) : Option Out :=
  callD (φ_eb [C.bool x0, C.list x1, C.int .i64 x2, C.list x3, C.list x4, C.list x5]) [.bool] fun r7 =>
  let x7 := (getC r7 0).toBool
  let x8 : Bool := (!x7)
  iteD x8 (
    some (.ret [C.list ([] : LL)])) <|
  callD (φ_eq [C.int .i64 x6]) [.bool] fun r9 =>
  let x9 := (getC r9 0).toBool
  let x10 : Bool := (!x9)
  iteD x10 (
    some (.ret [C.list ([] : LL)])) <|
  let x11 : Int := ((x4.length : Nat) : Int)
  iterD (fun ps => L_bg_0 x4 x6 x11 ((getC ps 0).toInt) ((getC ps 1).toList)) [C.int .i64 0, C.list ([] : LL)]
def t_fj : Tree :=
.call 0 [vB 0, vL 1, vI 2, vL 3, ⟨.bool, (.b true)⟩] [.list] <|
.iter [nI 1] <|
.letp .leI [vI 7, nI 6] <|
.ite (.v 8) (
  .call 1 [vB 0, vL 1, vI 2, vL 3, vL 4, vL 5, vI 7] [.list] <|
  .letp .len [vL 9] <|
  .letp .neI [vI 10, nI 3] <|
  .ite (.v 11) (
    .up <|
    .ret [⟨.bool, (.b false)⟩]) <|
  .join [kI] (
    .letp .len [vL 6] <|
    .letp .leI [vI 7, vI 12] <|
    .ite (.v 13) (
      .letp (.sub .i64) [vI 7, nI 1] <|
      .row (.v 6) (.v 14) [.list, kI] <|
      .jump [vI 16]) <|
    .jump [nI 0]) <|
  .iter [nI 0] <|
  .letp .len [vL 9] <|
  .letp .ltI [vI 13, vI 14] <|
  .ite (.v 15) (
    .row (.v 9) (.v 13) [kI, kI] <|
    .join [] (
      .letp .neI [vI 17, nI 0] <|
      .ite (.v 18) (
        .letp .eqI [vI 12, nI 0] <|
        .ite (.v 19) (
          .up <|
          .up <|
          .up <|
          .ret [⟨.bool, (.b false)⟩]) <|
        .letp (.sub .i64) [vI 7, nI 1] <|
        .row (.v 6) (.v 20) [.list, kI] <|
        .row (.v 21) (.v 13) [kI] <|
        .letp .eqI [vI 23, nI 0] <|
        .ite (.v 24) (
          .up <|
          .up <|
          .up <|
          .ret [⟨.bool, (.b false)⟩]) <|
        .jump []) <|
      .jump []) <|
    .join [] (
      .letp .eqI [vI 17, nI 2] <|
      .ite (.v 18) (
        .letp .neI [vI 12, nI 2] <|
        .ite (.v 19) (
          .letp .neI [vI 12, nI 4] <|
          .ite (.v 20) (
            .up <|
            .up <|
            .up <|
            .ret [⟨.bool, (.b false)⟩]) <|
          .letp .eqI [vI 17, nI 3] <|
          .ite (.v 21) (
            .letp .neI [vI 12, nI 3] <|
            .ite (.v 22) (
              .letp .neI [vI 12, nI 5] <|
              .ite (.v 23) (
                .up <|
                .up <|
                .up <|
                .ret [⟨.bool, (.b false)⟩]) <|
              .jump []) <|
            .jump []) <|
          .jump []) <|
        .letp .eqI [vI 17, nI 3] <|
        .ite (.v 20) (
          .letp .neI [vI 12, nI 3] <|
          .ite (.v 21) (
            .letp .neI [vI 12, nI 5] <|
            .ite (.v 22) (
              .up <|
              .up <|
              .up <|
              .ret [⟨.bool, (.b false)⟩]) <|
            .jump []) <|
          .jump []) <|
        .jump []) <|
      .letp .eqI [vI 17, nI 3] <|
      .ite (.v 19) (
        .letp .neI [vI 12, nI 3] <|
        .ite (.v 20) (
          .letp .neI [vI 12, nI 5] <|
          .ite (.v 21) (
            .up <|
            .up <|
            .up <|
            .ret [⟨.bool, (.b false)⟩]) <|
          .jump []) <|
        .jump []) <|
      .jump []) <|
    .join [] (
      .letp .eqI [vI 17, nI 1] <|
      .ite (.v 18) (
        .letp (.sub .i64) [vI 7, nI 1] <|
        .row (.v 6) (.v 19) [.list, kI] <|
        .row (.v 20) (.v 13) [kI] <|
        .letp .neI [vI 16, vI 22] <|
        .ite (.v 23) (
          .up <|
          .up <|
          .up <|
          .ret [⟨.bool, (.b false)⟩]) <|
        .jump []) <|
      .letp .eqI [vI 17, nI 2] <|
      .ite (.v 19) (
        .letp (.sub .i64) [vI 7, nI 1] <|
        .row (.v 6) (.v 20) [.list, kI] <|
        .row (.v 21) (.v 13) [kI] <|
        .letp .neI [vI 16, vI 23] <|
        .ite (.v 24) (
          .up <|
          .up <|
          .up <|
          .ret [⟨.bool, (.b false)⟩]) <|
        .jump []) <|
      .jump []) <|
    .letp .eqI [vI 12, nI 4] <|
    .ite (.v 18) (
      .letp (.sub .i64) [vI 7, nI 1] <|
      .row (.v 6) (.v 19) [.list, kI] <|
      .row (.v 20) (.v 13) [kI] <|
      .letp .gtI [vI 22, nI 0] <|
      .ite (.v 23) (
        .letp .neI [vI 17, nI 2] <|
        .ite (.v 24) (
          .up <|
          .up <|
          .ret [⟨.bool, (.b false)⟩]) <|
        .letp .eqI [vI 12, nI 5] <|
        .ite (.v 25) (
          .letp (.sub .i64) [vI 7, nI 1] <|
          .row (.v 6) (.v 26) [.list, kI] <|
          .row (.v 27) (.v 13) [kI] <|
          .letp .gtI [vI 29, nI 0] <|
          .ite (.v 30) (
            .letp .neI [vI 17, nI 3] <|
            .ite (.v 31) (
              .up <|
              .up <|
              .ret [⟨.bool, (.b false)⟩]) <|
            .letp (.add .i64) [vI 13, nI 1] <|
            .jump [vI 32]) <|
          .letp (.add .i64) [vI 13, nI 1] <|
          .jump [vI 31]) <|
        .letp (.add .i64) [vI 13, nI 1] <|
        .jump [vI 26]) <|
      .letp .eqI [vI 12, nI 5] <|
      .ite (.v 24) (
        .letp (.sub .i64) [vI 7, nI 1] <|
        .row (.v 6) (.v 25) [.list, kI] <|
        .row (.v 26) (.v 13) [kI] <|
        .letp .gtI [vI 28, nI 0] <|
        .ite (.v 29) (
          .letp .neI [vI 17, nI 3] <|
          .ite (.v 30) (
            .up <|
            .up <|
            .ret [⟨.bool, (.b false)⟩]) <|
          .letp (.add .i64) [vI 13, nI 1] <|
          .jump [vI 31]) <|
        .letp (.add .i64) [vI 13, nI 1] <|
        .jump [vI 30]) <|
      .letp (.add .i64) [vI 13, nI 1] <|
      .jump [vI 25]) <|
    .letp .eqI [vI 12, nI 5] <|
    .ite (.v 19) (
      .letp (.sub .i64) [vI 7, nI 1] <|
      .row (.v 6) (.v 20) [.list, kI] <|
      .row (.v 21) (.v 13) [kI] <|
      .letp .gtI [vI 23, nI 0] <|
      .ite (.v 24) (
        .letp .neI [vI 17, nI 3] <|
        .ite (.v 25) (
          .up <|
          .up <|
          .ret [⟨.bool, (.b false)⟩]) <|
        .letp (.add .i64) [vI 13, nI 1] <|
        .jump [vI 26]) <|
      .letp (.add .i64) [vI 13, nI 1] <|
      .jump [vI 25]) <|
    .letp (.add .i64) [vI 13, nI 1] <|
    .jump [vI 20]) <|
  .up <|
  .letp (.add .i64) [vI 7, nI 1] <|
  .jump [vI 16]) <|
.up <|
.ret [⟨.bool, (.b true)⟩]
noncomputable def Φ_fj : Phi := ph [φ_ca, φ_bg]
noncomputable def φ_fj := mir Φ_fj t_fj
noncomputable def J_fj_0 (x6 : LL) (x7 : Int) (x12 : Int) (x13 : Int) (x17 : Int) : Option Out :=
  let x18 : Bool := ((x12 : Int) == 4)
  iteD x18 (
    let x19 : Int := IntKind.wrap .i64 (x7 - 1)
    rowD (.list x6) (.int .i64 x19) [.list, (.int .i64)] fun r20 =>
    let x20 := (getC r20 0).toList
    let x21 := (getC r20 1).toInt
    rowD (.list x20) (.int .i64 x13) [(.int .i64)] fun r22 =>
    let x22 := (getC r22 0).toInt
    let x23 : Bool := decide ((x22 : Int) > 0)
    iteD x23 (
      let x24 : Bool := ((x17 : Int) != 2)
      iteD x24 (
        upD <|
        upD <|
        some (.ret [C.bool false])) <|
      let x25 : Bool := ((x12 : Int) == 5)
      iteD x25 (
        let x26 : Int := IntKind.wrap .i64 (x7 - 1)
        rowD (.list x6) (.int .i64 x26) [.list, (.int .i64)] fun r27 =>
        let x27 := (getC r27 0).toList
        let x28 := (getC r27 1).toInt
        rowD (.list x27) (.int .i64 x13) [(.int .i64)] fun r29 =>
        let x29 := (getC r29 0).toInt
        let x30 : Bool := decide ((x29 : Int) > 0)
        iteD x30 (
          let x31 : Bool := ((x17 : Int) != 3)
          iteD x31 (
            upD <|
            upD <|
            some (.ret [C.bool false])) <|
          let x32 : Int := IntKind.wrap .i64 (x13 + 1)
          some (.jump [C.int .i64 x32])) <|
        let x31 : Int := IntKind.wrap .i64 (x13 + 1)
        some (.jump [C.int .i64 x31])) <|
      let x26 : Int := IntKind.wrap .i64 (x13 + 1)
      some (.jump [C.int .i64 x26])) <|
    let x24 : Bool := ((x12 : Int) == 5)
    iteD x24 (
      let x25 : Int := IntKind.wrap .i64 (x7 - 1)
      rowD (.list x6) (.int .i64 x25) [.list, (.int .i64)] fun r26 =>
      let x26 := (getC r26 0).toList
      let x27 := (getC r26 1).toInt
      rowD (.list x26) (.int .i64 x13) [(.int .i64)] fun r28 =>
      let x28 := (getC r28 0).toInt
      let x29 : Bool := decide ((x28 : Int) > 0)
      iteD x29 (
        let x30 : Bool := ((x17 : Int) != 3)
        iteD x30 (
          upD <|
          upD <|
          some (.ret [C.bool false])) <|
        let x31 : Int := IntKind.wrap .i64 (x13 + 1)
        some (.jump [C.int .i64 x31])) <|
      let x30 : Int := IntKind.wrap .i64 (x13 + 1)
      some (.jump [C.int .i64 x30])) <|
    let x25 : Int := IntKind.wrap .i64 (x13 + 1)
    some (.jump [C.int .i64 x25])) <|
  let x19 : Bool := ((x12 : Int) == 5)
  iteD x19 (
    let x20 : Int := IntKind.wrap .i64 (x7 - 1)
    rowD (.list x6) (.int .i64 x20) [.list, (.int .i64)] fun r21 =>
    let x21 := (getC r21 0).toList
    let x22 := (getC r21 1).toInt
    rowD (.list x21) (.int .i64 x13) [(.int .i64)] fun r23 =>
    let x23 := (getC r23 0).toInt
    let x24 : Bool := decide ((x23 : Int) > 0)
    iteD x24 (
      let x25 : Bool := ((x17 : Int) != 3)
      iteD x25 (
        upD <|
        upD <|
        some (.ret [C.bool false])) <|
      let x26 : Int := IntKind.wrap .i64 (x13 + 1)
      some (.jump [C.int .i64 x26])) <|
    let x25 : Int := IntKind.wrap .i64 (x13 + 1)
    some (.jump [C.int .i64 x25])) <|
  let x20 : Int := IntKind.wrap .i64 (x13 + 1)
  some (.jump [C.int .i64 x20])
noncomputable def J_fj_1 (x6 : LL) (x7 : Int) (x12 : Int) (x13 : Int) (x16 : Int) (x17 : Int) : Option Out :=
  joinD (
    let x18 : Bool := ((x17 : Int) == 1)
    iteD x18 (
      let x19 : Int := IntKind.wrap .i64 (x7 - 1)
      rowD (.list x6) (.int .i64 x19) [.list, (.int .i64)] fun r20 =>
      let x20 := (getC r20 0).toList
      let x21 := (getC r20 1).toInt
      rowD (.list x20) (.int .i64 x13) [(.int .i64)] fun r22 =>
      let x22 := (getC r22 0).toInt
      let x23 : Bool := ((x16 : Int) != x22)
      iteD x23 (
        upD <|
        upD <|
        upD <|
        some (.ret [C.bool false])) <|
      some (.jump [])) <|
    let x19 : Bool := ((x17 : Int) == 2)
    iteD x19 (
      let x20 : Int := IntKind.wrap .i64 (x7 - 1)
      rowD (.list x6) (.int .i64 x20) [.list, (.int .i64)] fun r21 =>
      let x21 := (getC r21 0).toList
      let x22 := (getC r21 1).toInt
      rowD (.list x21) (.int .i64 x13) [(.int .i64)] fun r23 =>
      let x23 := (getC r23 0).toInt
      let x24 : Bool := ((x16 : Int) != x23)
      iteD x24 (
        upD <|
        upD <|
        upD <|
        some (.ret [C.bool false])) <|
      some (.jump [])) <|
    some (.jump [])) fun ps => J_fj_0 x6 x7 x12 x13 x17
noncomputable def J_fj_2 (x6 : LL) (x7 : Int) (x12 : Int) (x13 : Int) (x16 : Int) (x17 : Int) : Option Out :=
  joinD (
    let x18 : Bool := ((x17 : Int) == 2)
    iteD x18 (
      let x19 : Bool := ((x12 : Int) != 2)
      iteD x19 (
        let x20 : Bool := ((x12 : Int) != 4)
        iteD x20 (
          upD <|
          upD <|
          upD <|
          some (.ret [C.bool false])) <|
        let x21 : Bool := ((x17 : Int) == 3)
        iteD x21 (
          let x22 : Bool := ((x12 : Int) != 3)
          iteD x22 (
            let x23 : Bool := ((x12 : Int) != 5)
            iteD x23 (
              upD <|
              upD <|
              upD <|
              some (.ret [C.bool false])) <|
            some (.jump [])) <|
          some (.jump [])) <|
        some (.jump [])) <|
      let x20 : Bool := ((x17 : Int) == 3)
      iteD x20 (
        let x21 : Bool := ((x12 : Int) != 3)
        iteD x21 (
          let x22 : Bool := ((x12 : Int) != 5)
          iteD x22 (
            upD <|
            upD <|
            upD <|
            some (.ret [C.bool false])) <|
          some (.jump [])) <|
        some (.jump [])) <|
      some (.jump [])) <|
    let x19 : Bool := ((x17 : Int) == 3)
    iteD x19 (
      let x20 : Bool := ((x12 : Int) != 3)
      iteD x20 (
        let x21 : Bool := ((x12 : Int) != 5)
        iteD x21 (
          upD <|
          upD <|
          upD <|
          some (.ret [C.bool false])) <|
        some (.jump [])) <|
      some (.jump [])) <|
    some (.jump [])) fun ps => J_fj_1 x6 x7 x12 x13 x16 x17
noncomputable def L_fj_3 (x6 : LL) (x7 : Int) (x9 : LL) (x12 : Int) (x13 : Int) : Option Out :=
  let x14 : Int := ((x9.length : Nat) : Int)
  let x15 : Bool := decide ((x13 : Int) < x14)
  iteD x15 (
    rowD (.list x9) (.int .i64 x13) [(.int .i64), (.int .i64)] fun r16 =>
    let x16 := (getC r16 0).toInt
    let x17 := (getC r16 1).toInt
    joinD (
      let x18 : Bool := ((x17 : Int) != 0)
      iteD x18 (
        let x19 : Bool := ((x12 : Int) == 0)
        iteD x19 (
          upD <|
          upD <|
          upD <|
          some (.ret [C.bool false])) <|
        let x20 : Int := IntKind.wrap .i64 (x7 - 1)
        rowD (.list x6) (.int .i64 x20) [.list, (.int .i64)] fun r21 =>
        let x21 := (getC r21 0).toList
        let x22 := (getC r21 1).toInt
        rowD (.list x21) (.int .i64 x13) [(.int .i64)] fun r23 =>
        let x23 := (getC r23 0).toInt
        let x24 : Bool := ((x23 : Int) == 0)
        iteD x24 (
          upD <|
          upD <|
          upD <|
          some (.ret [C.bool false])) <|
        some (.jump [])) <|
      some (.jump [])) fun ps => J_fj_2 x6 x7 x12 x13 x16 x17) <|
  upD <|
  let x16 : Int := IntKind.wrap .i64 (x7 + 1)
  some (.jump [C.int .i64 x16])
noncomputable def J_fj_4 (x6 : LL) (x7 : Int) (x9 : LL) (x12 : Int) : Option Out :=
  iterD (fun ps => L_fj_3 x6 x7 x9 x12 ((getC ps 0).toInt)) [C.int .i64 0]
noncomputable def L_fj_5 (x0 : Bool) (x1 : LL) (x2 : Int) (x3 : LL) (x4 : LL) (x5 : LL) (x6 : LL) (x7 : Int) : Option Out :=
  let x8 : Bool := decide ((x7 : Int) ≤ 6)
  iteD x8 (
    callD (φ_bg [C.bool x0, C.list x1, C.int .i64 x2, C.list x3, C.list x4, C.list x5, C.int .i64 x7]) [.list] fun r9 =>
    let x9 := (getC r9 0).toList
    let x10 : Int := ((x9.length : Nat) : Int)
    let x11 : Bool := ((x10 : Int) != 3)
    iteD x11 (
      upD <|
      some (.ret [C.bool false])) <|
    joinD (
      let x12 : Int := ((x6.length : Nat) : Int)
      let x13 : Bool := decide ((x7 : Int) ≤ x12)
      iteD x13 (
        let x14 : Int := IntKind.wrap .i64 (x7 - 1)
        rowD (.list x6) (.int .i64 x14) [.list, (.int .i64)] fun r15 =>
        let x15 := (getC r15 0).toList
        let x16 := (getC r15 1).toInt
        some (.jump [C.int .i64 x16])) <|
      some (.jump [C.int .i64 0])) fun ps => J_fj_4 x6 x7 x9 ((getC ps 0).toInt)) <|
  upD <|
  some (.ret [C.bool true])
noncomputable def F_fj (x0 : Bool) (x1 : LL) (x2 : Int) (x3 : LL) (x4 : LL) (x5 : LL) : Option Out :=
  callD (φ_ca [C.bool x0, C.list x1, C.int .i64 x2, C.list x3, C.bool true]) [.list] fun r6 =>
  let x6 := (getC r6 0).toList
  iterD (fun ps => L_fj_5 x0 x1 x2 x3 x4 x5 x6 ((getC ps 0).toInt)) [C.int .i64 1]
def t_bj : Tree :=
  worldHead <|
.call 4 [⟨.bool, (.v 5)⟩, ⟨.list, (.v 6)⟩, ⟨(.int .i64), (.v 7)⟩, ⟨.list, (.v 8)⟩, ⟨.list, (.v 9)⟩, ⟨.list, (.v 10)⟩] [.bool] <|
.ret [⟨.bool, (.v 23)⟩]
noncomputable def Φ_bj : Phi := fun n => match n with
  | 0 => φ_av
  | 1 => φ_by
  | 2 => φ_bt
  | 3 => φ_dl
  | 4 => φ_fj
  | _ => fun _ => none
noncomputable def φ_bj (cs : List C) : Option (List C) := retOf (den Φ_bj t_bj cs)
def t_aw : Tree :=
  worldHead2 <|
.letp .len [⟨.list, (.v 1)⟩] <|
.letp .len [⟨.list, (.v 7)⟩] <|
.letp (.add .i64) [⟨(.int .i64), (.v 27)⟩, ⟨(.int .i64), (.n 1)⟩] <|
.chk .nz [⟨(.int .i64), (.v 28)⟩] <|
.letp (.rem .i64) [⟨(.int .i64), (.v 26)⟩, ⟨(.int .i64), (.v 28)⟩] <|
.chk .upto [⟨(.int .i64), (.v 29)⟩, ⟨.list, (.v 7)⟩] <|
.letp .take [⟨.list, (.v 7)⟩, ⟨(.int .i64), (.v 29)⟩] <|
.call 1 [⟨.list, (.v 6)⟩, ⟨.list, (.v 30)⟩] [.bool, .list, (.int .i64), .list, .list, .list, .bool] <|
.ite (.v 37) (
  .call 4 [⟨.bool, (.v 31)⟩, ⟨.list, (.v 32)⟩, ⟨(.int .i64), (.v 33)⟩, ⟨.list, (.v 34)⟩, ⟨.list, (.v 35)⟩, ⟨.list, (.v 36)⟩] [.bool] <|
  .ite (.v 38) (
    .call 5 [⟨.bool, (.v 31)⟩, ⟨.list, (.v 32)⟩, ⟨(.int .i64), (.v 33)⟩, ⟨.list, (.v 34)⟩, ⟨.list, (.v 35)⟩, ⟨.list, (.v 36)⟩] [.bool] <|
    .ret [⟨.bool, (.v 39)⟩]) <|
  .ret [⟨.bool, (.b false)⟩]) <|
.ret [⟨.bool, (.b false)⟩]
noncomputable def Φ_aw : Phi := fun n => match n with
  | 0 => φ_av
  | 1 => φ_by
  | 2 => φ_bt
  | 3 => φ_dl
  | 4 => φ_fj
  | 5 => φ_eb
  | _ => fun _ => none
noncomputable def φ_aw (cs : List C) : Option (List C) := retOf (den Φ_aw t_aw cs)
end Dx
