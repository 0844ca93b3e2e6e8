/- The typed texts are the trees'. -/
import Derived.Test.YtcgenclbnnigeabGreatYb
set_option linter.all false
set_option linter.unusedVariables false
set_option linter.unusedSimpArgs false
set_option linter.unnecessarySimpa false
namespace Dx
open Go
theorem q_br (x0 : LL) (x1 : Int) (x2 : Bool) (x3 : LL) (x4 : Int) (x5 : LL) (x6 : LL) (x7 : LL) : φ_br [C.list x0, C.int .i64 x1, C.bool x2, C.list x3, C.int .i64 x4, C.list x5, C.list x6, C.list x7] = retOf (F_br x0 x1 x2 x3 x4 x5 x6 x7) := by kernel_rfl
theorem q_cm (x0 : LL) (x1 : Int) : φ_cm [C.list x0, C.int .i64 x1] = retOf (F_cm x0 x1) := by kernel_rfl
theorem q_cn (x0 : Int) (x1 : Bool) (x2 : Int) (x3 : LL) (x4 : Int) (x5 : Int) (x6 : Int) (x7 : Int) (x8 : Int) : φ_cn [C.int .i64 x0, C.bool x1, C.int .i64 x2, C.list x3, C.int .i64 x4, C.int .i64 x5, C.int .i64 x6, C.int .i64 x7, C.int .i64 x8] = retOf (F_cn x0 x1 x2 x3 x4 x5 x6 x7 x8) := by kernel_rfl
theorem q_co (x0 : Bool) (x1 : LL) (x2 : Int) (x3 : LL) (x4 : LL) (x5 : LL) (x6 : Int) (x7 : Int) (x8 : Int) (x9 : LL) : φ_co [C.bool x0, C.list x1, C.int .i64 x2, C.list x3, C.list x4, C.list x5, C.int .i64 x6, C.int .i64 x7, C.int .i64 x8, C.list x9] = retOf (F_co x0 x1 x2 x3 x4 x5 x6 x7 x8 x9) := by kernel_rfl
theorem q_am (x0 : LL) : φ_am [C.list x0] = retOf (F_am x0) := by kernel_rfl
theorem q_be (x0 : LL) (x1 : Int) (x2 : Int) : φ_be [C.list x0, C.int .i64 x1, C.int .i64 x2] = retOf (F_be x0 x1 x2) := by kernel_rfl
theorem q_ct (x0 : LL) (x1 : Int) : φ_ct [C.list x0, C.int .i64 x1] = retOf (F_ct x0 x1) := by kernel_rfl
theorem q_cx (x0 : LL) (x1 : Int) : φ_cx [C.list x0, C.int .i64 x1] = retOf (F_cx x0 x1) := by kernel_rfl
theorem q_dz (x0 : Int) (x1 : Int) (x2 : LL) : φ_dz [C.int .i64 x0, C.int .i64 x1, C.list x2] = retOf (F_dz x0 x1 x2) := by kernel_rfl
theorem q_spec_l12Do (x0 : LL) (x1 : Int) (x2 : Int) (x3 : LL) : φ_spec_l12Do [C.list x0, C.int .i64 x1, C.int .i64 x2, C.list x3] = retOf (F_spec_l12Do x0 x1 x2 x3) := by kernel_rfl
theorem q_cq (x0 : Bool) (x1 : LL) (x2 : Int) (x3 : LL) (x4 : Int) (x5 : Int) (x6 : Int) (x7 : Int) : φ_cq [C.bool x0, C.list x1, C.int .i64 x2, C.list x3, C.int .i64 x4, C.int .i64 x5, C.int .i64 x6, C.int .i64 x7] = retOf (F_cq x0 x1 x2 x3 x4 x5 x6 x7) := by kernel_rfl
theorem q_spec_l2Do (x0 : Int) (x1 : LL) (x2 : Int) (x3 : Int) (x4 : LL) : φ_spec_l2Do [C.int .i64 x0, C.list x1, C.int .i64 x2, C.int .i64 x3, C.list x4] = retOf (F_spec_l2Do x0 x1 x2 x3 x4) := by kernel_rfl
theorem q_cy (x0 : Bool) (x1 : LL) (x2 : Int) (x3 : LL) (x4 : LL) (x5 : LL) (x6 : Int) (x7 : Int) (x8 : Int) (x9 : Int) : φ_cy [C.bool x0, C.list x1, C.int .i64 x2, C.list x3, C.list x4, C.list x5, C.int .i64 x6, C.int .i64 x7, C.int .i64 x8, C.int .i64 x9] = retOf (F_cy x0 x1 x2 x3 x4 x5 x6 x7 x8 x9) := by kernel_rfl
theorem q_eb (x0 : LL) : φ_eb [C.list x0] = retOf (F_eb x0) := by kernel_rfl
theorem q_df (x0 : Int) (x1 : LL) : φ_df [C.int .i64 x0, C.list x1] = retOf (F_df x0 x1) := by kernel_rfl
theorem q_eg (x0 : Int) (x1 : Int) (x2 : LL) : φ_eg [C.int .i64 x0, C.int .i64 x1, C.list x2] = retOf (F_eg x0 x1 x2) := by kernel_rfl
theorem q_ci (x0 : LL) (x1 : LL) : φ_ci [C.list x0, C.list x1] = retOf (F_ci x0 x1) := by kernel_rfl
theorem q_dg (x0 : Int) (x1 : Int) (x2 : Int) (x3 : Int) : φ_dg [C.int .i64 x0, C.int .i64 x1, C.int .i64 x2, C.int .i64 x3] = retOf (F_dg x0 x1 x2 x3) := by kernel_rfl
theorem q_de (x0 : LL) (x1 : LL) : φ_de [C.list x0, C.list x1] = retOf (F_de x0 x1) := by kernel_rfl
theorem q_bt (x0 : Bool) (x1 : LL) (x2 : Int) (x3 : LL) (x4 : Int) (x5 : Int) (x6 : LL) : φ_bt [C.bool x0, C.list x1, C.int .i64 x2, C.list x3, C.int .i64 x4, C.int .i64 x5, C.list x6] = retOf (F_bt x0 x1 x2 x3 x4 x5 x6) := by kernel_rfl
theorem q_cw (x0 : LL) : φ_cw [C.list x0] = retOf (F_cw x0) := by kernel_rfl
theorem q_bx (x0 : Bool) (x1 : LL) (x2 : Int) (x3 : LL) (x4 : Int) (x5 : Int) (x6 : Int) (x7 : Int) : φ_bx [C.bool x0, C.list x1, C.int .i64 x2, C.list x3, C.int .i64 x4, C.int .i64 x5, C.int .i64 x6, C.int .i64 x7] = retOf (F_bx x0 x1 x2 x3 x4 x5 x6 x7) := by kernel_rfl
theorem q_ak (x0 : LL) (x1 : Int) (x2 : Int) (x3 : Int) (x4 : Int) : φ_ak [C.list x0, C.int .i64 x1, C.int .i64 x2, C.int .i64 x3, C.int .i64 x4] = retOf (F_ak x0 x1 x2 x3 x4) := by kernel_rfl
theorem q_ar (x0 : LL) : φ_ar [C.list x0] = retOf (F_ar x0) := by kernel_rfl
theorem q_ag (x0 : LL) : φ_ag [C.list x0] = retOf (F_ag x0) := by kernel_rfl
theorem q_ed (x0 : LL) (x1 : Int) : φ_ed [C.list x0, C.int .i64 x1] = retOf (F_ed x0 x1) := by kernel_rfl
theorem q_by (x0 : LL) : φ_by [C.list x0] = retOf (F_by x0) := by kernel_rfl
theorem q_di (x0 : Int) (x1 : Int) (x2 : Int) (x3 : Int) : φ_di [C.int .i64 x0, C.int .i64 x1, C.int .i64 x2, C.int .i64 x3] = retOf (F_di x0 x1 x2 x3) := by kernel_rfl
theorem q_cc (x0 : Int) : φ_cc [C.int .i64 x0] = retOf (F_cc x0) := by kernel_rfl
theorem q_dd (x0 : LL) : φ_dd [C.list x0] = retOf (F_dd x0) := by kernel_rfl
theorem q_bo (x0 : LL) (x1 : Int) : φ_bo [C.list x0, C.int .i64 x1] = retOf (F_bo x0 x1) := by kernel_rfl
theorem q_bn (x0 : Bool) (x1 : LL) (x2 : Int) (x3 : LL) : φ_bn [C.bool x0, C.list x1, C.int .i64 x2, C.list x3] = retOf (F_bn x0 x1 x2 x3) := by kernel_rfl
theorem q_ek (x0 : Int) (x1 : Int) (x2 : Int) : φ_ek [C.int .i64 x0, C.int .i64 x1, C.int .i64 x2] = retOf (F_ek x0 x1 x2) := by kernel_rfl
theorem q_ap (x0 : Bool) (x1 : LL) (x2 : Int) (x3 : LL) : φ_ap [C.bool x0, C.list x1, C.int .i64 x2, C.list x3] = retOf (F_ap x0 x1 x2 x3) := by kernel_rfl
theorem q_aa (x0 : LL) : φ_aa [C.list x0] = retOf (F_aa x0) := by kernel_rfl
theorem q_ad (x0 : LL) : φ_ad [C.list x0] = retOf (F_ad x0) := by kernel_rfl
theorem q_da (x0 : Int) (x1 : Int) (x2 : LL) : φ_da [C.int .i64 x0, C.int .i64 x1, C.list x2] = retOf (F_da x0 x1 x2) := by kernel_rfl
theorem q_cs : φ_cs [] = retOf (F_cs) := by kernel_rfl
theorem q_ch (x0 : Int) : φ_ch [C.int .i64 x0] = retOf (F_ch x0) := by kernel_rfl
end Dx
