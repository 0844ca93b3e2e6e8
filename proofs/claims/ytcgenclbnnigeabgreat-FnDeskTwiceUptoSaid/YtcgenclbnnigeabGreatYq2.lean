/- The typed texts are the trees'. -/
import Derived.Test.YtcgenclbnnigeabGreatYb
set_option linter.all false
set_option linter.unusedVariables false
set_option linter.unusedSimpArgs false
set_option linter.unnecessarySimpa false
namespace Dx
open Go
theorem q_bv (x0 : LL) (x1 : Int) (x2 : Bool) (x3 : LL) (x4 : Int) (x5 : LL) (x6 : LL) (x7 : LL) : φ_bv [C.list x0, C.int .i64 x1, C.bool x2, C.list x3, C.int .i64 x4, C.list x5, C.list x6, C.list x7] = retOf (F_bv x0 x1 x2 x3 x4 x5 x6 x7) := by kernel_rfl
theorem q_ch (x0 : LL) (x1 : Int) : φ_ch [C.list x0, C.int .i64 x1] = retOf (F_ch x0 x1) := by kernel_rfl
theorem q_cr (x0 : Int) (x1 : Bool) (x2 : Int) (x3 : LL) (x4 : Int) (x5 : Int) (x6 : Int) (x7 : Int) (x8 : Int) : φ_cr [C.int .i64 x0, C.bool x1, C.int .i64 x2, C.list x3, C.int .i64 x4, C.int .i64 x5, C.int .i64 x6, C.int .i64 x7, C.int .i64 x8] = retOf (F_cr x0 x1 x2 x3 x4 x5 x6 x7 x8) := by kernel_rfl
theorem q_bz (x0 : Bool) (x1 : LL) (x2 : Int) (x3 : LL) (x4 : LL) (x5 : LL) (x6 : Int) (x7 : Int) (x8 : Int) (x9 : LL) : φ_bz [C.bool x0, C.list x1, C.int .i64 x2, C.list x3, C.list x4, C.list x5, C.int .i64 x6, C.int .i64 x7, C.int .i64 x8, C.list x9] = retOf (F_bz x0 x1 x2 x3 x4 x5 x6 x7 x8 x9) := by kernel_rfl
theorem q_al (x0 : LL) : φ_al [C.list x0] = retOf (F_al x0) := by kernel_rfl
theorem q_cp (x0 : Bool) (x1 : LL) (x2 : Int) (x3 : LL) (x4 : LL) (x5 : LL) (x6 : Int) (x7 : Int) (x8 : Int) (x9 : LL) : φ_cp [C.bool x0, C.list x1, C.int .i64 x2, C.list x3, C.list x4, C.list x5, C.int .i64 x6, C.int .i64 x7, C.int .i64 x8, C.list x9] = retOf (F_cp x0 x1 x2 x3 x4 x5 x6 x7 x8 x9) := by kernel_rfl
theorem q_cq (x0 : LL) (x1 : Int) (x2 : Int) (x3 : LL) : φ_cq [C.list x0, C.int .i64 x1, C.int .i64 x2, C.list x3] = retOf (F_cq x0 x1 x2 x3) := by kernel_rfl
theorem q_cx (x0 : Bool) (x1 : LL) (x2 : Int) (x3 : LL) (x4 : LL) (x5 : LL) (x6 : Int) (x7 : Int) (x8 : Int) (x9 : LL) : φ_cx [C.bool x0, C.list x1, C.int .i64 x2, C.list x3, C.list x4, C.list x5, C.int .i64 x6, C.int .i64 x7, C.int .i64 x8, C.list x9] = retOf (F_cx x0 x1 x2 x3 x4 x5 x6 x7 x8 x9) := by kernel_rfl
theorem q_cv (x0 : Bool) (x1 : LL) (x2 : Int) (x3 : LL) : φ_cv [C.bool x0, C.list x1, C.int .i64 x2, C.list x3] = retOf (F_cv x0 x1 x2 x3) := by kernel_rfl
theorem q_bf (x0 : Bool) (x1 : LL) (x2 : Int) (x3 : LL) (x4 : Int) (x5 : Int) (x6 : Int) (x7 : Int) : φ_bf [C.bool x0, C.list x1, C.int .i64 x2, C.list x3, C.int .i64 x4, C.int .i64 x5, C.int .i64 x6, C.int .i64 x7] = retOf (F_bf x0 x1 x2 x3 x4 x5 x6 x7) := by kernel_rfl
theorem q_ea (x0 : Int) (x1 : LL) : φ_ea [C.int .i64 x0, C.list x1] = retOf (F_ea x0 x1) := by kernel_rfl
theorem q_bn (x0 : LL) (x1 : Int) (x2 : Int) (x3 : LL) : φ_bn [C.list x0, C.int .i64 x1, C.int .i64 x2, C.list x3] = retOf (F_bn x0 x1 x2 x3) := by kernel_rfl
theorem q_dv (x0 : LL) : φ_dv [C.list x0] = retOf (F_dv x0) := by kernel_rfl
theorem q_dj (x0 : LL) (x1 : Int) (x2 : Int) (x3 : Int) (x4 : LL) : φ_dj [C.list x0, C.int .i64 x1, C.int .i64 x2, C.int .i64 x3, C.list x4] = retOf (F_dj x0 x1 x2 x3 x4) := by kernel_rfl
theorem q_dc (x0 : LL) (x1 : LL) : φ_dc [C.list x0, C.list x1] = retOf (F_dc x0 x1) := by kernel_rfl
theorem q_ds (x0 : LL) (x1 : Int) : φ_ds [C.list x0, C.int .i64 x1] = retOf (F_ds x0 x1) := by kernel_rfl
theorem q_dd (x0 : Bool) (x1 : LL) (x2 : Int) (x3 : LL) (x4 : Int) (x5 : LL) (x6 : Int) : φ_dd [C.bool x0, C.list x1, C.int .i64 x2, C.list x3, C.int .i64 x4, C.list x5, C.int .i64 x6] = retOf (F_dd x0 x1 x2 x3 x4 x5 x6) := by kernel_rfl
theorem q_as (x0 : Bool) (x1 : LL) (x2 : Int) (x3 : LL) (x4 : Int) (x5 : Int) (x6 : LL) : φ_as [C.bool x0, C.list x1, C.int .i64 x2, C.list x3, C.int .i64 x4, C.int .i64 x5, C.list x6] = retOf (F_as x0 x1 x2 x3 x4 x5 x6) := by kernel_rfl
theorem q_dh (x0 : LL) (x1 : Int) : φ_dh [C.list x0, C.int .i64 x1] = retOf (F_dh x0 x1) := by kernel_rfl
theorem q_ak (x0 : LL) : φ_ak [C.list x0] = retOf (F_ak x0) := by kernel_rfl
theorem q_aj (x0 : LL) (x1 : Int) (x2 : Int) (x3 : Int) (x4 : Int) : φ_aj [C.list x0, C.int .i64 x1, C.int .i64 x2, C.int .i64 x3, C.int .i64 x4] = retOf (F_aj x0 x1 x2 x3 x4) := by kernel_rfl
theorem q_af (x0 : LL) : φ_af [C.list x0] = retOf (F_af x0) := by kernel_rfl
theorem q_ag (x0 : LL) : φ_ag [C.list x0] = retOf (F_ag x0) := by kernel_rfl
theorem q_dq (x0 : LL) (x1 : Int) : φ_dq [C.list x0, C.int .i64 x1] = retOf (F_dq x0 x1) := by kernel_rfl
theorem q_bo (x0 : Bool) (x1 : LL) (x2 : Int) (x3 : LL) (x4 : Int) : φ_bo [C.bool x0, C.list x1, C.int .i64 x2, C.list x3, C.int .i64 x4] = retOf (F_bo x0 x1 x2 x3 x4) := by kernel_rfl
theorem q_br (x0 : LL) : φ_br [C.list x0] = retOf (F_br x0) := by kernel_rfl
theorem q_bs (x0 : Int) : φ_bs [C.int .i64 x0] = retOf (F_bs x0) := by kernel_rfl
theorem q_ce (x0 : Bool) (x1 : LL) (x2 : Int) (x3 : LL) : φ_ce [C.bool x0, C.list x1, C.int .i64 x2, C.list x3] = retOf (F_ce x0 x1 x2 x3) := by kernel_rfl
theorem q_be (x0 : LL) (x1 : Int) : φ_be [C.list x0, C.int .i64 x1] = retOf (F_be x0 x1) := by kernel_rfl
theorem q_bc (x0 : Int) (x1 : Int) (x2 : LL) : φ_bc [C.int .i64 x0, C.int .i64 x1, C.list x2] = retOf (F_bc x0 x1 x2) := by kernel_rfl
theorem q_dw (x0 : LL) (x1 : Int) (x2 : LL) (x3 : Int) : φ_dw [C.list x0, C.int .i64 x1, C.list x2, C.int .i64 x3] = retOf (F_dw x0 x1 x2 x3) := by kernel_rfl
theorem q_bh (x0 : LL) (x1 : Int) (x2 : Bool) : φ_bh [C.list x0, C.int .i64 x1, C.bool x2] = retOf (F_bh x0 x1 x2) := by kernel_rfl
theorem q_ct (x0 : Bool) (x1 : LL) (x2 : Int) (x3 : LL) (x4 : Int) : φ_ct [C.bool x0, C.list x1, C.int .i64 x2, C.list x3, C.int .i64 x4] = retOf (F_ct x0 x1 x2 x3 x4) := by kernel_rfl
theorem q_ax (x0 : LL) (x1 : Int) : φ_ax [C.list x0, C.int .i64 x1] = retOf (F_ax x0 x1) := by kernel_rfl
theorem q_aw (x0 : Bool) (x1 : LL) (x2 : Int) (x3 : LL) (x4 : Bool) : φ_aw [C.bool x0, C.list x1, C.int .i64 x2, C.list x3, C.bool x4] = retOf (F_aw x0 x1 x2 x3 x4) := by kernel_rfl
theorem q_cd : φ_cd [] = retOf (F_cd) := by kernel_rfl
theorem q_dk (x0 : Int) : φ_dk [C.int .i64 x0] = retOf (F_dk x0) := by kernel_rfl
end Dx
