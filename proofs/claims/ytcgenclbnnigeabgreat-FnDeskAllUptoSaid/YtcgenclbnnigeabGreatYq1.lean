/- The typed texts are the trees'. -/
import Derived.Test.YtcgenclbnnigeabGreatYb
set_option linter.all false
set_option linter.unusedVariables false
set_option linter.unusedSimpArgs false
set_option linter.unnecessarySimpa false
namespace Dx
open Go
theorem q_bz (x0 : Bool) (x1 : LL) (x2 : Int) (x3 : LL) (x4 : LL) (x5 : LL) (x6 : Int) : φ_bz [C.bool x0, C.list x1, C.int .i64 x2, C.list x3, C.list x4, C.list x5, C.int .i64 x6] = retOf (F_bz x0 x1 x2 x3 x4 x5 x6) := by kernel_rfl
theorem q_cp (x0 : LL) (x1 : Int) (x2 : Int) (x3 : LL) : φ_cp [C.list x0, C.int .i64 x1, C.int .i64 x2, C.list x3] = retOf (F_cp x0 x1 x2 x3) := by kernel_rfl
theorem q_dk (x0 : Bool) (x1 : LL) (x2 : Int) (x3 : LL) (x4 : LL) (x5 : LL) (x6 : Int) (x7 : Int) (x8 : Int) (x9 : LL) : φ_dk [C.bool x0, C.list x1, C.int .i64 x2, C.list x3, C.list x4, C.list x5, C.int .i64 x6, C.int .i64 x7, C.int .i64 x8, C.list x9] = retOf (F_dk x0 x1 x2 x3 x4 x5 x6 x7 x8 x9) := by kernel_rfl
theorem q_cx (x0 : Bool) (x1 : LL) (x2 : Int) (x3 : LL) : φ_cx [C.bool x0, C.list x1, C.int .i64 x2, C.list x3] = retOf (F_cx x0 x1 x2 x3) := by kernel_rfl
theorem q_bl (x0 : LL) : φ_bl [C.list x0] = retOf (F_bl x0) := by kernel_rfl
theorem q_dy (x0 : Int) (x1 : LL) : φ_dy [C.int .i64 x0, C.list x1] = retOf (F_dy x0 x1) := by kernel_rfl
theorem q_bw (x0 : LL) (x1 : Int) (x2 : Int) (x3 : LL) : φ_bw [C.list x0, C.int .i64 x1, C.int .i64 x2, C.list x3] = retOf (F_bw x0 x1 x2 x3) := by kernel_rfl
theorem q_cw (x0 : LL) (x1 : Int) (x2 : Int) (x3 : LL) : φ_cw [C.list x0, C.int .i64 x1, C.int .i64 x2, C.list x3] = retOf (F_cw x0 x1 x2 x3) := by kernel_rfl
theorem q_cy (x0 : Int) (x1 : LL) : φ_cy [C.int .i64 x0, C.list x1] = retOf (F_cy x0 x1) := by kernel_rfl
theorem q_dp (x0 : Int) (x1 : LL) (x2 : Int) (x3 : Int) (x4 : LL) : φ_dp [C.int .i64 x0, C.list x1, C.int .i64 x2, C.int .i64 x3, C.list x4] = retOf (F_dp x0 x1 x2 x3 x4) := by kernel_rfl
theorem q_co (x0 : LL) (x1 : LL) : φ_co [C.list x0, C.list x1] = retOf (F_co x0 x1) := by kernel_rfl
theorem q_dh (x0 : Int) (x1 : Int) (x2 : Int) (x3 : Int) : φ_dh [C.int .i64 x0, C.int .i64 x1, C.int .i64 x2, C.int .i64 x3] = retOf (F_dh x0 x1 x2 x3) := by kernel_rfl
theorem q_bk (x0 : LL) (x1 : Int) (x2 : Int) (x3 : Int) : φ_bk [C.list x0, C.int .i64 x1, C.int .i64 x2, C.int .i64 x3] = retOf (F_bk x0 x1 x2 x3) := by kernel_rfl
theorem q_bt (x0 : Int) (x1 : Int) : φ_bt [C.int .i64 x0, C.int .i64 x1] = retOf (F_bt x0 x1) := by kernel_rfl
theorem q_cc (x0 : LL) : φ_cc [C.list x0] = retOf (F_cc x0) := by kernel_rfl
theorem q_ak (x0 : LL) (x1 : Int) (x2 : Int) (x3 : Int) (x4 : Int) : φ_ak [C.list x0, C.int .i64 x1, C.int .i64 x2, C.int .i64 x3, C.int .i64 x4] = retOf (F_ak x0 x1 x2 x3 x4) := by kernel_rfl
theorem q_af (x0 : LL) : φ_af [C.list x0] = retOf (F_af x0) := by kernel_rfl
theorem q_ac (x0 : LL) : φ_ac [C.list x0] = retOf (F_ac x0) := by kernel_rfl
theorem q_dg (x0 : Bool) (x1 : LL) (x2 : Int) (x3 : LL) (x4 : LL) (x5 : LL) (x6 : Int) (x7 : Int) (x8 : Int) (x9 : Int) : φ_dg [C.bool x0, C.list x1, C.int .i64 x2, C.list x3, C.list x4, C.list x5, C.int .i64 x6, C.int .i64 x7, C.int .i64 x8, C.int .i64 x9] = retOf (F_dg x0 x1 x2 x3 x4 x5 x6 x7 x8 x9) := by kernel_rfl
theorem q_bn (x0 : Bool) (x1 : LL) (x2 : Int) (x3 : LL) (x4 : Bool) : φ_bn [C.bool x0, C.list x1, C.int .i64 x2, C.list x3, C.bool x4] = retOf (F_bn x0 x1 x2 x3 x4) := by kernel_rfl
theorem q_cz (x0 : Bool) (x1 : LL) (x2 : Int) (x3 : LL) (x4 : Bool) (x5 : LL) (x6 : Int) (x7 : LL) : φ_cz [C.bool x0, C.list x1, C.int .i64 x2, C.list x3, C.bool x4, C.list x5, C.int .i64 x6, C.list x7] = retOf (F_cz x0 x1 x2 x3 x4 x5 x6 x7) := by kernel_rfl
theorem q_cv (x0 : Int) (x1 : Int) (x2 : Int) (x3 : Int) : φ_cv [C.int .i64 x0, C.int .i64 x1, C.int .i64 x2, C.int .i64 x3] = retOf (F_cv x0 x1 x2 x3) := by kernel_rfl
theorem q_cr (x0 : Bool) (x1 : LL) (x2 : Int) (x3 : LL) : φ_cr [C.bool x0, C.list x1, C.int .i64 x2, C.list x3] = retOf (F_cr x0 x1 x2 x3) := by kernel_rfl
theorem q_bh (x0 : Bool) (x1 : LL) (x2 : Int) (x3 : LL) (x4 : Bool) : φ_bh [C.bool x0, C.list x1, C.int .i64 x2, C.list x3, C.bool x4] = retOf (F_bh x0 x1 x2 x3 x4) := by kernel_rfl
theorem q_ba (x0 : Int) (x1 : Int) (x2 : LL) : φ_ba [C.int .i64 x0, C.int .i64 x1, C.list x2] = retOf (F_ba x0 x1 x2) := by kernel_rfl
theorem q_dz (x0 : Int) (x1 : Int) (x2 : Int) : φ_dz [C.int .i64 x0, C.int .i64 x1, C.int .i64 x2] = retOf (F_dz x0 x1 x2) := by kernel_rfl
theorem q_ai (x0 : LL) (x1 : Int) (x2 : Int) (x3 : Int) (x4 : Int) : φ_ai [C.list x0, C.int .i64 x1, C.int .i64 x2, C.int .i64 x3, C.int .i64 x4] = retOf (F_ai x0 x1 x2 x3 x4) := by kernel_rfl
theorem q_ab (x0 : LL) : φ_ab [C.list x0] = retOf (F_ab x0) := by kernel_rfl
theorem q_ad (x0 : LL) : φ_ad [C.list x0] = retOf (F_ad x0) := by kernel_rfl
theorem q_au (x0 : Int) : φ_au [C.int .i64 x0] = retOf (F_au x0) := by kernel_rfl
theorem q_as (x0 : Int) (x1 : Int) (x2 : LL) : φ_as [C.int .i64 x0, C.int .i64 x1, C.list x2] = retOf (F_as x0 x1 x2) := by kernel_rfl
theorem q_an (x0 : Int) (x1 : Int) (x2 : Int) (x3 : Int) : φ_an [C.int .i64 x0, C.int .i64 x1, C.int .i64 x2, C.int .i64 x3] = retOf (F_an x0 x1 x2 x3) := by kernel_rfl
end Dx
