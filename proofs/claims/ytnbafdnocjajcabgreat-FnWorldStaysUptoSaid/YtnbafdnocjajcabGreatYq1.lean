/- The typed texts are the trees'. -/
import Derived.Test.YtnbafdnocjajcabGreatYb
set_option linter.all false
set_option linter.unusedVariables false
set_option linter.unusedSimpArgs false
set_option linter.unnecessarySimpa false
namespace Dx
open Go
theorem q_dz (x0 : Bool) (x1 : LL) (x2 : Int) (x3 : LL) (x4 : LL) (x5 : LL) (x6 : Int) : φ_dz [C.bool x0, C.list x1, C.int .i64 x2, C.list x3, C.list x4, C.list x5, C.int .i64 x6] = retOf (F_dz x0 x1 x2 x3 x4 x5 x6) := by kernel_rfl
theorem q_dk (x0 : LL) (x1 : Int) (x2 : Int) (x3 : LL) : φ_dk [C.list x0, C.int .i64 x1, C.int .i64 x2, C.list x3] = retOf (F_dk x0 x1 x2 x3) := by kernel_rfl
theorem q_ff (x0 : Int) (x1 : Int) (x2 : LL) : φ_ff [C.int .i64 x0, C.int .i64 x1, C.list x2] = retOf (F_ff x0 x1 x2) := by kernel_rfl
theorem q_fb (x0 : LL) (x1 : Int) (x2 : Int) (x3 : LL) : φ_fb [C.list x0, C.int .i64 x1, C.int .i64 x2, C.list x3] = retOf (F_fb x0 x1 x2 x3) := by kernel_rfl
theorem q_cw (x0 : LL) : φ_cw [C.list x0] = retOf (F_cw x0) := by kernel_rfl
theorem q_dm (x0 : Bool) (x1 : LL) (x2 : Int) (x3 : LL) (x4 : LL) (x5 : LL) : φ_dm [C.bool x0, C.list x1, C.int .i64 x2, C.list x3, C.list x4, C.list x5] = retOf (F_dm x0 x1 x2 x3 x4 x5) := by kernel_rfl
theorem q_ea (x0 : Bool) (x1 : LL) (x2 : Int) (x3 : LL) (x4 : LL) (x5 : LL) (x6 : Bool) (x7 : LL) (x8 : Int) (x9 : LL) (x10 : LL) (x11 : LL) : φ_ea [C.bool x0, C.list x1, C.int .i64 x2, C.list x3, C.list x4, C.list x5, C.bool x6, C.list x7, C.int .i64 x8, C.list x9, C.list x10, C.list x11] = retOf (F_ea x0 x1 x2 x3 x4 x5 x6 x7 x8 x9 x10 x11) := by kernel_rfl
theorem q_spec_l2Do (x0 : Int) (x1 : LL) (x2 : Int) (x3 : Int) (x4 : LL) : φ_spec_l2Do [C.int .i64 x0, C.list x1, C.int .i64 x2, C.int .i64 x3, C.list x4] = retOf (F_spec_l2Do x0 x1 x2 x3 x4) := by kernel_rfl
theorem q_aa (x0 : Bool) (x1 : LL) (x2 : Int) (x3 : LL) (x4 : LL) (x5 : LL) (x6 : Int) (x7 : Int) (x8 : Int) (x9 : Int) (x10 : LL) (x11 : Int) (x12 : Int) (x13 : Int) (x14 : LL) : φ_aa [C.bool x0, C.list x1, C.int .i64 x2, C.list x3, C.list x4, C.list x5, C.int .i64 x6, C.int .i64 x7, C.int .i64 x8, C.int .i64 x9, C.list x10, C.int .i64 x11, C.int .i64 x12, C.int .i64 x13, C.list x14] = retOf (F_aa x0 x1 x2 x3 x4 x5 x6 x7 x8 x9 x10 x11 x12 x13 x14) := by kernel_rfl
theorem q_el (x0 : LL) (x1 : Int) (x2 : Int) (x3 : LL) : φ_el [C.list x0, C.int .i64 x1, C.int .i64 x2, C.list x3] = retOf (F_el x0 x1 x2 x3) := by kernel_rfl
theorem q_em (x0 : Int) (x1 : Int) (x2 : Int) (x3 : Int) : φ_em [C.int .i64 x0, C.int .i64 x1, C.int .i64 x2, C.int .i64 x3] = retOf (F_em x0 x1 x2 x3) := by kernel_rfl
theorem q_ad (x0 : Bool) (x1 : LL) (x2 : Int) (x3 : LL) (x4 : LL) (x5 : LL) (x6 : Int) : φ_ad [C.bool x0, C.list x1, C.int .i64 x2, C.list x3, C.list x4, C.list x5, C.int .i64 x6] = retOf (F_ad x0 x1 x2 x3 x4 x5 x6) := by kernel_rfl
theorem q_fi (x0 : Int) (x1 : Int) (x2 : LL) : φ_fi [C.int .i64 x0, C.int .i64 x1, C.list x2] = retOf (F_fi x0 x1 x2) := by kernel_rfl
theorem q_cy (x0 : Bool) (x1 : LL) (x2 : Int) (x3 : LL) (x4 : Int) : φ_cy [C.bool x0, C.list x1, C.int .i64 x2, C.list x3, C.int .i64 x4] = retOf (F_cy x0 x1 x2 x3 x4) := by kernel_rfl
theorem q_dy (x0 : LL) (x1 : LL) : φ_dy [C.list x0, C.list x1] = retOf (F_dy x0 x1) := by kernel_rfl
theorem q_es (x0 : Int) (x1 : Int) (x2 : Int) (x3 : Int) : φ_es [C.int .i64 x0, C.int .i64 x1, C.int .i64 x2, C.int .i64 x3] = retOf (F_es x0 x1 x2 x3) := by kernel_rfl
theorem q_dq (x0 : Int) (x1 : Int) : φ_dq [C.int .i64 x0, C.int .i64 x1] = retOf (F_dq x0 x1) := by kernel_rfl
theorem q_cs (x0 : Bool) (x1 : LL) (x2 : Int) (x3 : LL) (x4 : Int) (x5 : Int) (x6 : LL) : φ_cs [C.bool x0, C.list x1, C.int .i64 x2, C.list x3, C.int .i64 x4, C.int .i64 x5, C.list x6] = retOf (F_cs x0 x1 x2 x3 x4 x5 x6) := by kernel_rfl
theorem q_dt (x0 : LL) : φ_dt [C.list x0] = retOf (F_dt x0) := by kernel_rfl
theorem q_bn (x0 : Int) (x1 : Bool) (x2 : Int) (x3 : LL) (x4 : Int) : φ_bn [C.int .i64 x0, C.bool x1, C.int .i64 x2, C.list x3, C.int .i64 x4] = retOf (F_bn x0 x1 x2 x3 x4) := by kernel_rfl
theorem q_fa (x0 : LL) (x1 : Int) (x2 : Int) : φ_fa [C.list x0, C.int .i64 x1, C.int .i64 x2] = retOf (F_fa x0 x1 x2) := by kernel_rfl
theorem q_aj (x0 : LL) : φ_aj [C.list x0] = retOf (F_aj x0) := by kernel_rfl
theorem q_ai (x0 : LL) : φ_ai [C.list x0] = retOf (F_ai x0) := by kernel_rfl
theorem q_ag (x0 : LL) : φ_ag [C.list x0] = retOf (F_ag x0) := by kernel_rfl
theorem q_ct (x0 : Int) (x1 : Bool) (x2 : Int) (x3 : LL) (x4 : Int) (x5 : Bool) : φ_ct [C.int .i64 x0, C.bool x1, C.int .i64 x2, C.list x3, C.int .i64 x4, C.bool x5] = retOf (F_ct x0 x1 x2 x3 x4 x5) := by kernel_rfl
theorem q_bt (x0 : Bool) (x1 : LL) (x2 : Int) (x3 : LL) (x4 : LL) (x5 : LL) (x6 : Int) (x7 : Int) (x8 : Int) (x9 : Int) : φ_bt [C.bool x0, C.list x1, C.int .i64 x2, C.list x3, C.list x4, C.list x5, C.int .i64 x6, C.int .i64 x7, C.int .i64 x8, C.int .i64 x9] = retOf (F_bt x0 x1 x2 x3 x4 x5 x6 x7 x8 x9) := by kernel_rfl
theorem q_eb (x0 : Int) (x1 : Bool) (x2 : Int) (x3 : LL) (x4 : Int) : φ_eb [C.int .i64 x0, C.bool x1, C.int .i64 x2, C.list x3, C.int .i64 x4] = retOf (F_eb x0 x1 x2 x3 x4) := by kernel_rfl
theorem q_cz (x0 : LL) : φ_cz [C.list x0] = retOf (F_cz x0) := by kernel_rfl
theorem q_cv (x0 : LL) (x1 : Int) : φ_cv [C.list x0, C.int .i64 x1] = retOf (F_cv x0 x1) := by kernel_rfl
theorem q_fd (x0 : Int) (x1 : Int) (x2 : LL) (x3 : Int) (x4 : Int) (x5 : LL) : φ_fd [C.int .i64 x0, C.int .i64 x1, C.list x2, C.int .i64 x3, C.int .i64 x4, C.list x5] = retOf (F_fd x0 x1 x2 x3 x4 x5) := by kernel_rfl
theorem q_cn (x0 : Int) : φ_cn [C.int .i64 x0] = retOf (F_cn x0) := by kernel_rfl
theorem q_ew (x0 : LL) : φ_ew [C.list x0] = retOf (F_ew x0) := by kernel_rfl
theorem q_cl (x0 : LL) (x1 : Int) : φ_cl [C.list x0, C.int .i64 x1] = retOf (F_cl x0 x1) := by kernel_rfl
theorem q_fn (x0 : Int) (x1 : Int) (x2 : Int) : φ_fn [C.int .i64 x0, C.int .i64 x1, C.int .i64 x2] = retOf (F_fn x0 x1 x2) := by kernel_rfl
theorem q_bk (x0 : Bool) (x1 : LL) (x2 : Int) (x3 : LL) (x4 : Int) (x5 : Int) (x6 : Int) (x7 : LL) : φ_bk [C.bool x0, C.list x1, C.int .i64 x2, C.list x3, C.int .i64 x4, C.int .i64 x5, C.int .i64 x6, C.list x7] = retOf (F_bk x0 x1 x2 x3 x4 x5 x6 x7) := by kernel_rfl
theorem q_di (x0 : Bool) (x1 : LL) (x2 : Int) (x3 : LL) (x4 : Int) : φ_di [C.bool x0, C.list x1, C.int .i64 x2, C.list x3, C.int .i64 x4] = retOf (F_di x0 x1 x2 x3 x4) := by kernel_rfl
theorem q_af (x0 : LL) : φ_af [C.list x0] = retOf (F_af x0) := by kernel_rfl
theorem q_ak (x0 : LL) : φ_ak [C.list x0] = retOf (F_ak x0) := by kernel_rfl
theorem q_ci (x0 : Int) (x1 : Int) (x2 : Int) (x3 : Int) : φ_ci [C.int .i64 x0, C.int .i64 x1, C.int .i64 x2, C.int .i64 x3] = retOf (F_ci x0 x1 x2 x3) := by kernel_rfl
theorem q_bs (x0 : Int) : φ_bs [C.int .i64 x0] = retOf (F_bs x0) := by kernel_rfl
theorem q_bw (x0 : Bool) (x1 : LL) (x2 : Int) (x3 : LL) (x4 : Int) (x5 : Int) (x6 : Int) : φ_bw [C.bool x0, C.list x1, C.int .i64 x2, C.list x3, C.int .i64 x4, C.int .i64 x5, C.int .i64 x6] = retOf (F_bw x0 x1 x2 x3 x4 x5 x6) := by kernel_rfl
theorem q_dv (x0 : Int) : φ_dv [C.int .i64 x0] = retOf (F_dv x0) := by kernel_rfl
theorem q_bp (x0 : Int) : φ_bp [C.int .i64 x0] = retOf (F_bp x0) := by kernel_rfl
end Dx
