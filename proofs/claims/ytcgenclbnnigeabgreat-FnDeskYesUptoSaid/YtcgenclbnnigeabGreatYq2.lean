/- The typed texts are the trees'. -/
import Derived.Test.YtcgenclbnnigeabGreatYb
set_option linter.all false
set_option linter.unusedVariables false
set_option linter.unusedSimpArgs false
set_option linter.unnecessarySimpa false
namespace Dx
open Go
theorem q_bn (x0 : LL) (x1 : Int) (x2 : Bool) (x3 : LL) (x4 : Int) (x5 : LL) (x6 : LL) (x7 : LL) : φ_bn [C.list x0, C.int .i64 x1, C.bool x2, C.list x3, C.int .i64 x4, C.list x5, C.list x6, C.list x7] = retOf (F_bn x0 x1 x2 x3 x4 x5 x6 x7) := by kernel_rfl
theorem q_cg (x0 : LL) (x1 : Int) : φ_cg [C.list x0, C.int .i64 x1] = retOf (F_cg x0 x1) := by kernel_rfl
theorem q_ce (x0 : Int) (x1 : Bool) (x2 : Int) (x3 : LL) (x4 : Int) (x5 : Int) (x6 : Int) (x7 : Int) (x8 : Int) : φ_ce [C.int .i64 x0, C.bool x1, C.int .i64 x2, C.list x3, C.int .i64 x4, C.int .i64 x5, C.int .i64 x6, C.int .i64 x7, C.int .i64 x8] = retOf (F_ce x0 x1 x2 x3 x4 x5 x6 x7 x8) := by kernel_rfl
theorem q_cj (x0 : Bool) (x1 : LL) (x2 : Int) (x3 : LL) (x4 : LL) (x5 : LL) (x6 : Int) (x7 : Int) (x8 : Int) (x9 : LL) : φ_cj [C.bool x0, C.list x1, C.int .i64 x2, C.list x3, C.list x4, C.list x5, C.int .i64 x6, C.int .i64 x7, C.int .i64 x8, C.list x9] = retOf (F_cj x0 x1 x2 x3 x4 x5 x6 x7 x8 x9) := by kernel_rfl
theorem q_al (x0 : LL) : φ_al [C.list x0] = retOf (F_al x0) := by kernel_rfl
theorem q_cn (x0 : Bool) (x1 : LL) (x2 : Int) (x3 : LL) (x4 : LL) (x5 : LL) (x6 : Int) (x7 : Int) (x8 : Int) (x9 : LL) : φ_cn [C.bool x0, C.list x1, C.int .i64 x2, C.list x3, C.list x4, C.list x5, C.int .i64 x6, C.int .i64 x7, C.int .i64 x8, C.list x9] = retOf (F_cn x0 x1 x2 x3 x4 x5 x6 x7 x8 x9) := by kernel_rfl
theorem q_cc (x0 : LL) (x1 : Int) (x2 : Int) (x3 : LL) : φ_cc [C.list x0, C.int .i64 x1, C.int .i64 x2, C.list x3] = retOf (F_cc x0 x1 x2 x3) := by kernel_rfl
theorem q_cw (x0 : Bool) (x1 : LL) (x2 : Int) (x3 : LL) (x4 : LL) (x5 : LL) (x6 : Int) (x7 : Int) (x8 : Int) (x9 : LL) : φ_cw [C.bool x0, C.list x1, C.int .i64 x2, C.list x3, C.list x4, C.list x5, C.int .i64 x6, C.int .i64 x7, C.int .i64 x8, C.list x9] = retOf (F_cw x0 x1 x2 x3 x4 x5 x6 x7 x8 x9) := by kernel_rfl
theorem q_ct (x0 : Bool) (x1 : LL) (x2 : Int) (x3 : LL) : φ_ct [C.bool x0, C.list x1, C.int .i64 x2, C.list x3] = retOf (F_ct x0 x1 x2 x3) := by kernel_rfl
theorem q_ba (x0 : Bool) (x1 : LL) (x2 : Int) (x3 : LL) (x4 : Int) (x5 : Int) (x6 : Int) (x7 : Int) : φ_ba [C.bool x0, C.list x1, C.int .i64 x2, C.list x3, C.int .i64 x4, C.int .i64 x5, C.int .i64 x6, C.int .i64 x7] = retOf (F_ba x0 x1 x2 x3 x4 x5 x6 x7) := by kernel_rfl
theorem q_eb (x0 : Int) (x1 : LL) : φ_eb [C.int .i64 x0, C.list x1] = retOf (F_eb x0 x1) := by kernel_rfl
theorem q_bt (x0 : LL) (x1 : Int) (x2 : Int) (x3 : LL) : φ_bt [C.list x0, C.int .i64 x1, C.int .i64 x2, C.list x3] = retOf (F_bt x0 x1 x2 x3) := by kernel_rfl
theorem q_dr (x0 : LL) : φ_dr [C.list x0] = retOf (F_dr x0) := by kernel_rfl
theorem q_dg (x0 : LL) (x1 : Int) (x2 : Int) (x3 : Int) (x4 : LL) : φ_dg [C.list x0, C.int .i64 x1, C.int .i64 x2, C.int .i64 x3, C.list x4] = retOf (F_dg x0 x1 x2 x3 x4) := by kernel_rfl
theorem q_dn (x0 : LL) (x1 : LL) : φ_dn [C.list x0, C.list x1] = retOf (F_dn x0 x1) := by kernel_rfl
theorem q_dt (x0 : LL) (x1 : Int) : φ_dt [C.list x0, C.int .i64 x1] = retOf (F_dt x0 x1) := by kernel_rfl
theorem q_dv (x0 : LL) (x1 : Int) (x2 : LL) (x3 : Int) : φ_dv [C.list x0, C.int .i64 x1, C.list x2, C.int .i64 x3] = retOf (F_dv x0 x1 x2 x3) := by kernel_rfl
theorem q_dk (x0 : LL) (x1 : LL) : φ_dk [C.list x0, C.list x1] = retOf (F_dk x0 x1) := by kernel_rfl
theorem q_bl (x0 : Int) (x1 : Int) : φ_bl [C.int .i64 x0, C.int .i64 x1] = retOf (F_bl x0 x1) := by kernel_rfl
theorem q_cf (x0 : LL) (x1 : Int) (x2 : Int) (x3 : Int) (x4 : Int) : φ_cf [C.list x0, C.int .i64 x1, C.int .i64 x2, C.int .i64 x3, C.int .i64 x4] = retOf (F_cf x0 x1 x2 x3 x4) := by kernel_rfl
theorem q_bx (x0 : Bool) (x1 : LL) (x2 : Int) (x3 : LL) (x4 : Int) (x5 : Int) (x6 : Int) (x7 : Int) : φ_bx [C.bool x0, C.list x1, C.int .i64 x2, C.list x3, C.int .i64 x4, C.int .i64 x5, C.int .i64 x6, C.int .i64 x7] = retOf (F_bx x0 x1 x2 x3 x4 x5 x6 x7) := by kernel_rfl
theorem q_cv (x0 : LL) (x1 : Int) (x2 : Int) : φ_cv [C.list x0, C.int .i64 x1, C.int .i64 x2] = retOf (F_cv x0 x1 x2) := by kernel_rfl
theorem q_ab (x0 : LL) : φ_ab [C.list x0] = retOf (F_ab x0) := by kernel_rfl
theorem q_bp (x0 : Int) (x1 : Bool) (x2 : Int) (x3 : LL) (x4 : Int) (x5 : Bool) : φ_bp [C.int .i64 x0, C.bool x1, C.int .i64 x2, C.list x3, C.int .i64 x4, C.bool x5] = retOf (F_bp x0 x1 x2 x3 x4 x5) := by kernel_rfl
theorem q_bv (x0 : Bool) (x1 : LL) (x2 : Int) (x3 : LL) (x4 : Bool) : φ_bv [C.bool x0, C.list x1, C.int .i64 x2, C.list x3, C.bool x4] = retOf (F_bv x0 x1 x2 x3 x4) := by kernel_rfl
theorem q_br (x0 : LL) : φ_br [C.list x0] = retOf (F_br x0) := by kernel_rfl
theorem q_bw (x0 : Int) : φ_bw [C.int .i64 x0] = retOf (F_bw x0) := by kernel_rfl
theorem q_cm (x0 : Bool) (x1 : LL) (x2 : Int) (x3 : LL) : φ_cm [C.bool x0, C.list x1, C.int .i64 x2, C.list x3] = retOf (F_cm x0 x1 x2 x3) := by kernel_rfl
theorem q_bh (x0 : LL) (x1 : Int) : φ_bh [C.list x0, C.int .i64 x1] = retOf (F_bh x0 x1) := by kernel_rfl
theorem q_be (x0 : Int) (x1 : Int) (x2 : LL) : φ_be [C.int .i64 x0, C.int .i64 x1, C.list x2] = retOf (F_be x0 x1 x2) := by kernel_rfl
theorem q_ec (x0 : Int) (x1 : Int) (x2 : Int) : φ_ec [C.int .i64 x0, C.int .i64 x1, C.int .i64 x2] = retOf (F_ec x0 x1 x2) := by kernel_rfl
theorem q_am (x0 : Bool) (x1 : LL) (x2 : Int) (x3 : LL) : φ_am [C.bool x0, C.list x1, C.int .i64 x2, C.list x3] = retOf (F_am x0 x1 x2 x3) := by kernel_rfl
theorem q_ac (x0 : LL) : φ_ac [C.list x0] = retOf (F_ac x0) := by kernel_rfl
theorem q_ad (x0 : LL) : φ_ad [C.list x0] = retOf (F_ad x0) := by kernel_rfl
theorem q_cb : φ_cb [] = retOf (F_cb) := by kernel_rfl
theorem q_at (x0 : Int) (x1 : Int) (x2 : LL) : φ_at [C.int .i64 x0, C.int .i64 x1, C.list x2] = retOf (F_at x0 x1 x2) := by kernel_rfl
theorem q_ar (x0 : Int) : φ_ar [C.int .i64 x0] = retOf (F_ar x0) := by kernel_rfl
end Dx
