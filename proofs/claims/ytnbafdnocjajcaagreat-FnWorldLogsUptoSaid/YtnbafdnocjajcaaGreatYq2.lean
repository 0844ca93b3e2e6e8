/- The typed texts are the trees'. -/
import Derived.Test.YtnbafdnocjajcaaGreatYb
set_option linter.all false
set_option linter.unusedVariables false
set_option linter.unusedSimpArgs false
set_option linter.unnecessarySimpa false
namespace Dx
open Go
theorem q_cv (x0 : LL) (x1 : Int) (x2 : Bool) (x3 : LL) (x4 : Int) (x5 : LL) (x6 : LL) (x7 : LL) : φ_cv [C.list x0, C.int .i64 x1, C.bool x2, C.list x3, C.int .i64 x4, C.list x5, C.list x6, C.list x7] = retOf (F_cv x0 x1 x2 x3 x4 x5 x6 x7) := by kernel_rfl
theorem q_dw (x0 : LL) (x1 : Int) : φ_dw [C.list x0, C.int .i64 x1] = retOf (F_dw x0 x1) := by kernel_rfl
theorem q_cu (x0 : Bool) (x1 : LL) (x2 : Int) (x3 : LL) : φ_cu [C.bool x0, C.list x1, C.int .i64 x2, C.list x3] = retOf (F_cu x0 x1 x2 x3) := by kernel_rfl
theorem q_as (x0 : Int) (x1 : Bool) (x2 : Int) (x3 : LL) (x4 : Int) (x5 : Int) (x6 : Int) (x7 : Int) (x8 : Int) : φ_as [C.int .i64 x0, C.bool x1, C.int .i64 x2, C.list x3, C.int .i64 x4, C.int .i64 x5, C.int .i64 x6, C.int .i64 x7, C.int .i64 x8] = retOf (F_as x0 x1 x2 x3 x4 x5 x6 x7 x8) := by kernel_rfl
theorem q_cf (x0 : Int) (x1 : Bool) (x2 : Int) (x3 : LL) (x4 : Int) (x5 : Int) (x6 : Int) (x7 : Int) (x8 : Int) : φ_cf [C.int .i64 x0, C.bool x1, C.int .i64 x2, C.list x3, C.int .i64 x4, C.int .i64 x5, C.int .i64 x6, C.int .i64 x7, C.int .i64 x8] = retOf (F_cf x0 x1 x2 x3 x4 x5 x6 x7 x8) := by kernel_rfl
theorem q_ea (x0 : Bool) (x1 : LL) (x2 : Int) (x3 : LL) (x4 : LL) (x5 : LL) (x6 : Int) (x7 : Int) (x8 : Int) (x9 : LL) : φ_ea [C.bool x0, C.list x1, C.int .i64 x2, C.list x3, C.list x4, C.list x5, C.int .i64 x6, C.int .i64 x7, C.int .i64 x8, C.list x9] = retOf (F_ea x0 x1 x2 x3 x4 x5 x6 x7 x8 x9) := by kernel_rfl
theorem q_cc (x0 : Int) (x1 : Bool) (x2 : Int) (x3 : LL) (x4 : Int) (x5 : Int) (x6 : Int) (x7 : Int) (x8 : Int) (x9 : Int) : φ_cc [C.int .i64 x0, C.bool x1, C.int .i64 x2, C.list x3, C.int .i64 x4, C.int .i64 x5, C.int .i64 x6, C.int .i64 x7, C.int .i64 x8, C.int .i64 x9] = retOf (F_cc x0 x1 x2 x3 x4 x5 x6 x7 x8 x9) := by kernel_rfl
theorem q_et (x0 : Bool) (x1 : LL) (x2 : Int) (x3 : LL) : φ_et [C.bool x0, C.list x1, C.int .i64 x2, C.list x3] = retOf (F_et x0 x1 x2 x3) := by kernel_rfl
theorem q_ct (x0 : Bool) (x1 : LL) (x2 : Int) (x3 : LL) (x4 : LL) (x5 : LL) (x6 : Int) : φ_ct [C.bool x0, C.list x1, C.int .i64 x2, C.list x3, C.list x4, C.list x5, C.int .i64 x6] = retOf (F_ct x0 x1 x2 x3 x4 x5 x6) := by kernel_rfl
theorem q_df (x0 : LL) : φ_df [C.list x0] = retOf (F_df x0) := by kernel_rfl
theorem q_by (x0 : LL) (x1 : LL) : φ_by [C.list x0, C.list x1] = retOf (F_by x0 x1) := by kernel_rfl
theorem q_dt (x0 : Bool) (x1 : LL) (x2 : Int) (x3 : LL) (x4 : LL) (x5 : LL) (x6 : Bool) (x7 : LL) (x8 : Int) (x9 : LL) (x10 : LL) (x11 : LL) : φ_dt [C.bool x0, C.list x1, C.int .i64 x2, C.list x3, C.list x4, C.list x5, C.bool x6, C.list x7, C.int .i64 x8, C.list x9, C.list x10, C.list x11] = retOf (F_dt x0 x1 x2 x3 x4 x5 x6 x7 x8 x9 x10 x11) := by kernel_rfl
theorem q_spec_l2Do (x0 : Int) (x1 : LL) (x2 : Int) (x3 : Int) (x4 : LL) : φ_spec_l2Do [C.int .i64 x0, C.list x1, C.int .i64 x2, C.int .i64 x3, C.list x4] = retOf (F_spec_l2Do x0 x1 x2 x3 x4) := by kernel_rfl
theorem q_dr (x0 : Int) (x1 : LL) (x2 : Int) (x3 : Int) (x4 : LL) : φ_dr [C.int .i64 x0, C.list x1, C.int .i64 x2, C.int .i64 x3, C.list x4] = retOf (F_dr x0 x1 x2 x3 x4) := by kernel_rfl
theorem q_eh (x0 : LL) (x1 : Int) (x2 : Int) (x3 : LL) : φ_eh [C.list x0, C.int .i64 x1, C.int .i64 x2, C.list x3] = retOf (F_eh x0 x1 x2 x3) := by kernel_rfl
theorem q_fb (x0 : LL) : φ_fb [C.list x0] = retOf (F_fb x0) := by kernel_rfl
theorem q_ac (x0 : Bool) (x1 : LL) (x2 : Int) (x3 : LL) (x4 : LL) (x5 : LL) (x6 : Int) : φ_ac [C.bool x0, C.list x1, C.int .i64 x2, C.list x3, C.list x4, C.list x5, C.int .i64 x6] = retOf (F_ac x0 x1 x2 x3 x4 x5 x6) := by kernel_rfl
theorem q_ff (x0 : Int) (x1 : Int) (x2 : LL) : φ_ff [C.int .i64 x0, C.int .i64 x1, C.list x2] = retOf (F_ff x0 x1 x2) := by kernel_rfl
theorem q_ew (x0 : LL) (x1 : LL) : φ_ew [C.list x0, C.list x1] = retOf (F_ew x0 x1) := by kernel_rfl
theorem q_bk (x0 : Int) (x1 : LL) : φ_bk [C.int .i64 x0, C.list x1] = retOf (F_bk x0 x1) := by kernel_rfl
theorem q_el (x0 : Int) (x1 : Int) (x2 : Int) (x3 : Int) : φ_el [C.int .i64 x0, C.int .i64 x1, C.int .i64 x2, C.int .i64 x3] = retOf (F_el x0 x1 x2 x3) := by kernel_rfl
theorem q_ds (x0 : Int) (x1 : LL) : φ_ds [C.int .i64 x0, C.list x1] = retOf (F_ds x0 x1) := by kernel_rfl
theorem q_cs (x0 : Bool) (x1 : LL) (x2 : Int) (x3 : LL) (x4 : Int) (x5 : Int) (x6 : LL) : φ_cs [C.bool x0, C.list x1, C.int .i64 x2, C.list x3, C.int .i64 x4, C.int .i64 x5, C.list x6] = retOf (F_cs x0 x1 x2 x3 x4 x5 x6) := by kernel_rfl
theorem q_dv (x0 : Int) (x1 : LL) : φ_dv [C.int .i64 x0, C.list x1] = retOf (F_dv x0 x1) := by kernel_rfl
theorem q_ec (x0 : LL) (x1 : Int) (x2 : Int) (x3 : Int) (x4 : Int) : φ_ec [C.list x0, C.int .i64 x1, C.int .i64 x2, C.int .i64 x3, C.int .i64 x4] = retOf (F_ec x0 x1 x2 x3 x4) := by kernel_rfl
theorem q_ar (x0 : LL) : φ_ar [C.list x0] = retOf (F_ar x0) := by kernel_rfl
theorem q_dy (x0 : LL) (x1 : Int) (x2 : Int) : φ_dy [C.list x0, C.int .i64 x1, C.int .i64 x2] = retOf (F_dy x0 x1 x2) := by kernel_rfl
theorem q_af (x0 : LL) : φ_af [C.list x0] = retOf (F_af x0) := by kernel_rfl
theorem q_ah (x0 : LL) : φ_ah [C.list x0] = retOf (F_ah x0) := by kernel_rfl
theorem q_cy (x0 : Int) (x1 : Bool) (x2 : Int) (x3 : LL) (x4 : Int) (x5 : Bool) : φ_cy [C.int .i64 x0, C.bool x1, C.int .i64 x2, C.list x3, C.int .i64 x4, C.bool x5] = retOf (F_cy x0 x1 x2 x3 x4 x5) := by kernel_rfl
theorem q_bj (x0 : Bool) (x1 : LL) (x2 : Int) (x3 : LL) (x4 : LL) (x5 : LL) (x6 : Int) (x7 : Int) (x8 : Int) (x9 : Int) : φ_bj [C.bool x0, C.list x1, C.int .i64 x2, C.list x3, C.list x4, C.list x5, C.int .i64 x6, C.int .i64 x7, C.int .i64 x8, C.int .i64 x9] = retOf (F_bj x0 x1 x2 x3 x4 x5 x6 x7 x8 x9) := by kernel_rfl
theorem q_ed (x0 : Int) (x1 : Bool) (x2 : Int) (x3 : LL) (x4 : Int) : φ_ed [C.int .i64 x0, C.bool x1, C.int .i64 x2, C.list x3, C.int .i64 x4] = retOf (F_ed x0 x1 x2 x3 x4) := by kernel_rfl
theorem q_cm (x0 : LL) : φ_cm [C.list x0] = retOf (F_cm x0) := by kernel_rfl
theorem q_db (x0 : LL) (x1 : Int) : φ_db [C.list x0, C.int .i64 x1] = retOf (F_db x0 x1) := by kernel_rfl
theorem q_fh (x0 : Int) (x1 : Int) (x2 : LL) (x3 : Int) (x4 : Int) (x5 : LL) : φ_fh [C.int .i64 x0, C.int .i64 x1, C.list x2, C.int .i64 x3, C.int .i64 x4, C.list x5] = retOf (F_fh x0 x1 x2 x3 x4 x5) := by kernel_rfl
theorem q_dc (x0 : Int) : φ_dc [C.int .i64 x0] = retOf (F_dc x0) := by kernel_rfl
theorem q_es (x0 : LL) : φ_es [C.list x0] = retOf (F_es x0) := by kernel_rfl
theorem q_cj (x0 : LL) (x1 : Int) : φ_cj [C.list x0, C.int .i64 x1] = retOf (F_cj x0 x1) := by kernel_rfl
theorem q_fk (x0 : Int) (x1 : Int) (x2 : Int) : φ_fk [C.int .i64 x0, C.int .i64 x1, C.int .i64 x2] = retOf (F_fk x0 x1 x2) := by kernel_rfl
theorem q_bs (x0 : Bool) (x1 : LL) (x2 : Int) (x3 : LL) (x4 : Int) (x5 : Int) (x6 : Int) (x7 : LL) : φ_bs [C.bool x0, C.list x1, C.int .i64 x2, C.list x3, C.int .i64 x4, C.int .i64 x5, C.int .i64 x6, C.list x7] = retOf (F_bs x0 x1 x2 x3 x4 x5 x6 x7) := by kernel_rfl
theorem q_eb (x0 : Bool) (x1 : LL) (x2 : Int) (x3 : LL) (x4 : Int) : φ_eb [C.bool x0, C.list x1, C.int .i64 x2, C.list x3, C.int .i64 x4] = retOf (F_eb x0 x1 x2 x3 x4) := by kernel_rfl
theorem q_ag (x0 : LL) : φ_ag [C.list x0] = retOf (F_ag x0) := by kernel_rfl
theorem q_aj (x0 : LL) : φ_aj [C.list x0] = retOf (F_aj x0) := by kernel_rfl
theorem q_bm (x0 : Int) : φ_bm [C.int .i64 x0] = retOf (F_bm x0) := by kernel_rfl
theorem q_bz (x0 : Int) (x1 : Int) : φ_bz [C.int .i64 x0, C.int .i64 x1] = retOf (F_bz x0 x1) := by kernel_rfl
theorem q_dl : φ_dl [] = retOf (F_dl) := by kernel_rfl
theorem q_ba (x0 : Int) (x1 : Int) (x2 : Int) (x3 : Int) : φ_ba [C.int .i64 x0, C.int .i64 x1, C.int .i64 x2, C.int .i64 x3] = retOf (F_ba x0 x1 x2 x3) := by kernel_rfl
theorem q_bo (x0 : Int) : φ_bo [C.int .i64 x0] = retOf (F_bo x0) := by kernel_rfl
end Dx
