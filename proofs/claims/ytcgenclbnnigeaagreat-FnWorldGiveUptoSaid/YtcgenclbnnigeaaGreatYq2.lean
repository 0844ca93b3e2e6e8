/- The typed texts are the trees'. -/
import Derived.Test.YtcgenclbnnigeaaGreatYb
set_option linter.all false
set_option linter.unusedVariables false
set_option linter.unusedSimpArgs false
set_option linter.unnecessarySimpa false
namespace Dx
open Go
theorem q_fv (x0 : Bool) (x1 : LL) (x2 : Int) (x3 : LL) (x4 : LL) (x5 : LL) : φ_fv [C.bool x0, C.list x1, C.int .i64 x2, C.list x3, C.list x4, C.list x5] = retOf (F_fv x0 x1 x2 x3 x4 x5) := by kernel_rfl
theorem q_dw (x0 : Bool) (x1 : LL) (x2 : Int) (x3 : LL) (x4 : LL) (x5 : LL) (x6 : Int) (x7 : Int) (x8 : Int) (x9 : LL) : φ_dw [C.bool x0, C.list x1, C.int .i64 x2, C.list x3, C.list x4, C.list x5, C.int .i64 x6, C.int .i64 x7, C.int .i64 x8, C.list x9] = retOf (F_dw x0 x1 x2 x3 x4 x5 x6 x7 x8 x9) := by kernel_rfl
theorem q_ei (x0 : Int) (x1 : Bool) (x2 : Int) (x3 : LL) (x4 : Int) (x5 : Int) (x6 : Int) (x7 : Int) (x8 : Int) : φ_ei [C.int .i64 x0, C.bool x1, C.int .i64 x2, C.list x3, C.int .i64 x4, C.int .i64 x5, C.int .i64 x6, C.int .i64 x7, C.int .i64 x8] = retOf (F_ei x0 x1 x2 x3 x4 x5 x6 x7 x8) := by kernel_rfl
theorem q_el (x0 : Bool) (x1 : LL) (x2 : Int) (x3 : LL) (x4 : LL) (x5 : LL) (x6 : Int) (x7 : Int) (x8 : Int) (x9 : LL) : φ_el [C.bool x0, C.list x1, C.int .i64 x2, C.list x3, C.list x4, C.list x5, C.int .i64 x6, C.int .i64 x7, C.int .i64 x8, C.list x9] = retOf (F_el x0 x1 x2 x3 x4 x5 x6 x7 x8 x9) := by kernel_rfl
theorem q_dc (x0 : Bool) (x1 : LL) (x2 : Int) (x3 : LL) : φ_dc [C.bool x0, C.list x1, C.int .i64 x2, C.list x3] = retOf (F_dc x0 x1 x2 x3) := by kernel_rfl
theorem q_cc (x0 : Bool) (x1 : LL) (x2 : Int) (x3 : LL) (x4 : LL) (x5 : LL) : φ_cc [C.bool x0, C.list x1, C.int .i64 x2, C.list x3, C.list x4, C.list x5] = retOf (F_cc x0 x1 x2 x3 x4 x5) := by kernel_rfl
theorem q_et (x0 : LL) (x1 : Int) (x2 : Int) (x3 : LL) : φ_et [C.list x0, C.int .i64 x1, C.int .i64 x2, C.list x3] = retOf (F_et x0 x1 x2 x3) := by kernel_rfl
theorem q_cn (x0 : Bool) (x1 : LL) (x2 : Int) (x3 : LL) (x4 : LL) (x5 : LL) (x6 : Int) (x7 : Int) (x8 : Int) (x9 : LL) : φ_cn [C.bool x0, C.list x1, C.int .i64 x2, C.list x3, C.list x4, C.list x5, C.int .i64 x6, C.int .i64 x7, C.int .i64 x8, C.list x9] = retOf (F_cn x0 x1 x2 x3 x4 x5 x6 x7 x8 x9) := by kernel_rfl
theorem q_dg (x0 : Bool) (x1 : LL) (x2 : Int) (x3 : LL) (x4 : LL) (x5 : LL) (x6 : Int) : φ_dg [C.bool x0, C.list x1, C.int .i64 x2, C.list x3, C.list x4, C.list x5, C.int .i64 x6] = retOf (F_dg x0 x1 x2 x3 x4 x5 x6) := by kernel_rfl
theorem q_cg (x0 : LL) (x1 : LL) : φ_cg [C.list x0, C.list x1] = retOf (F_cg x0 x1) := by kernel_rfl
theorem q_ds (x0 : LL) : φ_ds [C.list x0] = retOf (F_ds x0) := by kernel_rfl
theorem q_ev (x0 : Bool) (x1 : LL) (x2 : Int) (x3 : LL) (x4 : LL) (x5 : LL) (x6 : Bool) (x7 : LL) (x8 : Int) (x9 : LL) (x10 : LL) (x11 : LL) : φ_ev [C.bool x0, C.list x1, C.int .i64 x2, C.list x3, C.list x4, C.list x5, C.bool x6, C.list x7, C.int .i64 x8, C.list x9, C.list x10, C.list x11] = retOf (F_ev x0 x1 x2 x3 x4 x5 x6 x7 x8 x9 x10 x11) := by kernel_rfl
theorem q_dm (x0 : Int) (x1 : LL) (x2 : Int) (x3 : Int) (x4 : LL) : φ_dm [C.int .i64 x0, C.list x1, C.int .i64 x2, C.int .i64 x3, C.list x4] = retOf (F_dm x0 x1 x2 x3 x4) := by kernel_rfl
theorem q_dv (x0 : LL) (x1 : Int) (x2 : Int) (x3 : LL) : φ_dv [C.list x0, C.int .i64 x1, C.int .i64 x2, C.list x3] = retOf (F_dv x0 x1 x2 x3) := by kernel_rfl
theorem q_aa (x0 : Bool) (x1 : LL) (x2 : Int) (x3 : LL) (x4 : LL) (x5 : LL) (x6 : Int) (x7 : Int) (x8 : Int) (x9 : Int) (x10 : LL) (x11 : Int) (x12 : Int) (x13 : Int) (x14 : LL) : φ_aa [C.bool x0, C.list x1, C.int .i64 x2, C.list x3, C.list x4, C.list x5, C.int .i64 x6, C.int .i64 x7, C.int .i64 x8, C.int .i64 x9, C.list x10, C.int .i64 x11, C.int .i64 x12, C.int .i64 x13, C.list x14] = retOf (F_aa x0 x1 x2 x3 x4 x5 x6 x7 x8 x9 x10 x11 x12 x13 x14) := by kernel_rfl
theorem q_cb (x0 : Bool) (x1 : LL) (x2 : Int) (x3 : LL) (x4 : LL) (x5 : LL) (x6 : Int) : φ_cb [C.bool x0, C.list x1, C.int .i64 x2, C.list x3, C.list x4, C.list x5, C.int .i64 x6] = retOf (F_cb x0 x1 x2 x3 x4 x5 x6) := by kernel_rfl
theorem q_aq (x0 : LL) : φ_aq [C.list x0] = retOf (F_aq x0) := by kernel_rfl
theorem q_ac (x0 : Bool) (x1 : LL) (x2 : Int) (x3 : LL) (x4 : LL) (x5 : LL) (x6 : Int) : φ_ac [C.bool x0, C.list x1, C.int .i64 x2, C.list x3, C.list x4, C.list x5, C.int .i64 x6] = retOf (F_ac x0 x1 x2 x3 x4 x5 x6) := by kernel_rfl
theorem q_fd (x0 : Int) (x1 : Int) (x2 : Int) (x3 : Int) : φ_fd [C.int .i64 x0, C.int .i64 x1, C.int .i64 x2, C.int .i64 x3] = retOf (F_fd x0 x1 x2 x3) := by kernel_rfl
theorem q_fy (x0 : Int) (x1 : LL) (x2 : Int) (x3 : Int) (x4 : LL) : φ_fy [C.int .i64 x0, C.list x1, C.int .i64 x2, C.int .i64 x3, C.list x4] = retOf (F_fy x0 x1 x2 x3 x4) := by kernel_rfl
theorem q_fa (x0 : LL) (x1 : LL) : φ_fa [C.list x0, C.list x1] = retOf (F_fa x0 x1) := by kernel_rfl
theorem q_bs (x0 : Int) (x1 : LL) : φ_bs [C.int .i64 x0, C.list x1] = retOf (F_bs x0 x1) := by kernel_rfl
theorem q_ff (x0 : Int) (x1 : Int) (x2 : Int) (x3 : Int) : φ_ff [C.int .i64 x0, C.int .i64 x1, C.int .i64 x2, C.int .i64 x3] = retOf (F_ff x0 x1 x2 x3) := by kernel_rfl
theorem q_fp (x0 : LL) (x1 : LL) : φ_fp [C.list x0, C.list x1] = retOf (F_fp x0 x1) := by kernel_rfl
theorem q_ca (x0 : Bool) (x1 : LL) (x2 : Int) (x3 : LL) (x4 : Int) (x5 : Int) (x6 : LL) : φ_ca [C.bool x0, C.list x1, C.int .i64 x2, C.list x3, C.int .i64 x4, C.int .i64 x5, C.list x6] = retOf (F_ca x0 x1 x2 x3 x4 x5 x6) := by kernel_rfl
theorem q_df (x0 : Int) (x1 : Int) : φ_df [C.int .i64 x0, C.int .i64 x1] = retOf (F_df x0 x1) := by kernel_rfl
theorem q_es (x0 : LL) : φ_es [C.list x0] = retOf (F_es x0) := by kernel_rfl
theorem q_cr (x0 : Bool) (x1 : LL) (x2 : Int) (x3 : LL) : φ_cr [C.bool x0, C.list x1, C.int .i64 x2, C.list x3] = retOf (F_cr x0 x1 x2 x3) := by kernel_rfl
theorem q_ex (x0 : LL) (x1 : Int) (x2 : Int) : φ_ex [C.list x0, C.int .i64 x1, C.int .i64 x2] = retOf (F_ex x0 x1 x2) := by kernel_rfl
theorem q_am (x0 : LL) : φ_am [C.list x0] = retOf (F_am x0) := by kernel_rfl
theorem q_bp (x0 : LL) : φ_bp [C.list x0] = retOf (F_bp x0) := by kernel_rfl
theorem q_eh (x0 : Int) (x1 : Bool) (x2 : Int) (x3 : LL) (x4 : Int) (x5 : Int) (x6 : Bool) (x7 : Int) (x8 : LL) (x9 : Int) : φ_eh [C.int .i64 x0, C.bool x1, C.int .i64 x2, C.list x3, C.int .i64 x4, C.int .i64 x5, C.bool x6, C.int .i64 x7, C.list x8, C.int .i64 x9] = retOf (F_eh x0 x1 x2 x3 x4 x5 x6 x7 x8 x9) := by kernel_rfl
theorem q_fw (x0 : LL) (x1 : Int) : φ_fw [C.list x0, C.int .i64 x1] = retOf (F_fw x0 x1) := by kernel_rfl
theorem q_bu (x0 : Bool) (x1 : LL) (x2 : Int) (x3 : LL) (x4 : LL) (x5 : LL) (x6 : Int) (x7 : Int) (x8 : Int) (x9 : Int) : φ_bu [C.bool x0, C.list x1, C.int .i64 x2, C.list x3, C.list x4, C.list x5, C.int .i64 x6, C.int .i64 x7, C.int .i64 x8, C.int .i64 x9] = retOf (F_bu x0 x1 x2 x3 x4 x5 x6 x7 x8 x9) := by kernel_rfl
theorem q_dz (x0 : Int) (x1 : Bool) (x2 : Int) (x3 : LL) (x4 : Int) : φ_dz [C.int .i64 x0, C.bool x1, C.int .i64 x2, C.list x3, C.int .i64 x4] = retOf (F_dz x0 x1 x2 x3 x4) := by kernel_rfl
theorem q_fz (x0 : LL) (x1 : Int) (x2 : Int) (x3 : Int) (x4 : LL) : φ_fz [C.list x0, C.int .i64 x1, C.int .i64 x2, C.int .i64 x3, C.list x4] = retOf (F_fz x0 x1 x2 x3 x4) := by kernel_rfl
theorem q_dn (x0 : LL) : φ_dn [C.list x0] = retOf (F_dn x0) := by kernel_rfl
theorem q_dd (x0 : Int) : φ_dd [C.int .i64 x0] = retOf (F_dd x0) := by kernel_rfl
theorem q_ga (x0 : Int) (x1 : Int) (x2 : LL) (x3 : Int) (x4 : Int) (x5 : LL) : φ_ga [C.int .i64 x0, C.int .i64 x1, C.list x2, C.int .i64 x3, C.int .i64 x4, C.list x5] = retOf (F_ga x0 x1 x2 x3 x4 x5) := by kernel_rfl
theorem q_cv (x0 : LL) (x1 : Int) : φ_cv [C.list x0, C.int .i64 x1] = retOf (F_cv x0 x1) := by kernel_rfl
theorem q_db (x0 : Int) (x1 : LL) : φ_db [C.int .i64 x0, C.list x1] = retOf (F_db x0 x1) := by kernel_rfl
theorem q_bq (x0 : Int) (x1 : Bool) (x2 : Int) (x3 : LL) (x4 : Int) (x5 : Int) (x6 : Int) (x7 : Int) (x8 : LL) : φ_bq [C.int .i64 x0, C.bool x1, C.int .i64 x2, C.list x3, C.int .i64 x4, C.int .i64 x5, C.int .i64 x6, C.int .i64 x7, C.list x8] = retOf (F_bq x0 x1 x2 x3 x4 x5 x6 x7 x8) := by kernel_rfl
theorem q_gd (x0 : Int) (x1 : Int) (x2 : Int) : φ_gd [C.int .i64 x0, C.int .i64 x1, C.int .i64 x2] = retOf (F_gd x0 x1 x2) := by kernel_rfl
theorem q_bg (x0 : Bool) (x1 : LL) (x2 : Int) (x3 : LL) : φ_bg [C.bool x0, C.list x1, C.int .i64 x2, C.list x3] = retOf (F_bg x0 x1 x2 x3) := by kernel_rfl
theorem q_ee (x0 : Bool) (x1 : LL) (x2 : Int) (x3 : LL) (x4 : Int) : φ_ee [C.bool x0, C.list x1, C.int .i64 x2, C.list x3, C.int .i64 x4] = retOf (F_ee x0 x1 x2 x3 x4) := by kernel_rfl
theorem q_ae (x0 : LL) : φ_ae [C.list x0] = retOf (F_ae x0) := by kernel_rfl
theorem q_ce (x0 : Bool) (x1 : LL) (x2 : Int) (x3 : LL) (x4 : Bool) : φ_ce [C.bool x0, C.list x1, C.int .i64 x2, C.list x3, C.bool x4] = retOf (F_ce x0 x1 x2 x3 x4) := by kernel_rfl
theorem q_ch (x0 : Int) (x1 : Int) (x2 : Int) (x3 : Int) : φ_ch [C.int .i64 x0, C.int .i64 x1, C.int .i64 x2, C.int .i64 x3] = retOf (F_ch x0 x1 x2 x3) := by kernel_rfl
theorem q_cz (x0 : Bool) (x1 : LL) (x2 : Int) (x3 : LL) (x4 : Int) (x5 : Int) (x6 : Int) : φ_cz [C.bool x0, C.list x1, C.int .i64 x2, C.list x3, C.int .i64 x4, C.int .i64 x5, C.int .i64 x6] = retOf (F_cz x0 x1 x2 x3 x4 x5 x6) := by kernel_rfl
theorem q_eu : φ_eu [] = retOf (F_eu) := by kernel_rfl
theorem q_fl (x0 : Int) : φ_fl [C.int .i64 x0] = retOf (F_fl x0) := by kernel_rfl
end Dx
