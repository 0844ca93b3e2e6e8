/- The typed texts are the trees'. -/
import Derived.Test.YtcgenclbnnigeaaGreatYb
set_option linter.all false
set_option linter.unusedVariables false
set_option linter.unusedSimpArgs false
set_option linter.unnecessarySimpa false
namespace Dx
open Go
theorem q_cy (x0 : LL) (x1 : Int) (x2 : Bool) (x3 : LL) (x4 : Int) (x5 : LL) (x6 : LL) (x7 : LL) : φ_cy [C.list x0, C.int .i64 x1, C.bool x2, C.list x3, C.int .i64 x4, C.list x5, C.list x6, C.list x7] = retOf (F_cy x0 x1 x2 x3 x4 x5 x6 x7) := by kernel_rfl
theorem q_db (x0 : Bool) (x1 : LL) (x2 : Int) (x3 : LL) (x4 : LL) (x5 : LL) (x6 : Int) (x7 : Int) (x8 : Int) (x9 : LL) : φ_db [C.bool x0, C.list x1, C.int .i64 x2, C.list x3, C.list x4, C.list x5, C.int .i64 x6, C.int .i64 x7, C.int .i64 x8, C.list x9] = retOf (F_db x0 x1 x2 x3 x4 x5 x6 x7 x8 x9) := by kernel_rfl
theorem q_dt (x0 : LL) (x1 : Int) : φ_dt [C.list x0, C.int .i64 x1] = retOf (F_dt x0 x1) := by kernel_rfl
theorem q_fn (x0 : Bool) (x1 : LL) (x2 : Int) (x3 : LL) (x4 : LL) (x5 : LL) (x6 : Int) (x7 : Int) (x8 : Int) (x9 : LL) : φ_fn [C.bool x0, C.list x1, C.int .i64 x2, C.list x3, C.list x4, C.list x5, C.int .i64 x6, C.int .i64 x7, C.int .i64 x8, C.list x9] = retOf (F_fn x0 x1 x2 x3 x4 x5 x6 x7 x8 x9) := by kernel_rfl
theorem q_dr (x0 : Bool) (x1 : LL) (x2 : Int) (x3 : LL) (x4 : LL) (x5 : LL) (x6 : Int) (x7 : Int) (x8 : Int) (x9 : LL) : φ_dr [C.bool x0, C.list x1, C.int .i64 x2, C.list x3, C.list x4, C.list x5, C.int .i64 x6, C.int .i64 x7, C.int .i64 x8, C.list x9] = retOf (F_dr x0 x1 x2 x3 x4 x5 x6 x7 x8 x9) := by kernel_rfl
theorem q_cu (x0 : Bool) (x1 : LL) (x2 : Int) (x3 : LL) : φ_cu [C.bool x0, C.list x1, C.int .i64 x2, C.list x3] = retOf (F_cu x0 x1 x2 x3) := by kernel_rfl
theorem q_ch (x0 : LL) (x1 : Int) (x2 : Int) : φ_ch [C.list x0, C.int .i64 x1, C.int .i64 x2] = retOf (F_ch x0 x1 x2) := by kernel_rfl
theorem q_ca (x0 : Int) (x1 : Bool) (x2 : Int) (x3 : LL) (x4 : Int) (x5 : Int) (x6 : Int) (x7 : Int) (x8 : Int) (x9 : Int) : φ_ca [C.int .i64 x0, C.bool x1, C.int .i64 x2, C.list x3, C.int .i64 x4, C.int .i64 x5, C.int .i64 x6, C.int .i64 x7, C.int .i64 x8, C.int .i64 x9] = retOf (F_ca x0 x1 x2 x3 x4 x5 x6 x7 x8 x9) := by kernel_rfl
theorem q_ey (x0 : Bool) (x1 : LL) (x2 : Int) (x3 : LL) (x4 : LL) (x5 : LL) (x6 : Int) (x7 : Int) (x8 : Int) (x9 : LL) : φ_ey [C.bool x0, C.list x1, C.int .i64 x2, C.list x3, C.list x4, C.list x5, C.int .i64 x6, C.int .i64 x7, C.int .i64 x8, C.list x9] = retOf (F_ey x0 x1 x2 x3 x4 x5 x6 x7 x8 x9) := by kernel_rfl
theorem q_ba (x0 : LL) : φ_ba [C.list x0] = retOf (F_ba x0) := by kernel_rfl
theorem q_cr (x0 : Bool) (x1 : LL) (x2 : Int) (x3 : LL) (x4 : LL) (x5 : LL) (x6 : Int) : φ_cr [C.bool x0, C.list x1, C.int .i64 x2, C.list x3, C.list x4, C.list x5, C.int .i64 x6] = retOf (F_cr x0 x1 x2 x3 x4 x5 x6) := by kernel_rfl
theorem q_cv (x0 : LL) : φ_cv [C.list x0] = retOf (F_cv x0) := by kernel_rfl
theorem q_do (x0 : Bool) (x1 : LL) (x2 : Int) (x3 : LL) (x4 : LL) (x5 : LL) (x6 : Bool) (x7 : LL) (x8 : Int) (x9 : LL) (x10 : LL) (x11 : LL) : φ_do [C.bool x0, C.list x1, C.int .i64 x2, C.list x3, C.list x4, C.list x5, C.bool x6, C.list x7, C.int .i64 x8, C.list x9, C.list x10, C.list x11] = retOf (F_do x0 x1 x2 x3 x4 x5 x6 x7 x8 x9 x10 x11) := by kernel_rfl
theorem q_bl (x0 : Bool) (x1 : LL) (x2 : Int) (x3 : LL) (x4 : Int) (x5 : Int) (x6 : LL) : φ_bl [C.bool x0, C.list x1, C.int .i64 x2, C.list x3, C.int .i64 x4, C.int .i64 x5, C.list x6] = retOf (F_bl x0 x1 x2 x3 x4 x5 x6) := by kernel_rfl
theorem q_dq (x0 : Bool) (x1 : LL) (x2 : Int) (x3 : LL) (x4 : LL) (x5 : LL) (x6 : Int) (x7 : Int) (x8 : Int) (x9 : Int) : φ_dq [C.bool x0, C.list x1, C.int .i64 x2, C.list x3, C.list x4, C.list x5, C.int .i64 x6, C.int .i64 x7, C.int .i64 x8, C.int .i64 x9] = retOf (F_dq x0 x1 x2 x3 x4 x5 x6 x7 x8 x9) := by kernel_rfl
theorem q_aa (x0 : Bool) (x1 : LL) (x2 : Int) (x3 : LL) (x4 : LL) (x5 : LL) (x6 : Int) (x7 : Int) (x8 : Int) (x9 : Int) (x10 : LL) (x11 : Int) (x12 : Int) (x13 : Int) (x14 : LL) : φ_aa [C.bool x0, C.list x1, C.int .i64 x2, C.list x3, C.list x4, C.list x5, C.int .i64 x6, C.int .i64 x7, C.int .i64 x8, C.int .i64 x9, C.list x10, C.int .i64 x11, C.int .i64 x12, C.int .i64 x13, C.list x14] = retOf (F_aa x0 x1 x2 x3 x4 x5 x6 x7 x8 x9 x10 x11 x12 x13 x14) := by kernel_rfl
theorem q_ad (x0 : Bool) (x1 : LL) (x2 : Int) (x3 : LL) (x4 : LL) (x5 : LL) (x6 : Int) : φ_ad [C.bool x0, C.list x1, C.int .i64 x2, C.list x3, C.list x4, C.list x5, C.int .i64 x6] = retOf (F_ad x0 x1 x2 x3 x4 x5 x6) := by kernel_rfl
theorem q_fk (x0 : LL) : φ_fk [C.list x0] = retOf (F_fk x0) := by kernel_rfl
theorem q_er (x0 : LL) (x1 : Int) (x2 : Int) (x3 : Int) (x4 : LL) : φ_er [C.list x0, C.int .i64 x1, C.int .i64 x2, C.int .i64 x3, C.list x4] = retOf (F_er x0 x1 x2 x3 x4) := by kernel_rfl
theorem q_ew (x0 : LL) (x1 : LL) : φ_ew [C.list x0, C.list x1] = retOf (F_ew x0 x1) := by kernel_rfl
theorem q_ev (x0 : LL) : φ_ev [C.list x0] = retOf (F_ev x0) := by kernel_rfl
theorem q_fi (x0 : LL) (x1 : Int) : φ_fi [C.list x0, C.int .i64 x1] = retOf (F_fi x0 x1) := by kernel_rfl
theorem q_dv (x0 : Bool) (x1 : LL) (x2 : Int) (x3 : LL) (x4 : LL) (x5 : LL) (x6 : Int) (x7 : Int) (x8 : Int) (x9 : LL) : φ_dv [C.bool x0, C.list x1, C.int .i64 x2, C.list x3, C.list x4, C.list x5, C.int .i64 x6, C.int .i64 x7, C.int .i64 x8, C.list x9] = retOf (F_dv x0 x1 x2 x3 x4 x5 x6 x7 x8 x9) := by kernel_rfl
theorem q_bx (x0 : LL) (x1 : Int) (x2 : Int) (x3 : Int) : φ_bx [C.list x0, C.int .i64 x1, C.int .i64 x2, C.int .i64 x3] = retOf (F_bx x0 x1 x2 x3) := by kernel_rfl
theorem q_bk (x0 : Bool) (x1 : LL) (x2 : Int) (x3 : LL) (x4 : Int) (x5 : Int) (x6 : LL) : φ_bk [C.bool x0, C.list x1, C.int .i64 x2, C.list x3, C.int .i64 x4, C.int .i64 x5, C.list x6] = retOf (F_bk x0 x1 x2 x3 x4 x5 x6) := by kernel_rfl
theorem q_cl (x0 : Int) (x1 : Int) : φ_cl [C.int .i64 x0, C.int .i64 x1] = retOf (F_cl x0 x1) := by kernel_rfl
theorem q_dn (x0 : LL) (x1 : Int) (x2 : Int) (x3 : Int) (x4 : Int) : φ_dn [C.list x0, C.int .i64 x1, C.int .i64 x2, C.int .i64 x3, C.int .i64 x4] = retOf (F_dn x0 x1 x2 x3 x4) := by kernel_rfl
theorem q_ar (x0 : LL) (x1 : Int) (x2 : Int) (x3 : Int) (x4 : Int) : φ_ar [C.list x0, C.int .i64 x1, C.int .i64 x2, C.int .i64 x3, C.int .i64 x4] = retOf (F_ar x0 x1 x2 x3 x4) := by kernel_rfl
theorem q_aj (x0 : LL) : φ_aj [C.list x0] = retOf (F_aj x0) := by kernel_rfl
theorem q_bc (x0 : LL) : φ_bc [C.list x0] = retOf (F_bc x0) := by kernel_rfl
theorem q_ag (x0 : LL) : φ_ag [C.list x0] = retOf (F_ag x0) := by kernel_rfl
theorem q_dd (x0 : Int) (x1 : Bool) (x2 : Int) (x3 : LL) (x4 : Int) (x5 : Bool) : φ_dd [C.int .i64 x0, C.bool x1, C.int .i64 x2, C.list x3, C.int .i64 x4, C.bool x5] = retOf (F_dd x0 x1 x2 x3 x4 x5) := by kernel_rfl
theorem q_fj (x0 : LL) (x1 : Int) : φ_fj [C.list x0, C.int .i64 x1] = retOf (F_fj x0 x1) := by kernel_rfl
theorem q_fb (x0 : Bool) (x1 : LL) (x2 : Int) (x3 : LL) (x4 : LL) (x5 : LL) (x6 : Int) (x7 : Int) (x8 : Int) (x9 : Int) : φ_fb [C.bool x0, C.list x1, C.int .i64 x2, C.list x3, C.list x4, C.list x5, C.int .i64 x6, C.int .i64 x7, C.int .i64 x8, C.int .i64 x9] = retOf (F_fb x0 x1 x2 x3 x4 x5 x6 x7 x8 x9) := by kernel_rfl
theorem q_cp (x0 : Bool) (x1 : LL) (x2 : Int) (x3 : LL) (x4 : Int) : φ_cp [C.bool x0, C.list x1, C.int .i64 x2, C.list x3, C.int .i64 x4] = retOf (F_cp x0 x1 x2 x3 x4) := by kernel_rfl
theorem q_cq (x0 : LL) (x1 : Int) : φ_cq [C.list x0, C.int .i64 x1] = retOf (F_cq x0 x1) := by kernel_rfl
theorem q_ct (x0 : LL) (x1 : Int) : φ_ct [C.list x0, C.int .i64 x1] = retOf (F_ct x0 x1) := by kernel_rfl
theorem q_ep (x0 : Int) (x1 : Int) (x2 : Int) (x3 : Int) : φ_ep [C.int .i64 x0, C.int .i64 x1, C.int .i64 x2, C.int .i64 x3] = retOf (F_ep x0 x1 x2 x3) := by kernel_rfl
theorem q_fr (x0 : Int) (x1 : Int) (x2 : LL) (x3 : Int) (x4 : Int) (x5 : LL) : φ_fr [C.int .i64 x0, C.int .i64 x1, C.list x2, C.int .i64 x3, C.int .i64 x4, C.list x5] = retOf (F_fr x0 x1 x2 x3 x4 x5) := by kernel_rfl
theorem q_ck (x0 : Bool) (x1 : LL) (x2 : Int) (x3 : LL) : φ_ck [C.bool x0, C.list x1, C.int .i64 x2, C.list x3] = retOf (F_ck x0 x1 x2 x3) := by kernel_rfl
theorem q_bn (x0 : Int) (x1 : Bool) (x2 : Int) (x3 : LL) (x4 : Int) (x5 : Int) (x6 : Int) (x7 : Int) (x8 : LL) : φ_bn [C.int .i64 x0, C.bool x1, C.int .i64 x2, C.list x3, C.int .i64 x4, C.int .i64 x5, C.int .i64 x6, C.int .i64 x7, C.list x8] = retOf (F_bn x0 x1 x2 x3 x4 x5 x6 x7 x8) := by kernel_rfl
theorem q_fp (x0 : LL) (x1 : Int) (x2 : LL) (x3 : Int) : φ_fp [C.list x0, C.int .i64 x1, C.list x2, C.int .i64 x3] = retOf (F_fp x0 x1 x2 x3) := by kernel_rfl
theorem q_bs (x0 : Bool) (x1 : LL) (x2 : Int) (x3 : LL) (x4 : Int) (x5 : Int) (x6 : Int) (x7 : LL) : φ_bs [C.bool x0, C.list x1, C.int .i64 x2, C.list x3, C.int .i64 x4, C.int .i64 x5, C.int .i64 x6, C.list x7] = retOf (F_bs x0 x1 x2 x3 x4 x5 x6 x7) := by kernel_rfl
theorem q_bd (x0 : Bool) (x1 : LL) (x2 : Int) (x3 : LL) : φ_bd [C.bool x0, C.list x1, C.int .i64 x2, C.list x3] = retOf (F_bd x0 x1 x2 x3) := by kernel_rfl
theorem q_ac (x0 : LL) : φ_ac [C.list x0] = retOf (F_ac x0) := by kernel_rfl
theorem q_ai (x0 : LL) : φ_ai [C.list x0] = retOf (F_ai x0) := by kernel_rfl
theorem q_al (x0 : LL) : φ_al [C.list x0] = retOf (F_al x0) := by kernel_rfl
theorem q_bj (x0 : Int) : φ_bj [C.int .i64 x0] = retOf (F_bj x0) := by kernel_rfl
theorem q_df (x0 : Int) (x1 : Int) (x2 : LL) : φ_df [C.int .i64 x0, C.int .i64 x1, C.list x2] = retOf (F_df x0 x1 x2) := by kernel_rfl
theorem q_eb (x0 : Int) : φ_eb [C.int .i64 x0] = retOf (F_eb x0) := by kernel_rfl
theorem q_ez (x0 : Int) : φ_ez [C.int .i64 x0] = retOf (F_ez x0) := by kernel_rfl
end Dx
