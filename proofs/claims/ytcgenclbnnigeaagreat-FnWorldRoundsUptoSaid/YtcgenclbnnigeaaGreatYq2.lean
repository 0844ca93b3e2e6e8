/- The typed texts are the trees'. -/
import Derived.Test.YtcgenclbnnigeaaGreatYb
set_option linter.all false
set_option linter.unusedVariables false
set_option linter.unusedSimpArgs false
set_option linter.unnecessarySimpa false
namespace Dx
open Go
theorem q_cn (x0 : LL) (x1 : Int) (x2 : Bool) (x3 : LL) (x4 : Int) (x5 : LL) (x6 : LL) (x7 : LL) : φ_cn [C.list x0, C.int .i64 x1, C.bool x2, C.list x3, C.int .i64 x4, C.list x5, C.list x6, C.list x7] = retOf (F_cn x0 x1 x2 x3 x4 x5 x6 x7) := by kernel_rfl
theorem q_dl (x0 : Int) (x1 : Bool) (x2 : Int) (x3 : LL) (x4 : Int) (x5 : Int) (x6 : Int) (x7 : Int) (x8 : Int) : φ_dl [C.int .i64 x0, C.bool x1, C.int .i64 x2, C.list x3, C.int .i64 x4, C.int .i64 x5, C.int .i64 x6, C.int .i64 x7, C.int .i64 x8] = retOf (F_dl x0 x1 x2 x3 x4 x5 x6 x7 x8) := by kernel_rfl
theorem q_cq (x0 : LL) (x1 : Int) : φ_cq [C.list x0, C.int .i64 x1] = retOf (F_cq x0 x1) := by kernel_rfl
theorem q_dt (x0 : Bool) (x1 : LL) (x2 : Int) (x3 : LL) (x4 : LL) (x5 : LL) (x6 : Int) (x7 : Int) (x8 : Int) (x9 : LL) : φ_dt [C.bool x0, C.list x1, C.int .i64 x2, C.list x3, C.list x4, C.list x5, C.int .i64 x6, C.int .i64 x7, C.int .i64 x8, C.list x9] = retOf (F_dt x0 x1 x2 x3 x4 x5 x6 x7 x8 x9) := by kernel_rfl
theorem q_cs (x0 : Bool) (x1 : LL) (x2 : Int) (x3 : LL) : φ_cs [C.bool x0, C.list x1, C.int .i64 x2, C.list x3] = retOf (F_cs x0 x1 x2 x3) := by kernel_rfl
theorem q_bg (x0 : Bool) (x1 : LL) (x2 : Int) (x3 : LL) : φ_bg [C.bool x0, C.list x1, C.int .i64 x2, C.list x3] = retOf (F_bg x0 x1 x2 x3) := by kernel_rfl
theorem q_dr (x0 : Bool) (x1 : LL) (x2 : Int) (x3 : LL) (x4 : LL) (x5 : LL) (x6 : Int) (x7 : Int) (x8 : Int) (x9 : LL) : φ_dr [C.bool x0, C.list x1, C.int .i64 x2, C.list x3, C.list x4, C.list x5, C.int .i64 x6, C.int .i64 x7, C.int .i64 x8, C.list x9] = retOf (F_dr x0 x1 x2 x3 x4 x5 x6 x7 x8 x9) := by kernel_rfl
theorem q_dd (x0 : Bool) (x1 : LL) (x2 : Int) (x3 : LL) (x4 : LL) (x5 : LL) : φ_dd [C.bool x0, C.list x1, C.int .i64 x2, C.list x3, C.list x4, C.list x5] = retOf (F_dd x0 x1 x2 x3 x4 x5) := by kernel_rfl
theorem q_es (x0 : Bool) (x1 : LL) (x2 : Int) (x3 : LL) : φ_es [C.bool x0, C.list x1, C.int .i64 x2, C.list x3] = retOf (F_es x0 x1 x2 x3) := by kernel_rfl
theorem q_cl (x0 : Bool) (x1 : LL) (x2 : Int) (x3 : LL) (x4 : LL) (x5 : LL) (x6 : Int) : φ_cl [C.bool x0, C.list x1, C.int .i64 x2, C.list x3, C.list x4, C.list x5, C.int .i64 x6] = retOf (F_cl x0 x1 x2 x3 x4 x5 x6) := by kernel_rfl
theorem q_br (x0 : Bool) (x1 : LL) (x2 : Int) (x3 : LL) (x4 : Int) (x5 : Int) (x6 : Int) (x7 : Int) : φ_br [C.bool x0, C.list x1, C.int .i64 x2, C.list x3, C.int .i64 x4, C.int .i64 x5, C.int .i64 x6, C.int .i64 x7] = retOf (F_br x0 x1 x2 x3 x4 x5 x6 x7) := by kernel_rfl
theorem q_cy (x0 : Bool) (x1 : LL) (x2 : Int) (x3 : LL) (x4 : LL) (x5 : LL) : φ_cy [C.bool x0, C.list x1, C.int .i64 x2, C.list x3, C.list x4, C.list x5] = retOf (F_cy x0 x1 x2 x3 x4 x5) := by kernel_rfl
theorem q_bz (x0 : Bool) (x1 : LL) (x2 : Int) (x3 : LL) (x4 : LL) (x5 : LL) (x6 : Int) : φ_bz [C.bool x0, C.list x1, C.int .i64 x2, C.list x3, C.list x4, C.list x5, C.int .i64 x6] = retOf (F_bz x0 x1 x2 x3 x4 x5 x6) := by kernel_rfl
theorem q_bm (x0 : Bool) (x1 : LL) (x2 : Int) (x3 : LL) (x4 : Int) (x5 : Int) (x6 : LL) : φ_bm [C.bool x0, C.list x1, C.int .i64 x2, C.list x3, C.int .i64 x4, C.int .i64 x5, C.list x6] = retOf (F_bm x0 x1 x2 x3 x4 x5 x6) := by kernel_rfl
theorem q_de (x0 : Bool) (x1 : LL) (x2 : Int) (x3 : LL) (x4 : LL) (x5 : LL) (x6 : Int) (x7 : Int) (x8 : Int) (x9 : Int) : φ_de [C.bool x0, C.list x1, C.int .i64 x2, C.list x3, C.list x4, C.list x5, C.int .i64 x6, C.int .i64 x7, C.int .i64 x8, C.int .i64 x9] = retOf (F_de x0 x1 x2 x3 x4 x5 x6 x7 x8 x9) := by kernel_rfl
theorem q_av (x0 : Bool) (x1 : LL) (x2 : Int) (x3 : LL) (x4 : LL) (x5 : LL) (x6 : Int) (x7 : Int) (x8 : Int) (x9 : Int) : φ_av [C.bool x0, C.list x1, C.int .i64 x2, C.list x3, C.list x4, C.list x5, C.int .i64 x6, C.int .i64 x7, C.int .i64 x8, C.int .i64 x9] = retOf (F_av x0 x1 x2 x3 x4 x5 x6 x7 x8 x9) := by kernel_rfl
theorem q_aa (x0 : Bool) (x1 : LL) (x2 : Int) (x3 : LL) (x4 : LL) (x5 : LL) (x6 : Int) : φ_aa [C.bool x0, C.list x1, C.int .i64 x2, C.list x3, C.list x4, C.list x5, C.int .i64 x6] = retOf (F_aa x0 x1 x2 x3 x4 x5 x6) := by kernel_rfl
theorem q_fe (x0 : LL) : φ_fe [C.list x0] = retOf (F_fe x0) := by kernel_rfl
theorem q_fa (x0 : Int) (x1 : LL) (x2 : Int) (x3 : Int) (x4 : LL) : φ_fa [C.int .i64 x0, C.list x1, C.int .i64 x2, C.int .i64 x3, C.list x4] = retOf (F_fa x0 x1 x2 x3 x4) := by kernel_rfl
theorem q_ev (x0 : LL) : φ_ev [C.list x0] = retOf (F_ev x0) := by kernel_rfl
theorem q_bh (x0 : Int) (x1 : LL) : φ_bh [C.int .i64 x0, C.list x1] = retOf (F_bh x0 x1) := by kernel_rfl
theorem q_ew (x0 : Bool) (x1 : LL) (x2 : Int) (x3 : LL) (x4 : Int) (x5 : LL) (x6 : Int) : φ_ew [C.bool x0, C.list x1, C.int .i64 x2, C.list x3, C.int .i64 x4, C.list x5, C.int .i64 x6] = retOf (F_ew x0 x1 x2 x3 x4 x5 x6) := by kernel_rfl
theorem q_ek (x0 : LL) (x1 : LL) : φ_ek [C.list x0, C.list x1] = retOf (F_ek x0 x1) := by kernel_rfl
theorem q_ct (x0 : Bool) (x1 : LL) (x2 : Int) (x3 : LL) (x4 : Int) (x5 : Int) (x6 : LL) : φ_ct [C.bool x0, C.list x1, C.int .i64 x2, C.list x3, C.int .i64 x4, C.int .i64 x5, C.list x6] = retOf (F_ct x0 x1 x2 x3 x4 x5 x6) := by kernel_rfl
theorem q_bk (x0 : Int) (x1 : Bool) (x2 : Int) (x3 : LL) (x4 : Int) : φ_bk [C.int .i64 x0, C.bool x1, C.int .i64 x2, C.list x3, C.int .i64 x4] = retOf (F_bk x0 x1 x2 x3 x4) := by kernel_rfl
theorem q_eb (x0 : LL) : φ_eb [C.list x0] = retOf (F_eb x0) := by kernel_rfl
theorem q_ar (x0 : LL) (x1 : Int) (x2 : Int) (x3 : Int) (x4 : Int) : φ_ar [C.list x0, C.int .i64 x1, C.int .i64 x2, C.int .i64 x3, C.int .i64 x4] = retOf (F_ar x0 x1 x2 x3 x4) := by kernel_rfl
theorem q_aq (x0 : LL) : φ_aq [C.list x0] = retOf (F_aq x0) := by kernel_rfl
theorem q_af (x0 : LL) : φ_af [C.list x0] = retOf (F_af x0) := by kernel_rfl
theorem q_am (x0 : LL) : φ_am [C.list x0] = retOf (F_am x0) := by kernel_rfl
theorem q_cp (x0 : Int) (x1 : Bool) (x2 : Int) (x3 : LL) (x4 : Int) (x5 : Bool) : φ_cp [C.int .i64 x0, C.bool x1, C.int .i64 x2, C.list x3, C.int .i64 x4, C.bool x5] = retOf (F_cp x0 x1 x2 x3 x4 x5) := by kernel_rfl
theorem q_cw (x0 : Bool) (x1 : LL) (x2 : Int) (x3 : LL) : φ_cw [C.bool x0, C.list x1, C.int .i64 x2, C.list x3] = retOf (F_cw x0 x1 x2 x3) := by kernel_rfl
theorem q_cj (x0 : Bool) (x1 : LL) (x2 : Int) (x3 : LL) (x4 : Bool) : φ_cj [C.bool x0, C.list x1, C.int .i64 x2, C.list x3, C.bool x4] = retOf (F_cj x0 x1 x2 x3 x4) := by kernel_rfl
theorem q_dq (x0 : Int) (x1 : Bool) (x2 : Int) (x3 : LL) (x4 : Int) : φ_dq [C.int .i64 x0, C.bool x1, C.int .i64 x2, C.list x3, C.int .i64 x4] = retOf (F_dq x0 x1 x2 x3 x4) := by kernel_rfl
theorem q_ch (x0 : LL) (x1 : Int) : φ_ch [C.list x0, C.int .i64 x1] = retOf (F_ch x0 x1) := by kernel_rfl
theorem q_df (x0 : LL) (x1 : Int) : φ_df [C.list x0, C.int .i64 x1] = retOf (F_df x0 x1) := by kernel_rfl
theorem q_dh (x0 : Bool) (x1 : LL) (x2 : Int) (x3 : LL) : φ_dh [C.bool x0, C.list x1, C.int .i64 x2, C.list x3] = retOf (F_dh x0 x1 x2 x3) := by kernel_rfl
theorem q_fd (x0 : LL) (x1 : Int) (x2 : LL) (x3 : Int) : φ_fd [C.list x0, C.int .i64 x1, C.list x2, C.int .i64 x3] = retOf (F_fd x0 x1 x2 x3) := by kernel_rfl
theorem q_fi (x0 : Int) (x1 : Int) (x2 : Int) : φ_fi [C.int .i64 x0, C.int .i64 x1, C.int .i64 x2] = retOf (F_fi x0 x1 x2) := by kernel_rfl
theorem q_ao (x0 : LL) (x1 : Int) (x2 : Int) (x3 : Int) (x4 : Int) : φ_ao [C.list x0, C.int .i64 x1, C.int .i64 x2, C.int .i64 x3, C.int .i64 x4] = retOf (F_ao x0 x1 x2 x3 x4) := by kernel_rfl
theorem q_cz (x0 : Bool) (x1 : LL) (x2 : Int) (x3 : LL) (x4 : Int) : φ_cz [C.bool x0, C.list x1, C.int .i64 x2, C.list x3, C.int .i64 x4] = retOf (F_cz x0 x1 x2 x3 x4) := by kernel_rfl
theorem q_ad (x0 : LL) : φ_ad [C.list x0] = retOf (F_ad x0) := by kernel_rfl
theorem q_ak (x0 : LL) : φ_ak [C.list x0] = retOf (F_ak x0) := by kernel_rfl
theorem q_az (x0 : Int) (x1 : Bool) (x2 : Int) (x3 : LL) (x4 : Int) : φ_az [C.int .i64 x0, C.bool x1, C.int .i64 x2, C.list x3, C.int .i64 x4] = retOf (F_az x0 x1 x2 x3 x4) := by kernel_rfl
theorem q_da (x0 : Int) (x1 : Bool) (x2 : Int) (x3 : LL) (x4 : Int) : φ_da [C.int .i64 x0, C.bool x1, C.int .i64 x2, C.list x3, C.int .i64 x4] = retOf (F_da x0 x1 x2 x3 x4) := by kernel_rfl
theorem q_ce (x0 : Bool) (x1 : LL) (x2 : Int) (x3 : LL) (x4 : Int) (x5 : Int) (x6 : Int) : φ_ce [C.bool x0, C.list x1, C.int .i64 x2, C.list x3, C.int .i64 x4, C.int .i64 x5, C.int .i64 x6] = retOf (F_ce x0 x1 x2 x3 x4 x5 x6) := by kernel_rfl
theorem q_bd (x0 : Int) (x1 : Int) (x2 : Int) (x3 : Int) : φ_bd [C.int .i64 x0, C.int .i64 x1, C.int .i64 x2, C.int .i64 x3] = retOf (F_bd x0 x1 x2 x3) := by kernel_rfl
theorem q_bl (x0 : Int) : φ_bl [C.int .i64 x0] = retOf (F_bl x0) := by kernel_rfl
end Dx
