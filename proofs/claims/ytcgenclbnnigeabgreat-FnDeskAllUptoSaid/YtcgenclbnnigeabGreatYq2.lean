/- The typed texts are the trees'. -/
import Derived.Test.YtcgenclbnnigeabGreatYb
set_option linter.all false
set_option linter.unusedVariables false
set_option linter.unusedSimpArgs false
set_option linter.unnecessarySimpa false
namespace Dx
open Go
theorem q_bx (x0 : LL) (x1 : Int) (x2 : Bool) (x3 : LL) (x4 : Int) (x5 : LL) (x6 : LL) (x7 : LL) : φ_bx [C.list x0, C.int .i64 x1, C.bool x2, C.list x3, C.int .i64 x4, C.list x5, C.list x6, C.list x7] = retOf (F_bx x0 x1 x2 x3 x4 x5 x6 x7) := by kernel_rfl
theorem q_ch (x0 : LL) (x1 : Int) : φ_ch [C.list x0, C.int .i64 x1] = retOf (F_ch x0 x1) := by kernel_rfl
theorem q_cj (x0 : Int) (x1 : Bool) (x2 : Int) (x3 : LL) (x4 : Int) (x5 : Int) (x6 : Int) (x7 : Int) (x8 : Int) : φ_cj [C.int .i64 x0, C.bool x1, C.int .i64 x2, C.list x3, C.int .i64 x4, C.int .i64 x5, C.int .i64 x6, C.int .i64 x7, C.int .i64 x8] = retOf (F_cj x0 x1 x2 x3 x4 x5 x6 x7 x8) := by kernel_rfl
theorem q_cg (x0 : Bool) (x1 : LL) (x2 : Int) (x3 : LL) (x4 : LL) (x5 : LL) (x6 : Int) (x7 : Int) (x8 : Int) (x9 : LL) : φ_cg [C.bool x0, C.list x1, C.int .i64 x2, C.list x3, C.list x4, C.list x5, C.int .i64 x6, C.int .i64 x7, C.int .i64 x8, C.list x9] = retOf (F_cg x0 x1 x2 x3 x4 x5 x6 x7 x8 x9) := by kernel_rfl
theorem q_bi (x0 : LL) (x1 : Int) (x2 : Int) : φ_bi [C.list x0, C.int .i64 x1, C.int .i64 x2] = retOf (F_bi x0 x1 x2) := by kernel_rfl
theorem q_dc (x0 : LL) (x1 : Int) : φ_dc [C.list x0, C.int .i64 x1] = retOf (F_dc x0 x1) := by kernel_rfl
theorem q_ax (x0 : Int) (x1 : Bool) (x2 : Int) (x3 : LL) (x4 : Int) (x5 : Int) (x6 : Int) (x7 : Int) (x8 : Int) (x9 : Int) : φ_ax [C.int .i64 x0, C.bool x1, C.int .i64 x2, C.list x3, C.int .i64 x4, C.int .i64 x5, C.int .i64 x6, C.int .i64 x7, C.int .i64 x8, C.int .i64 x9] = retOf (F_ax x0 x1 x2 x3 x4 x5 x6 x7 x8 x9) := by kernel_rfl
theorem q_df (x0 : Bool) (x1 : LL) (x2 : Int) (x3 : LL) : φ_df [C.bool x0, C.list x1, C.int .i64 x2, C.list x3] = retOf (F_df x0 x1 x2 x3) := by kernel_rfl
theorem q_bq (x0 : Bool) (x1 : LL) (x2 : Int) (x3 : LL) (x4 : LL) (x5 : LL) (x6 : Int) : φ_bq [C.bool x0, C.list x1, C.int .i64 x2, C.list x3, C.list x4, C.list x5, C.int .i64 x6] = retOf (F_bq x0 x1 x2 x3 x4 x5 x6) := by kernel_rfl
theorem q_bj (x0 : Bool) (x1 : LL) (x2 : Int) (x3 : LL) (x4 : Int) (x5 : Int) (x6 : Int) (x7 : Int) : φ_bj [C.bool x0, C.list x1, C.int .i64 x2, C.list x3, C.int .i64 x4, C.int .i64 x5, C.int .i64 x6, C.int .i64 x7] = retOf (F_bj x0 x1 x2 x3 x4 x5 x6 x7) := by kernel_rfl
theorem q_av (x0 : Bool) (x1 : LL) (x2 : Int) (x3 : LL) (x4 : Int) (x5 : Int) (x6 : LL) : φ_av [C.bool x0, C.list x1, C.int .i64 x2, C.list x3, C.int .i64 x4, C.int .i64 x5, C.list x6] = retOf (F_av x0 x1 x2 x3 x4 x5 x6) := by kernel_rfl
theorem q_bb (x0 : Bool) (x1 : LL) (x2 : Int) (x3 : LL) (x4 : LL) : φ_bb [C.bool x0, C.list x1, C.int .i64 x2, C.list x3, C.list x4] = retOf (F_bb x0 x1 x2 x3 x4) := by kernel_rfl
theorem q_bf (x0 : Bool) (x1 : LL) (x2 : Int) (x3 : LL) (x4 : LL) : φ_bf [C.bool x0, C.list x1, C.int .i64 x2, C.list x3, C.list x4] = retOf (F_bf x0 x1 x2 x3 x4) := by kernel_rfl
theorem q_dm (x0 : Int) (x1 : Int) (x2 : Int) (x3 : Int) : φ_dm [C.int .i64 x0, C.int .i64 x1, C.int .i64 x2, C.int .i64 x3] = retOf (F_dm x0 x1 x2 x3) := by kernel_rfl
theorem q_dw (x0 : Int) (x1 : Int) (x2 : LL) : φ_dw [C.int .i64 x0, C.int .i64 x1, C.list x2] = retOf (F_dw x0 x1 x2) := by kernel_rfl
theorem q_ct (x0 : LL) : φ_ct [C.list x0] = retOf (F_ct x0) := by kernel_rfl
theorem q_de (x0 : Bool) (x1 : LL) (x2 : Int) (x3 : LL) (x4 : Int) (x5 : LL) (x6 : Int) : φ_de [C.bool x0, C.list x1, C.int .i64 x2, C.list x3, C.int .i64 x4, C.list x5, C.int .i64 x6] = retOf (F_de x0 x1 x2 x3 x4 x5 x6) := by kernel_rfl
theorem q_db (x0 : LL) (x1 : LL) : φ_db [C.list x0, C.list x1] = retOf (F_db x0 x1) := by kernel_rfl
theorem q_bp (x0 : Bool) (x1 : LL) (x2 : Int) (x3 : LL) (x4 : Int) (x5 : Int) (x6 : LL) : φ_bp [C.bool x0, C.list x1, C.int .i64 x2, C.list x3, C.int .i64 x4, C.int .i64 x5, C.list x6] = retOf (F_bp x0 x1 x2 x3 x4 x5 x6) := by kernel_rfl
theorem q_ca (x0 : LL) (x1 : Int) (x2 : Int) (x3 : Int) (x4 : Int) : φ_ca [C.list x0, C.int .i64 x1, C.int .i64 x2, C.int .i64 x3, C.int .i64 x4] = retOf (F_ca x0 x1 x2 x3 x4) := by kernel_rfl
theorem q_aj (x0 : LL) : φ_aj [C.list x0] = retOf (F_aj x0) := by kernel_rfl
theorem q_dn (x0 : LL) (x1 : Int) (x2 : Int) : φ_dn [C.list x0, C.int .i64 x1, C.int .i64 x2] = retOf (F_dn x0 x1 x2) := by kernel_rfl
theorem q_ag (x0 : LL) : φ_ag [C.list x0] = retOf (F_ag x0) := by kernel_rfl
theorem q_dt (x0 : LL) (x1 : Int) : φ_dt [C.list x0, C.int .i64 x1] = retOf (F_dt x0 x1) := by kernel_rfl
theorem q_bs (x0 : LL) (x1 : Int) : φ_bs [C.list x0, C.int .i64 x1] = retOf (F_bs x0 x1) := by kernel_rfl
theorem q_al (x0 : LL) : φ_al [C.list x0] = retOf (F_al x0) := by kernel_rfl
theorem q_bv (x0 : Int) : φ_bv [C.int .i64 x0] = retOf (F_bv x0) := by kernel_rfl
theorem q_dx (x0 : Int) (x1 : Int) (x2 : LL) (x3 : Int) (x4 : Int) (x5 : LL) : φ_dx [C.int .i64 x0, C.int .i64 x1, C.list x2, C.int .i64 x3, C.int .i64 x4, C.list x5] = retOf (F_dx x0 x1 x2 x3 x4 x5) := by kernel_rfl
theorem q_bd (x0 : LL) (x1 : Int) : φ_bd [C.list x0, C.int .i64 x1] = retOf (F_bd x0 x1) := by kernel_rfl
theorem q_ds (x0 : LL) (x1 : Int) (x2 : LL) (x3 : Int) : φ_ds [C.list x0, C.int .i64 x1, C.list x2, C.int .i64 x3] = retOf (F_ds x0 x1 x2 x3) := by kernel_rfl
theorem q_ea (x0 : Int) (x1 : Int) (x2 : Int) : φ_ea [C.int .i64 x0, C.int .i64 x1, C.int .i64 x2] = retOf (F_ea x0 x1 x2) := by kernel_rfl
theorem q_ap (x0 : Bool) (x1 : LL) (x2 : Int) (x3 : LL) : φ_ap [C.bool x0, C.list x1, C.int .i64 x2, C.list x3] = retOf (F_ap x0 x1 x2 x3) := by kernel_rfl
theorem q_aa (x0 : LL) : φ_aa [C.list x0] = retOf (F_aa x0) := by kernel_rfl
theorem q_ae (x0 : LL) : φ_ae [C.list x0] = retOf (F_ae x0) := by kernel_rfl
theorem q_cs (x0 : Int) (x1 : Int) (x2 : LL) : φ_cs [C.int .i64 x0, C.int .i64 x1, C.list x2] = retOf (F_cs x0 x1 x2) := by kernel_rfl
theorem q_cl : φ_cl [] = retOf (F_cl) := by kernel_rfl
theorem q_ar (x0 : Int) : φ_ar [C.int .i64 x0] = retOf (F_ar x0) := by kernel_rfl
end Dx
