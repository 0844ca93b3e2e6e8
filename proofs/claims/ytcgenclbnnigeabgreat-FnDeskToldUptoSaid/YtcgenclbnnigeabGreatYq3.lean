/- The typed texts are the trees'. -/
import Derived.Test.YtcgenclbnnigeabGreatYb
set_option linter.all false
set_option linter.unusedVariables false
set_option linter.unusedSimpArgs false
set_option linter.unnecessarySimpa false
namespace Dx
open Go
theorem q_cz (x0 : LL) (x1 : Int) : φ_cz [C.list x0, C.int .i64 x1] = retOf (F_cz x0 x1) := by kernel_rfl
theorem q_bp (x0 : Bool) (x1 : LL) (x2 : Int) (x3 : LL) (x4 : Int) : φ_bp [C.bool x0, C.list x1, C.int .i64 x2, C.list x3, C.int .i64 x4] = retOf (F_bp x0 x1 x2 x3 x4) := by kernel_rfl
theorem q_eh (x0 : Bool) (x1 : LL) (x2 : Int) (x3 : LL) (x4 : LL) (x5 : LL) (x6 : Int) (x7 : Int) (x8 : Int) (x9 : LL) : φ_eh [C.bool x0, C.list x1, C.int .i64 x2, C.list x3, C.list x4, C.list x5, C.int .i64 x6, C.int .i64 x7, C.int .i64 x8, C.list x9] = retOf (F_eh x0 x1 x2 x3 x4 x5 x6 x7 x8 x9) := by kernel_rfl
theorem q_bz (x0 : Bool) (x1 : LL) (x2 : Int) (x3 : LL) : φ_bz [C.bool x0, C.list x1, C.int .i64 x2, C.list x3] = retOf (F_bz x0 x1 x2 x3) := by kernel_rfl
theorem q_at (x0 : Bool) (x1 : LL) (x2 : Int) (x3 : LL) : φ_at [C.bool x0, C.list x1, C.int .i64 x2, C.list x3] = retOf (F_at x0 x1 x2 x3) := by kernel_rfl
theorem q_cu (x0 : Bool) (x1 : LL) (x2 : Int) (x3 : LL) (x4 : LL) (x5 : LL) (x6 : Int) (x7 : Int) (x8 : Int) (x9 : LL) : φ_cu [C.bool x0, C.list x1, C.int .i64 x2, C.list x3, C.list x4, C.list x5, C.int .i64 x6, C.int .i64 x7, C.int .i64 x8, C.list x9] = retOf (F_cu x0 x1 x2 x3 x4 x5 x6 x7 x8 x9) := by kernel_rfl
theorem q_db (x0 : LL) (x1 : Int) (x2 : Int) (x3 : LL) : φ_db [C.list x0, C.int .i64 x1, C.int .i64 x2, C.list x3] = retOf (F_db x0 x1 x2 x3) := by kernel_rfl
theorem q_dm (x0 : Bool) (x1 : LL) (x2 : Int) (x3 : LL) (x4 : LL) (x5 : LL) (x6 : Int) (x7 : Int) (x8 : Int) (x9 : LL) : φ_dm [C.bool x0, C.list x1, C.int .i64 x2, C.list x3, C.list x4, C.list x5, C.int .i64 x6, C.int .i64 x7, C.int .i64 x8, C.list x9] = retOf (F_dm x0 x1 x2 x3 x4 x5 x6 x7 x8 x9) := by kernel_rfl
theorem q_ce (x0 : Bool) (x1 : LL) (x2 : Int) (x3 : LL) (x4 : LL) (x5 : LL) (x6 : Int) : φ_ce [C.bool x0, C.list x1, C.int .i64 x2, C.list x3, C.list x4, C.list x5, C.int .i64 x6] = retOf (F_ce x0 x1 x2 x3 x4 x5 x6) := by kernel_rfl
theorem q_bi (x0 : Bool) (x1 : LL) (x2 : Int) (x3 : LL) (x4 : Int) (x5 : Int) (x6 : Int) (x7 : Int) : φ_bi [C.bool x0, C.list x1, C.int .i64 x2, C.list x3, C.int .i64 x4, C.int .i64 x5, C.int .i64 x6, C.int .i64 x7] = retOf (F_bi x0 x1 x2 x3 x4 x5 x6 x7) := by kernel_rfl
theorem q_ax (x0 : Bool) (x1 : LL) (x2 : Int) (x3 : LL) (x4 : Int) (x5 : Int) (x6 : LL) : φ_ax [C.bool x0, C.list x1, C.int .i64 x2, C.list x3, C.int .i64 x4, C.int .i64 x5, C.list x6] = retOf (F_ax x0 x1 x2 x3 x4 x5 x6) := by kernel_rfl
theorem q_bv (x0 : LL) (x1 : Int) (x2 : Int) (x3 : LL) : φ_bv [C.list x0, C.int .i64 x1, C.int .i64 x2, C.list x3] = retOf (F_bv x0 x1 x2 x3) := by kernel_rfl
theorem q_dw (x0 : LL) (x1 : Int) (x2 : Int) (x3 : LL) : φ_dw [C.list x0, C.int .i64 x1, C.int .i64 x2, C.list x3] = retOf (F_dw x0 x1 x2 x3) := by kernel_rfl
theorem q_dj (x0 : Int) (x1 : Int) (x2 : Int) (x3 : Int) : φ_dj [C.int .i64 x0, C.int .i64 x1, C.int .i64 x2, C.int .i64 x3] = retOf (F_dj x0 x1 x2 x3) := by kernel_rfl
theorem q_ef (x0 : Int) (x1 : LL) (x2 : Int) (x3 : Int) (x4 : LL) : φ_ef [C.int .i64 x0, C.list x1, C.int .i64 x2, C.int .i64 x3, C.list x4] = retOf (F_ef x0 x1 x2 x3 x4) := by kernel_rfl
theorem q_dx (x0 : LL) (x1 : LL) : φ_dx [C.list x0, C.list x1] = retOf (F_dx x0 x1) := by kernel_rfl
theorem q_dp (x0 : Bool) (x1 : LL) (x2 : Int) (x3 : LL) (x4 : Int) (x5 : LL) (x6 : Int) : φ_dp [C.bool x0, C.list x1, C.int .i64 x2, C.list x3, C.int .i64 x4, C.list x5, C.int .i64 x6] = retOf (F_dp x0 x1 x2 x3 x4 x5 x6) := by kernel_rfl
theorem q_bg (x0 : LL) (x1 : Int) (x2 : Int) (x3 : Int) : φ_bg [C.list x0, C.int .i64 x1, C.int .i64 x2, C.int .i64 x3] = retOf (F_bg x0 x1 x2 x3) := by kernel_rfl
theorem q_as (x0 : Bool) (x1 : LL) (x2 : Int) (x3 : LL) (x4 : Int) (x5 : Int) (x6 : LL) : φ_as [C.bool x0, C.list x1, C.int .i64 x2, C.list x3, C.int .i64 x4, C.int .i64 x5, C.list x6] = retOf (F_as x0 x1 x2 x3 x4 x5 x6) := by kernel_rfl
theorem q_dn (x0 : LL) (x1 : Int) : φ_dn [C.list x0, C.int .i64 x1] = retOf (F_dn x0 x1) := by kernel_rfl
theorem q_ca (x0 : Bool) (x1 : LL) (x2 : Int) (x3 : LL) (x4 : Int) (x5 : Int) (x6 : Int) (x7 : Int) : φ_ca [C.bool x0, C.list x1, C.int .i64 x2, C.list x3, C.int .i64 x4, C.int .i64 x5, C.int .i64 x6, C.int .i64 x7] = retOf (F_ca x0 x1 x2 x3 x4 x5 x6 x7) := by kernel_rfl
theorem q_dk (x0 : LL) (x1 : Int) (x2 : Int) : φ_dk [C.list x0, C.int .i64 x1, C.int .i64 x2] = retOf (F_dk x0 x1 x2) := by kernel_rfl
theorem q_ac (x0 : LL) : φ_ac [C.list x0] = retOf (F_ac x0) := by kernel_rfl
theorem q_bw (x0 : Int) (x1 : Bool) (x2 : Int) (x3 : LL) (x4 : Int) (x5 : Bool) : φ_bw [C.int .i64 x0, C.bool x1, C.int .i64 x2, C.list x3, C.int .i64 x4, C.bool x5] = retOf (F_bw x0 x1 x2 x3 x4 x5) := by kernel_rfl
theorem q_dh (x0 : Bool) (x1 : LL) (x2 : Int) (x3 : LL) (x4 : LL) (x5 : LL) (x6 : Int) (x7 : Int) (x8 : Int) (x9 : Int) : φ_dh [C.bool x0, C.list x1, C.int .i64 x2, C.list x3, C.list x4, C.list x5, C.int .i64 x6, C.int .i64 x7, C.int .i64 x8, C.int .i64 x9] = retOf (F_dh x0 x1 x2 x3 x4 x5 x6 x7 x8 x9) := by kernel_rfl
theorem q_dy (x0 : LL) (x1 : Int) (x2 : Int) (x3 : Int) (x4 : LL) : φ_dy [C.list x0, C.int .i64 x1, C.int .i64 x2, C.int .i64 x3, C.list x4] = retOf (F_dy x0 x1 x2 x3 x4) := by kernel_rfl
theorem q_do (x0 : Bool) (x1 : LL) (x2 : Int) (x3 : LL) (x4 : Bool) (x5 : LL) (x6 : Int) (x7 : LL) : φ_do [C.bool x0, C.list x1, C.int .i64 x2, C.list x3, C.bool x4, C.list x5, C.int .i64 x6, C.list x7] = retOf (F_do x0 x1 x2 x3 x4 x5 x6 x7) := by kernel_rfl
theorem q_ea (x0 : Int) (x1 : Int) (x2 : LL) (x3 : Int) (x4 : Int) (x5 : LL) : φ_ea [C.int .i64 x0, C.int .i64 x1, C.list x2, C.int .i64 x3, C.int .i64 x4, C.list x5] = retOf (F_ea x0 x1 x2 x3 x4 x5) := by kernel_rfl
theorem q_bd (x0 : Bool) (x1 : LL) (x2 : Int) (x3 : LL) (x4 : Bool) : φ_bd [C.bool x0, C.list x1, C.int .i64 x2, C.list x3, C.bool x4] = retOf (F_bd x0 x1 x2 x3 x4) := by kernel_rfl
theorem q_bc (x0 : Bool) (x1 : LL) (x2 : Int) (x3 : LL) (x4 : Bool) : φ_bc [C.bool x0, C.list x1, C.int .i64 x2, C.list x3, C.bool x4] = retOf (F_bc x0 x1 x2 x3 x4) := by kernel_rfl
theorem q_cp (x0 : LL) : φ_cp [C.list x0] = retOf (F_cp x0) := by kernel_rfl
theorem q_ej (x0 : Int) (x1 : Int) (x2 : Int) : φ_ej [C.int .i64 x0, C.int .i64 x1, C.int .i64 x2] = retOf (F_ej x0 x1 x2) := by kernel_rfl
theorem q_ai (x0 : LL) (x1 : Int) (x2 : Int) (x3 : Int) (x4 : Int) : φ_ai [C.list x0, C.int .i64 x1, C.int .i64 x2, C.int .i64 x3, C.int .i64 x4] = retOf (F_ai x0 x1 x2 x3 x4) := by kernel_rfl
theorem q_ab (x0 : LL) : φ_ab [C.list x0] = retOf (F_ab x0) := by kernel_rfl
theorem q_ae (x0 : LL) : φ_ae [C.list x0] = retOf (F_ae x0) := by kernel_rfl
theorem q_av (x0 : Int) : φ_av [C.int .i64 x0] = retOf (F_av x0) := by kernel_rfl
theorem q_cl : φ_cl [] = retOf (F_cl) := by kernel_rfl
theorem q_du (x0 : Int) : φ_du [C.int .i64 x0] = retOf (F_du x0) := by kernel_rfl
theorem q_aq (x0 : Int) (x1 : Int) (x2 : Int) (x3 : Int) : φ_aq [C.int .i64 x0, C.int .i64 x1, C.int .i64 x2, C.int .i64 x3] = retOf (F_aq x0 x1 x2 x3) := by kernel_rfl
end Dx
