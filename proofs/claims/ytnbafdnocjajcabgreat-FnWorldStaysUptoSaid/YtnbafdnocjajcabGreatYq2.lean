/- The typed texts are the trees'. -/
import Derived.Test.YtnbafdnocjajcabGreatYb
set_option linter.all false
set_option linter.unusedVariables false
set_option linter.unusedSimpArgs false
set_option linter.unnecessarySimpa false
namespace Dx
open Go
theorem q_dc (x0 : LL) (x1 : Int) (x2 : Bool) (x3 : LL) (x4 : Int) (x5 : LL) (x6 : LL) (x7 : LL) : φ_dc [C.list x0, C.int .i64 x1, C.bool x2, C.list x3, C.int .i64 x4, C.list x5, C.list x6, C.list x7] = retOf (F_dc x0 x1 x2 x3 x4 x5 x6 x7) := by kernel_rfl
theorem q_dw (x0 : LL) (x1 : Int) : φ_dw [C.list x0, C.int .i64 x1] = retOf (F_dw x0 x1) := by kernel_rfl
theorem q_da (x0 : Bool) (x1 : LL) (x2 : Int) (x3 : LL) : φ_da [C.bool x0, C.list x1, C.int .i64 x2, C.list x3] = retOf (F_da x0 x1 x2 x3) := by kernel_rfl
theorem q_au (x0 : Int) (x1 : Bool) (x2 : Int) (x3 : LL) (x4 : Int) (x5 : Int) (x6 : Int) (x7 : Int) (x8 : Int) : φ_au [C.int .i64 x0, C.bool x1, C.int .i64 x2, C.list x3, C.int .i64 x4, C.int .i64 x5, C.int .i64 x6, C.int .i64 x7, C.int .i64 x8] = retOf (F_au x0 x1 x2 x3 x4 x5 x6 x7 x8) := by kernel_rfl
theorem q_ch (x0 : Int) (x1 : Bool) (x2 : Int) (x3 : LL) (x4 : Int) (x5 : Int) (x6 : Int) (x7 : Int) (x8 : Int) : φ_ch [C.int .i64 x0, C.bool x1, C.int .i64 x2, C.list x3, C.int .i64 x4, C.int .i64 x5, C.int .i64 x6, C.int .i64 x7, C.int .i64 x8] = retOf (F_ch x0 x1 x2 x3 x4 x5 x6 x7 x8) := by kernel_rfl
theorem q_ec (x0 : Bool) (x1 : LL) (x2 : Int) (x3 : LL) (x4 : LL) (x5 : LL) (x6 : Int) (x7 : Int) (x8 : Int) (x9 : LL) : φ_ec [C.bool x0, C.list x1, C.int .i64 x2, C.list x3, C.list x4, C.list x5, C.int .i64 x6, C.int .i64 x7, C.int .i64 x8, C.list x9] = retOf (F_ec x0 x1 x2 x3 x4 x5 x6 x7 x8 x9) := by kernel_rfl
theorem q_cf (x0 : Int) (x1 : Bool) (x2 : Int) (x3 : LL) (x4 : Int) (x5 : Int) (x6 : Int) (x7 : Int) (x8 : Int) (x9 : Int) : φ_cf [C.int .i64 x0, C.bool x1, C.int .i64 x2, C.list x3, C.int .i64 x4, C.int .i64 x5, C.int .i64 x6, C.int .i64 x7, C.int .i64 x8, C.int .i64 x9] = retOf (F_cf x0 x1 x2 x3 x4 x5 x6 x7 x8 x9) := by kernel_rfl
theorem q_ek (x0 : Bool) (x1 : LL) (x2 : Int) (x3 : LL) : φ_ek [C.bool x0, C.list x1, C.int .i64 x2, C.list x3] = retOf (F_ek x0 x1 x2 x3) := by kernel_rfl
theorem q_dd (x0 : Bool) (x1 : LL) (x2 : Int) (x3 : LL) (x4 : LL) (x5 : LL) (x6 : Int) : φ_dd [C.bool x0, C.list x1, C.int .i64 x2, C.list x3, C.list x4, C.list x5, C.int .i64 x6] = retOf (F_dd x0 x1 x2 x3 x4 x5 x6) := by kernel_rfl
theorem q_db (x0 : LL) : φ_db [C.list x0] = retOf (F_db x0) := by kernel_rfl
theorem q_bu (x0 : LL) (x1 : LL) : φ_bu [C.list x0, C.list x1] = retOf (F_bu x0 x1) := by kernel_rfl
theorem q_fl (x0 : Int) (x1 : LL) : φ_fl [C.int .i64 x0, C.list x1] = retOf (F_fl x0 x1) := by kernel_rfl
theorem q_cq (x0 : Int) (x1 : LL) (x2 : Int) (x3 : Int) (x4 : LL) : φ_cq [C.int .i64 x0, C.list x1, C.int .i64 x2, C.int .i64 x3, C.list x4] = retOf (F_cq x0 x1 x2 x3 x4) := by kernel_rfl
theorem q_eg (x0 : Bool) (x1 : LL) (x2 : Int) (x3 : LL) (x4 : LL) (x5 : LL) (x6 : Int) (x7 : Int) (x8 : Int) (x9 : Int) : φ_eg [C.bool x0, C.list x1, C.int .i64 x2, C.list x3, C.list x4, C.list x5, C.int .i64 x6, C.int .i64 x7, C.int .i64 x8, C.int .i64 x9] = retOf (F_eg x0 x1 x2 x3 x4 x5 x6 x7 x8 x9) := by kernel_rfl
theorem q_bb (x0 : Bool) (x1 : LL) (x2 : Int) (x3 : LL) (x4 : LL) (x5 : LL) (x6 : Int) (x7 : Int) (x8 : Int) (x9 : Int) : φ_bb [C.bool x0, C.list x1, C.int .i64 x2, C.list x3, C.list x4, C.list x5, C.int .i64 x6, C.int .i64 x7, C.int .i64 x8, C.int .i64 x9] = retOf (F_bb x0 x1 x2 x3 x4 x5 x6 x7 x8 x9) := by kernel_rfl
theorem q_av (x0 : LL) : φ_av [C.list x0] = retOf (F_av x0) := by kernel_rfl
theorem q_ab (x0 : Bool) (x1 : LL) (x2 : Int) (x3 : LL) (x4 : LL) (x5 : LL) (x6 : Int) : φ_ab [C.bool x0, C.list x1, C.int .i64 x2, C.list x3, C.list x4, C.list x5, C.int .i64 x6] = retOf (F_ab x0 x1 x2 x3 x4 x5 x6) := by kernel_rfl
theorem q_eo (x0 : Int) (x1 : LL) : φ_eo [C.int .i64 x0, C.list x1] = retOf (F_eo x0 x1) := by kernel_rfl
theorem q_ex (x0 : LL) (x1 : Int) (x2 : Int) (x3 : Int) (x4 : LL) : φ_ex [C.list x0, C.int .i64 x1, C.int .i64 x2, C.int .i64 x3, C.list x4] = retOf (F_ex x0 x1 x2 x3 x4) := by kernel_rfl
theorem q_eq (x0 : LL) (x1 : LL) : φ_eq [C.list x0, C.list x1] = retOf (F_eq x0 x1) := by kernel_rfl
theorem q_eu (x0 : Bool) (x1 : LL) (x2 : Int) (x3 : LL) (x4 : Int) (x5 : LL) (x6 : Int) : φ_eu [C.bool x0, C.list x1, C.int .i64 x2, C.list x3, C.int .i64 x4, C.list x5, C.int .i64 x6] = retOf (F_eu x0 x1 x2 x3 x4 x5 x6) := by kernel_rfl
theorem q_ep (x0 : Bool) (x1 : LL) (x2 : Int) (x3 : LL) (x4 : Int) (x5 : LL) (x6 : Int) : φ_ep [C.bool x0, C.list x1, C.int .i64 x2, C.list x3, C.int .i64 x4, C.list x5, C.int .i64 x6] = retOf (F_ep x0 x1 x2 x3 x4 x5 x6) := by kernel_rfl
theorem q_dl (x0 : Int) (x1 : LL) : φ_dl [C.int .i64 x0, C.list x1] = retOf (F_dl x0 x1) := by kernel_rfl
theorem q_co (x0 : Int) (x1 : Int) : φ_co [C.int .i64 x0, C.int .i64 x1] = retOf (F_co x0 x1) := by kernel_rfl
theorem q_ed (x0 : Int) (x1 : LL) : φ_ed [C.int .i64 x0, C.list x1] = retOf (F_ed x0 x1) := by kernel_rfl
theorem q_at (x0 : LL) : φ_at [C.list x0] = retOf (F_at x0) := by kernel_rfl
theorem q_ar (x0 : LL) (x1 : Int) (x2 : Int) (x3 : Int) (x4 : Int) : φ_ar [C.list x0, C.int .i64 x1, C.int .i64 x2, C.int .i64 x3, C.int .i64 x4] = retOf (F_ar x0 x1 x2 x3 x4) := by kernel_rfl
theorem q_as (x0 : LL) : φ_as [C.list x0] = retOf (F_as x0) := by kernel_rfl
theorem q_az (x0 : LL) : φ_az [C.list x0] = retOf (F_az x0) := by kernel_rfl
theorem q_ds (x0 : Int) (x1 : Bool) (x2 : Int) (x3 : LL) (x4 : Int) (x5 : Int) (x6 : Bool) (x7 : Int) (x8 : LL) (x9 : Int) : φ_ds [C.int .i64 x0, C.bool x1, C.int .i64 x2, C.list x3, C.int .i64 x4, C.int .i64 x5, C.bool x6, C.int .i64 x7, C.list x8, C.int .i64 x9] = retOf (F_ds x0 x1 x2 x3 x4 x5 x6 x7 x8 x9) := by kernel_rfl
theorem q_fh (x0 : LL) (x1 : Int) : φ_fh [C.list x0, C.int .i64 x1] = retOf (F_fh x0 x1) := by kernel_rfl
theorem q_bx (x0 : Int) (x1 : Bool) (x2 : Int) (x3 : LL) (x4 : Int) : φ_bx [C.int .i64 x0, C.bool x1, C.int .i64 x2, C.list x3, C.int .i64 x4] = retOf (F_bx x0 x1 x2 x3 x4) := by kernel_rfl
theorem q_df (x0 : Bool) (x1 : LL) (x2 : Int) (x3 : LL) (x4 : Bool) : φ_df [C.bool x0, C.list x1, C.int .i64 x2, C.list x3, C.bool x4] = retOf (F_df x0 x1 x2 x3 x4) := by kernel_rfl
theorem q_dh (x0 : Bool) (x1 : LL) (x2 : Int) (x3 : LL) (x4 : Int) : φ_dh [C.bool x0, C.list x1, C.int .i64 x2, C.list x3, C.int .i64 x4] = retOf (F_dh x0 x1 x2 x3 x4) := by kernel_rfl
theorem q_fj (x0 : LL) (x1 : Int) (x2 : Int) (x3 : Int) (x4 : LL) : φ_fj [C.list x0, C.int .i64 x1, C.int .i64 x2, C.int .i64 x3, C.list x4] = retOf (F_fj x0 x1 x2 x3 x4) := by kernel_rfl
theorem q_ez (x0 : Int) (x1 : Int) (x2 : Int) (x3 : Int) : φ_ez [C.int .i64 x0, C.int .i64 x1, C.int .i64 x2, C.int .i64 x3] = retOf (F_ez x0 x1 x2 x3) := by kernel_rfl
theorem q_bj (x0 : Int) (x1 : Bool) (x2 : Int) (x3 : LL) (x4 : Int) (x5 : Bool) : φ_bj [C.int .i64 x0, C.bool x1, C.int .i64 x2, C.list x3, C.int .i64 x4, C.bool x5] = retOf (F_bj x0 x1 x2 x3 x4 x5) := by kernel_rfl
theorem q_ce (x0 : Bool) (x1 : LL) (x2 : Int) (x3 : LL) (x4 : Bool) : φ_ce [C.bool x0, C.list x1, C.int .i64 x2, C.list x3, C.bool x4] = retOf (F_ce x0 x1 x2 x3 x4) := by kernel_rfl
theorem q_dr (x0 : LL) : φ_dr [C.list x0] = retOf (F_dr x0) := by kernel_rfl
theorem q_fm (x0 : Int) (x1 : Int) (x2 : Int) : φ_fm [C.int .i64 x0, C.int .i64 x1, C.int .i64 x2] = retOf (F_fm x0 x1 x2) := by kernel_rfl
theorem q_be (x0 : Int) (x1 : Bool) (x2 : Int) (x3 : LL) (x4 : Int) (x5 : Bool) : φ_be [C.int .i64 x0, C.bool x1, C.int .i64 x2, C.list x3, C.int .i64 x4, C.bool x5] = retOf (F_be x0 x1 x2 x3 x4 x5) := by kernel_rfl
theorem q_bc (x0 : Bool) (x1 : LL) (x2 : Int) (x3 : LL) : φ_bc [C.bool x0, C.list x1, C.int .i64 x2, C.list x3] = retOf (F_bc x0 x1 x2 x3) := by kernel_rfl
theorem q_ae (x0 : LL) : φ_ae [C.list x0] = retOf (F_ae x0) := by kernel_rfl
theorem q_bq (x0 : LL) (x1 : Int) : φ_bq [C.list x0, C.int .i64 x1] = retOf (F_bq x0 x1) := by kernel_rfl
theorem q_bf (x0 : Bool) (x1 : LL) (x2 : Int) (x3 : LL) (x4 : Bool) : φ_bf [C.bool x0, C.list x1, C.int .i64 x2, C.list x3, C.bool x4] = retOf (F_bf x0 x1 x2 x3 x4) := by kernel_rfl
theorem q_ei (x0 : Int) (x1 : Int) (x2 : LL) : φ_ei [C.int .i64 x0, C.int .i64 x1, C.list x2] = retOf (F_ei x0 x1 x2) := by kernel_rfl
theorem q_du : φ_du [] = retOf (F_du) := by kernel_rfl
theorem q_bh (x0 : Int) (x1 : Int) (x2 : LL) : φ_bh [C.int .i64 x0, C.int .i64 x1, C.list x2] = retOf (F_bh x0 x1 x2) := by kernel_rfl
theorem q_bd (x0 : Int) (x1 : Int) (x2 : Int) (x3 : Int) : φ_bd [C.int .i64 x0, C.int .i64 x1, C.int .i64 x2, C.int .i64 x3] = retOf (F_bd x0 x1 x2 x3) := by kernel_rfl
end Dx
