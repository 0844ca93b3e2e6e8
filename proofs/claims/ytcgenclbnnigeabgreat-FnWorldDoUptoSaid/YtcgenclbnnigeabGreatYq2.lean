/- The typed texts are the trees'. -/
import Derived.Test.YtcgenclbnnigeabGreatYb
set_option linter.all false
set_option linter.unusedVariables false
set_option linter.unusedSimpArgs false
set_option linter.unnecessarySimpa false
namespace Dx
open Go
theorem q_dc (x0 : LL) (x1 : Int) (x2 : Bool) (x3 : LL) (x4 : Int) (x5 : LL) (x6 : LL) (x7 : LL) : φ_dc [C.list x0, C.int .i64 x1, C.bool x2, C.list x3, C.int .i64 x4, C.list x5, C.list x6, C.list x7] = retOf (F_dc x0 x1 x2 x3 x4 x5 x6 x7) := by kernel_rfl
theorem q_cp (x0 : Bool) (x1 : LL) (x2 : Int) (x3 : LL) (x4 : LL) (x5 : LL) (x6 : Int) (x7 : Int) (x8 : Int) (x9 : LL) : φ_cp [C.bool x0, C.list x1, C.int .i64 x2, C.list x3, C.list x4, C.list x5, C.int .i64 x6, C.int .i64 x7, C.int .i64 x8, C.list x9] = retOf (F_cp x0 x1 x2 x3 x4 x5 x6 x7 x8 x9) := by kernel_rfl
theorem q_ee (x0 : LL) (x1 : Int) : φ_ee [C.list x0, C.int .i64 x1] = retOf (F_ee x0 x1) := by kernel_rfl
theorem q_fv (x0 : Bool) (x1 : LL) (x2 : Int) (x3 : LL) (x4 : LL) (x5 : LL) (x6 : Int) (x7 : Int) (x8 : Int) (x9 : LL) : φ_fv [C.bool x0, C.list x1, C.int .i64 x2, C.list x3, C.list x4, C.list x5, C.int .i64 x6, C.int .i64 x7, C.int .i64 x8, C.list x9] = retOf (F_fv x0 x1 x2 x3 x4 x5 x6 x7 x8 x9) := by kernel_rfl
theorem q_ef (x0 : Bool) (x1 : LL) (x2 : Int) (x3 : LL) (x4 : LL) (x5 : LL) (x6 : Int) (x7 : Int) (x8 : Int) (x9 : LL) : φ_ef [C.bool x0, C.list x1, C.int .i64 x2, C.list x3, C.list x4, C.list x5, C.int .i64 x6, C.int .i64 x7, C.int .i64 x8, C.list x9] = retOf (F_ef x0 x1 x2 x3 x4 x5 x6 x7 x8 x9) := by kernel_rfl
theorem q_de (x0 : Bool) (x1 : LL) (x2 : Int) (x3 : LL) : φ_de [C.bool x0, C.list x1, C.int .i64 x2, C.list x3] = retOf (F_de x0 x1 x2 x3) := by kernel_rfl
theorem q_bx (x0 : LL) (x1 : Int) (x2 : Int) : φ_bx [C.list x0, C.int .i64 x1, C.int .i64 x2] = retOf (F_bx x0 x1 x2) := by kernel_rfl
theorem q_cc (x0 : Int) (x1 : Bool) (x2 : Int) (x3 : LL) (x4 : Int) (x5 : Int) (x6 : Int) (x7 : Int) (x8 : Int) (x9 : Int) : φ_cc [C.int .i64 x0, C.bool x1, C.int .i64 x2, C.list x3, C.int .i64 x4, C.int .i64 x5, C.int .i64 x6, C.int .i64 x7, C.int .i64 x8, C.int .i64 x9] = retOf (F_cc x0 x1 x2 x3 x4 x5 x6 x7 x8 x9) := by kernel_rfl
theorem q_fa (x0 : Bool) (x1 : LL) (x2 : Int) (x3 : LL) (x4 : LL) (x5 : LL) (x6 : Int) (x7 : Int) (x8 : Int) (x9 : LL) : φ_fa [C.bool x0, C.list x1, C.int .i64 x2, C.list x3, C.list x4, C.list x5, C.int .i64 x6, C.int .i64 x7, C.int .i64 x8, C.list x9] = retOf (F_fa x0 x1 x2 x3 x4 x5 x6 x7 x8 x9) := by kernel_rfl
theorem q_bc (x0 : LL) : φ_bc [C.list x0] = retOf (F_bc x0) := by kernel_rfl
theorem q_da (x0 : Bool) (x1 : LL) (x2 : Int) (x3 : LL) (x4 : LL) (x5 : LL) (x6 : Int) : φ_da [C.bool x0, C.list x1, C.int .i64 x2, C.list x3, C.list x4, C.list x5, C.int .i64 x6] = retOf (F_da x0 x1 x2 x3 x4 x5 x6) := by kernel_rfl
theorem q_dg (x0 : LL) : φ_dg [C.list x0] = retOf (F_dg x0) := by kernel_rfl
theorem q_dk (x0 : Bool) (x1 : LL) (x2 : Int) (x3 : LL) (x4 : LL) (x5 : LL) (x6 : Bool) (x7 : LL) (x8 : Int) (x9 : LL) (x10 : LL) (x11 : LL) : φ_dk [C.bool x0, C.list x1, C.int .i64 x2, C.list x3, C.list x4, C.list x5, C.bool x6, C.list x7, C.int .i64 x8, C.list x9, C.list x10, C.list x11] = retOf (F_dk x0 x1 x2 x3 x4 x5 x6 x7 x8 x9 x10 x11) := by kernel_rfl
theorem q_bi (x0 : Bool) (x1 : LL) (x2 : Int) (x3 : LL) (x4 : Int) (x5 : Int) (x6 : LL) : φ_bi [C.bool x0, C.list x1, C.int .i64 x2, C.list x3, C.int .i64 x4, C.int .i64 x5, C.list x6] = retOf (F_bi x0 x1 x2 x3 x4 x5 x6) := by kernel_rfl
theorem q_dx (x0 : Bool) (x1 : LL) (x2 : Int) (x3 : LL) (x4 : LL) (x5 : LL) (x6 : Int) (x7 : Int) (x8 : Int) (x9 : Int) : φ_dx [C.bool x0, C.list x1, C.int .i64 x2, C.list x3, C.list x4, C.list x5, C.int .i64 x6, C.int .i64 x7, C.int .i64 x8, C.int .i64 x9] = retOf (F_dx x0 x1 x2 x3 x4 x5 x6 x7 x8 x9) := by kernel_rfl
theorem q_aa (x0 : Bool) (x1 : LL) (x2 : Int) (x3 : LL) (x4 : LL) (x5 : LL) (x6 : Int) (x7 : Int) (x8 : Int) (x9 : Int) (x10 : LL) (x11 : Int) (x12 : Int) (x13 : Int) (x14 : LL) : φ_aa [C.bool x0, C.list x1, C.int .i64 x2, C.list x3, C.list x4, C.list x5, C.int .i64 x6, C.int .i64 x7, C.int .i64 x8, C.int .i64 x9, C.list x10, C.int .i64 x11, C.int .i64 x12, C.int .i64 x13, C.list x14] = retOf (F_aa x0 x1 x2 x3 x4 x5 x6 x7 x8 x9 x10 x11 x12 x13 x14) := by kernel_rfl
theorem q_af (x0 : Bool) (x1 : LL) (x2 : Int) (x3 : LL) (x4 : LL) (x5 : LL) (x6 : Int) : φ_af [C.bool x0, C.list x1, C.int .i64 x2, C.list x3, C.list x4, C.list x5, C.int .i64 x6] = retOf (F_af x0 x1 x2 x3 x4 x5 x6) := by kernel_rfl
theorem q_fo (x0 : LL) : φ_fo [C.list x0] = retOf (F_fo x0) := by kernel_rfl
theorem q_fk (x0 : Int) (x1 : LL) : φ_fk [C.int .i64 x0, C.list x1] = retOf (F_fk x0 x1) := by kernel_rfl
theorem q_fp (x0 : Int) (x1 : LL) (x2 : Int) (x3 : Int) (x4 : LL) : φ_fp [C.int .i64 x0, C.list x1, C.int .i64 x2, C.int .i64 x3, C.list x4] = retOf (F_fp x0 x1 x2 x3 x4) := by kernel_rfl
theorem q_ea (x0 : LL) (x1 : LL) : φ_ea [C.list x0, C.list x1] = retOf (F_ea x0 x1) := by kernel_rfl
theorem q_ex (x0 : Bool) (x1 : LL) (x2 : Int) (x3 : LL) (x4 : Int) (x5 : LL) (x6 : Int) : φ_ex [C.bool x0, C.list x1, C.int .i64 x2, C.list x3, C.int .i64 x4, C.list x5, C.int .i64 x6] = retOf (F_ex x0 x1 x2 x3 x4 x5 x6) := by kernel_rfl
theorem q_dq (x0 : Bool) (x1 : LL) (x2 : Int) (x3 : LL) (x4 : LL) (x5 : LL) (x6 : Int) (x7 : Int) (x8 : Int) (x9 : LL) : φ_dq [C.bool x0, C.list x1, C.int .i64 x2, C.list x3, C.list x4, C.list x5, C.int .i64 x6, C.int .i64 x7, C.int .i64 x8, C.list x9] = retOf (F_dq x0 x1 x2 x3 x4 x5 x6 x7 x8 x9) := by kernel_rfl
theorem q_ev (x0 : Bool) (x1 : LL) (x2 : Int) (x3 : LL) (x4 : Int) (x5 : LL) (x6 : Int) : φ_ev [C.bool x0, C.list x1, C.int .i64 x2, C.list x3, C.int .i64 x4, C.list x5, C.int .i64 x6] = retOf (F_ev x0 x1 x2 x3 x4 x5 x6) := by kernel_rfl
theorem q_ej (x0 : Int) (x1 : LL) : φ_ej [C.int .i64 x0, C.list x1] = retOf (F_ej x0 x1) := by kernel_rfl
theorem q_fl (x0 : LL) (x1 : Int) : φ_fl [C.list x0, C.int .i64 x1] = retOf (F_fl x0 x1) := by kernel_rfl
theorem q_bp (x0 : Int) (x1 : Bool) (x2 : Int) (x3 : LL) (x4 : Int) : φ_bp [C.int .i64 x0, C.bool x1, C.int .i64 x2, C.list x3, C.int .i64 x4] = retOf (F_bp x0 x1 x2 x3 x4) := by kernel_rfl
theorem q_el (x0 : LL) (x1 : Int) (x2 : Int) (x3 : Int) (x4 : Int) : φ_el [C.list x0, C.int .i64 x1, C.int .i64 x2, C.int .i64 x3, C.int .i64 x4] = retOf (F_el x0 x1 x2 x3 x4) := by kernel_rfl
theorem q_as (x0 : LL) (x1 : Int) (x2 : Int) (x3 : Int) (x4 : Int) : φ_as [C.list x0, C.int .i64 x1, C.int .i64 x2, C.int .i64 x3, C.int .i64 x4] = retOf (F_as x0 x1 x2 x3 x4) := by kernel_rfl
theorem q_aj (x0 : LL) : φ_aj [C.list x0] = retOf (F_aj x0) := by kernel_rfl
theorem q_bf (x0 : LL) : φ_bf [C.list x0] = retOf (F_bf x0) := by kernel_rfl
theorem q_ds (x0 : Int) (x1 : Bool) (x2 : Int) (x3 : LL) (x4 : Int) (x5 : Int) (x6 : Bool) (x7 : Int) (x8 : LL) (x9 : Int) : φ_ds [C.int .i64 x0, C.bool x1, C.int .i64 x2, C.list x3, C.int .i64 x4, C.int .i64 x5, C.bool x6, C.int .i64 x7, C.list x8, C.int .i64 x9] = retOf (F_ds x0 x1 x2 x3 x4 x5 x6 x7 x8 x9) := by kernel_rfl
theorem q_cf (x0 : Int) (x1 : Bool) (x2 : Int) (x3 : LL) (x4 : Int) : φ_cf [C.int .i64 x0, C.bool x1, C.int .i64 x2, C.list x3, C.int .i64 x4] = retOf (F_cf x0 x1 x2 x3 x4) := by kernel_rfl
theorem q_fe (x0 : Bool) (x1 : LL) (x2 : Int) (x3 : LL) (x4 : LL) (x5 : LL) (x6 : Int) (x7 : Int) (x8 : Int) (x9 : Int) : φ_fe [C.bool x0, C.list x1, C.int .i64 x2, C.list x3, C.list x4, C.list x5, C.int .i64 x6, C.int .i64 x7, C.int .i64 x8, C.int .i64 x9] = retOf (F_fe x0 x1 x2 x3 x4 x5 x6 x7 x8 x9) := by kernel_rfl
theorem q_by (x0 : Int) (x1 : Bool) (x2 : Int) (x3 : LL) (x4 : Int) (x5 : Int) : φ_by [C.int .i64 x0, C.bool x1, C.int .i64 x2, C.list x3, C.int .i64 x4, C.int .i64 x5] = retOf (F_by x0 x1 x2 x3 x4 x5) := by kernel_rfl
theorem q_df (x0 : LL) (x1 : Int) : φ_df [C.list x0, C.int .i64 x1] = retOf (F_df x0 x1) := by kernel_rfl
theorem q_dw (x0 : Int) (x1 : Bool) (x2 : Int) (x3 : LL) (x4 : Int) : φ_dw [C.int .i64 x0, C.bool x1, C.int .i64 x2, C.list x3, C.int .i64 x4] = retOf (F_dw x0 x1 x2 x3 x4) := by kernel_rfl
theorem q_fb (x0 : Int) (x1 : Int) (x2 : Int) (x3 : Int) : φ_fb [C.int .i64 x0, C.int .i64 x1, C.int .i64 x2, C.int .i64 x3] = retOf (F_fb x0 x1 x2 x3) := by kernel_rfl
theorem q_ep (x0 : LL) (x1 : Int) : φ_ep [C.list x0, C.int .i64 x1] = retOf (F_ep x0 x1) := by kernel_rfl
theorem q_fi (x0 : LL) : φ_fi [C.list x0] = retOf (F_fi x0) := by kernel_rfl
theorem q_bw (x0 : LL) (x1 : Int) : φ_bw [C.list x0, C.int .i64 x1] = retOf (F_bw x0 x1) := by kernel_rfl
theorem q_fm (x0 : LL) (x1 : Int) (x2 : LL) (x3 : Int) : φ_fm [C.list x0, C.int .i64 x1, C.list x2, C.int .i64 x3] = retOf (F_fm x0 x1 x2 x3) := by kernel_rfl
theorem q_fy (x0 : Int) (x1 : Int) (x2 : Int) : φ_fy [C.int .i64 x0, C.int .i64 x1, C.int .i64 x2] = retOf (F_fy x0 x1 x2) := by kernel_rfl
theorem q_bv (x0 : LL) (x1 : Int) (x2 : Bool) : φ_bv [C.list x0, C.int .i64 x1, C.bool x2] = retOf (F_bv x0 x1 x2) := by kernel_rfl
theorem q_ad (x0 : LL) : φ_ad [C.list x0] = retOf (F_ad x0) := by kernel_rfl
theorem q_ac (x0 : LL) : φ_ac [C.list x0] = retOf (F_ac x0) := by kernel_rfl
theorem q_ak (x0 : LL) : φ_ak [C.list x0] = retOf (F_ak x0) := by kernel_rfl
theorem q_av (x0 : Int) (x1 : Bool) (x2 : Int) (x3 : LL) (x4 : Int) : φ_av [C.int .i64 x0, C.bool x1, C.int .i64 x2, C.list x3, C.int .i64 x4] = retOf (F_av x0 x1 x2 x3 x4) := by kernel_rfl
theorem q_bn (x0 : Int) : φ_bn [C.int .i64 x0] = retOf (F_bn x0) := by kernel_rfl
theorem q_cn (x0 : Bool) (x1 : LL) (x2 : Int) (x3 : LL) (x4 : Int) (x5 : Int) (x6 : Int) : φ_cn [C.bool x0, C.list x1, C.int .i64 x2, C.list x3, C.int .i64 x4, C.int .i64 x5, C.int .i64 x6] = retOf (F_cn x0 x1 x2 x3 x4 x5 x6) := by kernel_rfl
theorem q_dr (x0 : Int) : φ_dr [C.int .i64 x0] = retOf (F_dr x0) := by kernel_rfl
theorem q_bb (x0 : Int) (x1 : Int) (x2 : Int) (x3 : Int) : φ_bb [C.int .i64 x0, C.int .i64 x1, C.int .i64 x2, C.int .i64 x3] = retOf (F_bb x0 x1 x2 x3) := by kernel_rfl
end Dx
