/- The typed texts are the trees'. -/
import Derived.Test.YtcgenclbnnigeabGreatYb
set_option linter.all false
set_option linter.unusedVariables false
set_option linter.unusedSimpArgs false
set_option linter.unnecessarySimpa false
namespace Dx
open Go
theorem q_co (x0 : Bool) (x1 : LL) (x2 : Int) (x3 : LL) (x4 : LL) (x5 : LL) (x6 : Int) : φ_co [C.bool x0, C.list x1, C.int .i64 x2, C.list x3, C.list x4, C.list x5, C.int .i64 x6] = retOf (F_co x0 x1 x2 x3 x4 x5 x6) := by kernel_rfl
theorem q_cp (x0 : LL) (x1 : Int) : φ_cp [C.list x0, C.int .i64 x1] = retOf (F_cp x0 x1) := by kernel_rfl
theorem q_bz (x0 : LL) (x1 : Int) : φ_bz [C.list x0, C.int .i64 x1] = retOf (F_bz x0 x1) := by kernel_rfl
theorem q_dy (x0 : Int) (x1 : Int) (x2 : LL) : φ_dy [C.int .i64 x0, C.int .i64 x1, C.list x2] = retOf (F_dy x0 x1 x2) := by kernel_rfl
theorem q_spec_l12Do (x0 : LL) (x1 : Int) (x2 : Int) (x3 : LL) : φ_spec_l12Do [C.list x0, C.int .i64 x1, C.int .i64 x2, C.list x3] = retOf (F_spec_l12Do x0 x1 x2 x3) := by kernel_rfl
theorem q_by (x0 : Bool) (x1 : LL) (x2 : Int) (x3 : LL) (x4 : Int) (x5 : Int) (x6 : Int) (x7 : Int) : φ_by [C.bool x0, C.list x1, C.int .i64 x2, C.list x3, C.int .i64 x4, C.int .i64 x5, C.int .i64 x6, C.int .i64 x7] = retOf (F_by x0 x1 x2 x3 x4 x5 x6 x7) := by kernel_rfl
theorem q_spec_l2Do (x0 : Int) (x1 : LL) (x2 : Int) (x3 : Int) (x4 : LL) : φ_spec_l2Do [C.int .i64 x0, C.list x1, C.int .i64 x2, C.int .i64 x3, C.list x4] = retOf (F_spec_l2Do x0 x1 x2 x3 x4) := by kernel_rfl
theorem q_do (x0 : LL) (x1 : Int) (x2 : Int) (x3 : LL) : φ_do [C.list x0, C.int .i64 x1, C.int .i64 x2, C.list x3] = retOf (F_do x0 x1 x2 x3) := by kernel_rfl
theorem q_db (x0 : Int) (x1 : Int) (x2 : Int) (x3 : Int) : φ_db [C.int .i64 x0, C.int .i64 x1, C.int .i64 x2, C.int .i64 x3] = retOf (F_db x0 x1 x2 x3) := by kernel_rfl
theorem q_dx (x0 : Int) (x1 : Int) (x2 : LL) : φ_dx [C.int .i64 x0, C.int .i64 x1, C.list x2] = retOf (F_dx x0 x1 x2) := by kernel_rfl
theorem q_dc (x0 : LL) : φ_dc [C.list x0] = retOf (F_dc x0) := by kernel_rfl
theorem q_dm (x0 : Bool) (x1 : LL) (x2 : Int) (x3 : LL) (x4 : Int) (x5 : LL) (x6 : Int) : φ_dm [C.bool x0, C.list x1, C.int .i64 x2, C.list x3, C.int .i64 x4, C.list x5, C.int .i64 x6] = retOf (F_dm x0 x1 x2 x3 x4 x5 x6) := by kernel_rfl
theorem q_bc (x0 : LL) (x1 : Int) (x2 : Int) (x3 : Int) : φ_bc [C.list x0, C.int .i64 x1, C.int .i64 x2, C.int .i64 x3] = retOf (F_bc x0 x1 x2 x3) := by kernel_rfl
theorem q_aw (x0 : Bool) (x1 : LL) (x2 : Int) (x3 : LL) (x4 : Int) (x5 : Int) (x6 : LL) : φ_aw [C.bool x0, C.list x1, C.int .i64 x2, C.list x3, C.int .i64 x4, C.int .i64 x5, C.list x6] = retOf (F_aw x0 x1 x2 x3 x4 x5 x6) := by kernel_rfl
theorem q_dh (x0 : LL) (x1 : Int) : φ_dh [C.list x0, C.int .i64 x1] = retOf (F_dh x0 x1) := by kernel_rfl
theorem q_bs (x0 : Bool) (x1 : LL) (x2 : Int) (x3 : LL) (x4 : Int) (x5 : Int) (x6 : Int) (x7 : Int) : φ_bs [C.bool x0, C.list x1, C.int .i64 x2, C.list x3, C.int .i64 x4, C.int .i64 x5, C.int .i64 x6, C.int .i64 x7] = retOf (F_bs x0 x1 x2 x3 x4 x5 x6 x7) := by kernel_rfl
theorem q_ak (x0 : LL) (x1 : Int) (x2 : Int) (x3 : Int) (x4 : Int) : φ_ak [C.list x0, C.int .i64 x1, C.int .i64 x2, C.int .i64 x3, C.int .i64 x4] = retOf (F_ak x0 x1 x2 x3 x4) := by kernel_rfl
theorem q_ap (x0 : LL) : φ_ap [C.list x0] = retOf (F_ap x0) := by kernel_rfl
theorem q_ag (x0 : LL) : φ_ag [C.list x0] = retOf (F_ag x0) := by kernel_rfl
theorem q_dp (x0 : LL) (x1 : Int) : φ_dp [C.list x0, C.int .i64 x1] = retOf (F_dp x0 x1) := by kernel_rfl
theorem q_ds (x0 : LL) (x1 : Int) (x2 : Int) (x3 : Int) (x4 : LL) : φ_ds [C.list x0, C.int .i64 x1, C.int .i64 x2, C.int .i64 x3, C.list x4] = retOf (F_ds x0 x1 x2 x3 x4) := by kernel_rfl
theorem q_dl (x0 : Int) (x1 : Int) (x2 : Int) (x3 : Int) : φ_dl [C.int .i64 x0, C.int .i64 x1, C.int .i64 x2, C.int .i64 x3] = retOf (F_dl x0 x1 x2 x3) := by kernel_rfl
theorem q_cr (x0 : LL) (x1 : Int) : φ_cr [C.list x0, C.int .i64 x1] = retOf (F_cr x0 x1) := by kernel_rfl
theorem q_df (x0 : LL) : φ_df [C.list x0] = retOf (F_df x0) := by kernel_rfl
theorem q_bj (x0 : Bool) (x1 : LL) (x2 : Int) (x3 : LL) : φ_bj [C.bool x0, C.list x1, C.int .i64 x2, C.list x3] = retOf (F_bj x0 x1 x2 x3) := by kernel_rfl
theorem q_ea (x0 : Int) (x1 : Int) (x2 : Int) : φ_ea [C.int .i64 x0, C.int .i64 x1, C.int .i64 x2] = retOf (F_ea x0 x1 x2) := by kernel_rfl
theorem q_bb (x0 : LL) (x1 : Int) (x2 : Bool) : φ_bb [C.list x0, C.int .i64 x1, C.bool x2] = retOf (F_bb x0 x1 x2) := by kernel_rfl
theorem q_cl (x0 : Bool) (x1 : LL) (x2 : Int) (x3 : LL) (x4 : Int) : φ_cl [C.bool x0, C.list x1, C.int .i64 x2, C.list x3, C.int .i64 x4] = retOf (F_cl x0 x1 x2 x3 x4) := by kernel_rfl
theorem q_av (x0 : LL) (x1 : Int) : φ_av [C.list x0, C.int .i64 x1] = retOf (F_av x0 x1) := by kernel_rfl
theorem q_as (x0 : Bool) (x1 : LL) (x2 : Int) (x3 : LL) (x4 : Bool) : φ_as [C.bool x0, C.list x1, C.int .i64 x2, C.list x3, C.bool x4] = retOf (F_as x0 x1 x2 x3 x4) := by kernel_rfl
theorem q_bg (x0 : Bool) (x1 : LL) (x2 : Int) (x3 : LL) (x4 : Int) (x5 : Int) (x6 : Int) : φ_bg [C.bool x0, C.list x1, C.int .i64 x2, C.list x3, C.int .i64 x4, C.int .i64 x5, C.int .i64 x6] = retOf (F_bg x0 x1 x2 x3 x4 x5 x6) := by kernel_rfl
theorem q_cy (x0 : Int) : φ_cy [C.int .i64 x0] = retOf (F_cy x0) := by kernel_rfl
end Dx
