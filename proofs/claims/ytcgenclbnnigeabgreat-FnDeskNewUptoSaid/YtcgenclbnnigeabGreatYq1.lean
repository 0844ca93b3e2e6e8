/- The typed texts are the trees'. -/
import Derived.Test.YtcgenclbnnigeabGreatYb
set_option linter.all false
set_option linter.unusedVariables false
set_option linter.unusedSimpArgs false
set_option linter.unnecessarySimpa false
namespace Dx
open Go
theorem q_ck (x0 : Bool) (x1 : LL) (x2 : Int) (x3 : LL) (x4 : LL) (x5 : LL) (x6 : Int) : φ_ck [C.bool x0, C.list x1, C.int .i64 x2, C.list x3, C.list x4, C.list x5, C.int .i64 x6] = retOf (F_ck x0 x1 x2 x3 x4 x5 x6) := by kernel_rfl
theorem q_dq (x0 : LL) (x1 : Int) : φ_dq [C.list x0, C.int .i64 x1] = retOf (F_dq x0 x1) := by kernel_rfl
theorem q_bf (x0 : Int) (x1 : Bool) (x2 : Int) (x3 : LL) (x4 : Int) (x5 : Int) (x6 : Int) (x7 : Int) (x8 : Int) (x9 : Int) : φ_bf [C.int .i64 x0, C.bool x1, C.int .i64 x2, C.list x3, C.int .i64 x4, C.int .i64 x5, C.int .i64 x6, C.int .i64 x7, C.int .i64 x8, C.int .i64 x9] = retOf (F_bf x0 x1 x2 x3 x4 x5 x6 x7 x8 x9) := by kernel_rfl
theorem q_dv (x0 : Bool) (x1 : LL) (x2 : Int) (x3 : LL) : φ_dv [C.bool x0, C.list x1, C.int .i64 x2, C.list x3] = retOf (F_dv x0 x1 x2 x3) := by kernel_rfl
theorem q_ds (x0 : Bool) (x1 : LL) (x2 : Int) (x3 : LL) : φ_ds [C.bool x0, C.list x1, C.int .i64 x2, C.list x3] = retOf (F_ds x0 x1 x2 x3) := by kernel_rfl
theorem q_bu (x0 : LL) : φ_bu [C.list x0] = retOf (F_bu x0) := by kernel_rfl
theorem q_ei (x0 : Int) (x1 : LL) : φ_ei [C.int .i64 x0, C.list x1] = retOf (F_ei x0 x1) := by kernel_rfl
theorem q_bk (x0 : Bool) (x1 : LL) (x2 : Int) (x3 : LL) (x4 : LL) : φ_bk [C.bool x0, C.list x1, C.int .i64 x2, C.list x3, C.list x4] = retOf (F_bk x0 x1 x2 x3 x4) := by kernel_rfl
theorem q_bj (x0 : Bool) (x1 : LL) (x2 : Int) (x3 : LL) (x4 : LL) : φ_bj [C.bool x0, C.list x1, C.int .i64 x2, C.list x3, C.list x4] = retOf (F_bj x0 x1 x2 x3 x4) := by kernel_rfl
theorem q_cj (x0 : LL) (x1 : LL) : φ_cj [C.list x0, C.list x1] = retOf (F_cj x0 x1) := by kernel_rfl
theorem q_dt (x0 : LL) (x1 : Int) (x2 : Int) (x3 : Int) (x4 : LL) : φ_dt [C.list x0, C.int .i64 x1, C.int .i64 x2, C.int .i64 x3, C.list x4] = retOf (F_dt x0 x1 x2 x3 x4) := by kernel_rfl
theorem q_dc (x0 : LL) : φ_dc [C.list x0] = retOf (F_dc x0) := by kernel_rfl
theorem q_ec (x0 : LL) (x1 : Int) : φ_ec [C.list x0, C.int .i64 x1] = retOf (F_ec x0 x1) := by kernel_rfl
theorem q_dr (x0 : Bool) (x1 : LL) (x2 : Int) (x3 : LL) (x4 : Int) (x5 : LL) (x6 : Int) : φ_dr [C.bool x0, C.list x1, C.int .i64 x2, C.list x3, C.int .i64 x4, C.list x5, C.int .i64 x6] = retOf (F_dr x0 x1 x2 x3 x4 x5 x6) := by kernel_rfl
theorem q_cb (x0 : Int) (x1 : Int) : φ_cb [C.int .i64 x0, C.int .i64 x1] = retOf (F_cb x0 x1) := by kernel_rfl
theorem q_cv (x0 : LL) (x1 : Int) (x2 : Int) (x3 : Int) (x4 : Int) : φ_cv [C.list x0, C.int .i64 x1, C.int .i64 x2, C.int .i64 x3, C.int .i64 x4] = retOf (F_cv x0 x1 x2 x3 x4) := by kernel_rfl
theorem q_aj (x0 : LL) : φ_aj [C.list x0] = retOf (F_aj x0) := by kernel_rfl
theorem q_dl (x0 : LL) (x1 : Int) (x2 : Int) (x3 : Int) (x4 : Int) : φ_dl [C.list x0, C.int .i64 x1, C.int .i64 x2, C.int .i64 x3, C.int .i64 x4] = retOf (F_dl x0 x1 x2 x3 x4) := by kernel_rfl
theorem q_af (x0 : LL) : φ_af [C.list x0] = retOf (F_af x0) := by kernel_rfl
theorem q_ah (x0 : LL) : φ_ah [C.list x0] = retOf (F_ah x0) := by kernel_rfl
theorem q_bs (x0 : Bool) (x1 : LL) (x2 : Int) (x3 : LL) (x4 : Bool) : φ_bs [C.bool x0, C.list x1, C.int .i64 x2, C.list x3, C.bool x4] = retOf (F_bs x0 x1 x2 x3 x4) := by kernel_rfl
theorem q_cd (x0 : LL) (x1 : Int) : φ_cd [C.list x0, C.int .i64 x1] = retOf (F_cd x0 x1) := by kernel_rfl
theorem q_al (x0 : LL) : φ_al [C.list x0] = retOf (F_al x0) := by kernel_rfl
theorem q_cr (x0 : LL) (x1 : Int) : φ_cr [C.list x0, C.int .i64 x1] = retOf (F_cr x0 x1) := by kernel_rfl
theorem q_cg (x0 : Bool) (x1 : LL) (x2 : Int) (x3 : LL) : φ_cg [C.bool x0, C.list x1, C.int .i64 x2, C.list x3] = retOf (F_cg x0 x1 x2 x3) := by kernel_rfl
theorem q_bb (x0 : Bool) (x1 : LL) (x2 : Int) (x3 : LL) : φ_bb [C.bool x0, C.list x1, C.int .i64 x2, C.list x3] = retOf (F_bb x0 x1 x2 x3) := by kernel_rfl
theorem q_bh (x0 : Int) (x1 : Int) (x2 : LL) : φ_bh [C.int .i64 x0, C.int .i64 x1, C.list x2] = retOf (F_bh x0 x1 x2) := by kernel_rfl
theorem q_ee (x0 : LL) (x1 : Int) (x2 : LL) (x3 : Int) : φ_ee [C.list x0, C.int .i64 x1, C.list x2, C.int .i64 x3] = retOf (F_ee x0 x1 x2 x3) := by kernel_rfl
theorem q_bq (x0 : LL) (x1 : Int) (x2 : Bool) : φ_bq [C.list x0, C.int .i64 x1, C.bool x2] = retOf (F_bq x0 x1 x2) := by kernel_rfl
theorem q_cf (x0 : Bool) (x1 : LL) (x2 : Int) (x3 : LL) (x4 : Int) : φ_cf [C.bool x0, C.list x1, C.int .i64 x2, C.list x3, C.int .i64 x4] = retOf (F_cf x0 x1 x2 x3 x4) := by kernel_rfl
theorem q_az (x0 : LL) (x1 : Int) : φ_az [C.list x0, C.int .i64 x1] = retOf (F_az x0 x1) := by kernel_rfl
theorem q_ay (x0 : Bool) (x1 : LL) (x2 : Int) (x3 : LL) (x4 : Bool) : φ_ay [C.bool x0, C.list x1, C.int .i64 x2, C.list x3, C.bool x4] = retOf (F_ay x0 x1 x2 x3 x4) := by kernel_rfl
theorem q_bl (x0 : Bool) (x1 : LL) (x2 : Int) (x3 : LL) (x4 : Int) (x5 : Int) (x6 : Int) : φ_bl [C.bool x0, C.list x1, C.int .i64 x2, C.list x3, C.int .i64 x4, C.int .i64 x5, C.int .i64 x6] = retOf (F_bl x0 x1 x2 x3 x4 x5 x6) := by kernel_rfl
theorem q_aw (x0 : Int) (x1 : Int) (x2 : LL) : φ_aw [C.int .i64 x0, C.int .i64 x1, C.list x2] = retOf (F_aw x0 x1 x2) := by kernel_rfl
theorem q_ba (x0 : Int) : φ_ba [C.int .i64 x0] = retOf (F_ba x0) := by kernel_rfl
end Dx
