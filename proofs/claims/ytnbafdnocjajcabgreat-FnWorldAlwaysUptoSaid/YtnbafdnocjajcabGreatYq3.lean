/- The typed texts are the trees'. -/
import Derived.Test.YtnbafdnocjajcabGreatYb
set_option linter.all false
set_option linter.unusedVariables false
set_option linter.unusedSimpArgs false
set_option linter.unnecessarySimpa false
namespace Dx
open Go
theorem q_df (x0 : LL) (x1 : Int) (x2 : Bool) (x3 : LL) (x4 : Int) (x5 : LL) (x6 : LL) (x7 : LL) : φ_df [C.list x0, C.int .i64 x1, C.bool x2, C.list x3, C.int .i64 x4, C.list x5, C.list x6, C.list x7] = retOf (F_df x0 x1 x2 x3 x4 x5 x6 x7) := by kernel_rfl
theorem q_cd (x0 : Bool) (x1 : LL) (x2 : Int) (x3 : LL) (x4 : Int) : φ_cd [C.bool x0, C.list x1, C.int .i64 x2, C.list x3, C.int .i64 x4] = retOf (F_cd x0 x1 x2 x3 x4) := by kernel_rfl
theorem q_cy (x0 : Bool) (x1 : LL) (x2 : Int) (x3 : LL) (x4 : LL) (x5 : LL) (x6 : Int) (x7 : Int) (x8 : Int) (x9 : LL) : φ_cy [C.bool x0, C.list x1, C.int .i64 x2, C.list x3, C.list x4, C.list x5, C.int .i64 x6, C.int .i64 x7, C.int .i64 x8, C.list x9] = retOf (F_cy x0 x1 x2 x3 x4 x5 x6 x7 x8 x9) := by kernel_rfl
theorem q_eh (x0 : Int) (x1 : Bool) (x2 : Int) (x3 : LL) (x4 : Int) (x5 : Int) (x6 : Int) (x7 : Int) (x8 : Int) : φ_eh [C.int .i64 x0, C.bool x1, C.int .i64 x2, C.list x3, C.int .i64 x4, C.int .i64 x5, C.int .i64 x6, C.int .i64 x7, C.int .i64 x8] = retOf (F_eh x0 x1 x2 x3 x4 x5 x6 x7 x8) := by kernel_rfl
theorem q_fa (x0 : Bool) (x1 : LL) (x2 : Int) (x3 : LL) (x4 : LL) (x5 : LL) (x6 : Int) (x7 : Int) (x8 : Int) (x9 : LL) : φ_fa [C.bool x0, C.list x1, C.int .i64 x2, C.list x3, C.list x4, C.list x5, C.int .i64 x6, C.int .i64 x7, C.int .i64 x8, C.list x9] = retOf (F_fa x0 x1 x2 x3 x4 x5 x6 x7 x8 x9) := by kernel_rfl
theorem q_dm (x0 : Bool) (x1 : LL) (x2 : Int) (x3 : LL) (x4 : LL) (x5 : LL) (x6 : Int) (x7 : Int) (x8 : Int) (x9 : LL) : φ_dm [C.bool x0, C.list x1, C.int .i64 x2, C.list x3, C.list x4, C.list x5, C.int .i64 x6, C.int .i64 x7, C.int .i64 x8, C.list x9] = retOf (F_dm x0 x1 x2 x3 x4 x5 x6 x7 x8 x9) := by kernel_rfl
theorem q_dx (x0 : Bool) (x1 : LL) (x2 : Int) (x3 : LL) (x4 : LL) (x5 : LL) (x6 : Int) (x7 : Int) (x8 : Int) (x9 : LL) : φ_dx [C.bool x0, C.list x1, C.int .i64 x2, C.list x3, C.list x4, C.list x5, C.int .i64 x6, C.int .i64 x7, C.int .i64 x8, C.list x9] = retOf (F_dx x0 x1 x2 x3 x4 x5 x6 x7 x8 x9) := by kernel_rfl
theorem q_ec (x0 : LL) (x1 : Int) (x2 : Int) (x3 : LL) : φ_ec [C.list x0, C.int .i64 x1, C.int .i64 x2, C.list x3] = retOf (F_ec x0 x1 x2 x3) := by kernel_rfl
theorem q_cl (x0 : Bool) (x1 : LL) (x2 : Int) (x3 : LL) (x4 : LL) (x5 : LL) (x6 : Int) (x7 : Int) (x8 : Int) (x9 : LL) : φ_cl [C.bool x0, C.list x1, C.int .i64 x2, C.list x3, C.list x4, C.list x5, C.int .i64 x6, C.int .i64 x7, C.int .i64 x8, C.list x9] = retOf (F_cl x0 x1 x2 x3 x4 x5 x6 x7 x8 x9) := by kernel_rfl
theorem q_cr (x0 : LL) : φ_cr [C.list x0] = retOf (F_cr x0) := by kernel_rfl
theorem q_by (x0 : LL) (x1 : LL) : φ_by [C.list x0, C.list x1] = retOf (F_by x0 x1) := by kernel_rfl
theorem q_du (x0 : Bool) (x1 : LL) (x2 : Int) (x3 : LL) (x4 : Int) (x5 : Int) (x6 : Int) (x7 : Int) : φ_du [C.bool x0, C.list x1, C.int .i64 x2, C.list x3, C.int .i64 x4, C.int .i64 x5, C.int .i64 x6, C.int .i64 x7] = retOf (F_du x0 x1 x2 x3 x4 x5 x6 x7) := by kernel_rfl
theorem q_ct (x0 : Int) (x1 : LL) (x2 : Int) (x3 : Int) (x4 : LL) : φ_ct [C.int .i64 x0, C.list x1, C.int .i64 x2, C.int .i64 x3, C.list x4] = retOf (F_ct x0 x1 x2 x3 x4) := by kernel_rfl
theorem q_db (x0 : LL) (x1 : Int) (x2 : Int) (x3 : LL) : φ_db [C.list x0, C.int .i64 x1, C.int .i64 x2, C.list x3] = retOf (F_db x0 x1 x2 x3) := by kernel_rfl
theorem q_ba (x0 : Bool) (x1 : LL) (x2 : Int) (x3 : LL) (x4 : LL) (x5 : LL) (x6 : Int) (x7 : Int) (x8 : Int) (x9 : Int) : φ_ba [C.bool x0, C.list x1, C.int .i64 x2, C.list x3, C.list x4, C.list x5, C.int .i64 x6, C.int .i64 x7, C.int .i64 x8, C.int .i64 x9] = retOf (F_ba x0 x1 x2 x3 x4 x5 x6 x7 x8 x9) := by kernel_rfl
theorem q_bg (x0 : Bool) (x1 : LL) (x2 : Int) (x3 : LL) (x4 : LL) (x5 : LL) (x6 : Int) : φ_bg [C.bool x0, C.list x1, C.int .i64 x2, C.list x3, C.list x4, C.list x5, C.int .i64 x6] = retOf (F_bg x0 x1 x2 x3 x4 x5 x6) := by kernel_rfl
theorem q_ab (x0 : Bool) (x1 : LL) (x2 : Int) (x3 : LL) (x4 : LL) (x5 : LL) (x6 : Int) : φ_ab [C.bool x0, C.list x1, C.int .i64 x2, C.list x3, C.list x4, C.list x5, C.int .i64 x6] = retOf (F_ab x0 x1 x2 x3 x4 x5 x6) := by kernel_rfl
theorem q_em (x0 : Int) (x1 : LL) : φ_em [C.int .i64 x0, C.list x1] = retOf (F_em x0 x1) := by kernel_rfl
theorem q_fd (x0 : Int) (x1 : LL) (x2 : Int) (x3 : Int) (x4 : LL) : φ_fd [C.int .i64 x0, C.list x1, C.int .i64 x2, C.int .i64 x3, C.list x4] = retOf (F_fd x0 x1 x2 x3 x4) := by kernel_rfl
theorem q_dd (x0 : Bool) (x1 : LL) (x2 : Int) (x3 : LL) (x4 : Int) : φ_dd [C.bool x0, C.list x1, C.int .i64 x2, C.list x3, C.int .i64 x4] = retOf (F_dd x0 x1 x2 x3 x4) := by kernel_rfl
theorem q_do (x0 : LL) (x1 : LL) : φ_do [C.list x0, C.list x1] = retOf (F_do x0 x1) := by kernel_rfl
theorem q_ek (x0 : Int) (x1 : Int) (x2 : Int) (x3 : Int) : φ_ek [C.int .i64 x0, C.int .i64 x1, C.int .i64 x2, C.int .i64 x3] = retOf (F_ek x0 x1 x2 x3) := by kernel_rfl
theorem q_ef (x0 : Int) (x1 : LL) : φ_ef [C.int .i64 x0, C.list x1] = retOf (F_ef x0 x1) := by kernel_rfl
theorem q_cw (x0 : Bool) (x1 : LL) (x2 : Int) (x3 : LL) (x4 : Int) (x5 : Int) (x6 : LL) : φ_cw [C.bool x0, C.list x1, C.int .i64 x2, C.list x3, C.int .i64 x4, C.int .i64 x5, C.list x6] = retOf (F_cw x0 x1 x2 x3 x4 x5 x6) := by kernel_rfl
theorem q_dv (x0 : Int) (x1 : LL) : φ_dv [C.int .i64 x0, C.list x1] = retOf (F_dv x0 x1) := by kernel_rfl
theorem q_ar (x0 : LL) : φ_ar [C.list x0] = retOf (F_ar x0) := by kernel_rfl
theorem q_at (x0 : LL) (x1 : Int) (x2 : Int) (x3 : Int) (x4 : Int) : φ_at [C.list x0, C.int .i64 x1, C.int .i64 x2, C.int .i64 x3, C.int .i64 x4] = retOf (F_at x0 x1 x2 x3 x4) := by kernel_rfl
theorem q_as (x0 : LL) : φ_as [C.list x0] = retOf (F_as x0) := by kernel_rfl
theorem q_bb (x0 : LL) : φ_bb [C.list x0] = retOf (F_bb x0) := by kernel_rfl
theorem q_dj (x0 : Int) (x1 : Bool) (x2 : Int) (x3 : LL) (x4 : Int) (x5 : Int) (x6 : Bool) (x7 : Int) (x8 : LL) (x9 : Int) : φ_dj [C.int .i64 x0, C.bool x1, C.int .i64 x2, C.list x3, C.int .i64 x4, C.int .i64 x5, C.bool x6, C.int .i64 x7, C.list x8, C.int .i64 x9] = retOf (F_dj x0 x1 x2 x3 x4 x5 x6 x7 x8 x9) := by kernel_rfl
theorem q_fh (x0 : LL) (x1 : Int) : φ_fh [C.list x0, C.int .i64 x1] = retOf (F_fh x0 x1) := by kernel_rfl
theorem q_cc (x0 : Int) (x1 : Bool) (x2 : Int) (x3 : LL) (x4 : Int) : φ_cc [C.int .i64 x0, C.bool x1, C.int .i64 x2, C.list x3, C.int .i64 x4] = retOf (F_cc x0 x1 x2 x3 x4) := by kernel_rfl
theorem q_cu (x0 : Bool) (x1 : LL) (x2 : Int) (x3 : LL) (x4 : Bool) : φ_cu [C.bool x0, C.list x1, C.int .i64 x2, C.list x3, C.bool x4] = retOf (F_cu x0 x1 x2 x3 x4) := by kernel_rfl
theorem q_cq (x0 : Bool) (x1 : LL) (x2 : Int) (x3 : LL) (x4 : Int) : φ_cq [C.bool x0, C.list x1, C.int .i64 x2, C.list x3, C.int .i64 x4] = retOf (F_cq x0 x1 x2 x3 x4) := by kernel_rfl
theorem q_ei (x0 : Bool) (x1 : LL) (x2 : Int) (x3 : LL) (x4 : Bool) (x5 : LL) (x6 : Int) (x7 : LL) : φ_ei [C.bool x0, C.list x1, C.int .i64 x2, C.list x3, C.bool x4, C.list x5, C.int .i64 x6, C.list x7] = retOf (F_ei x0 x1 x2 x3 x4 x5 x6 x7) := by kernel_rfl
theorem q_cv (x0 : LL) (x1 : Int) : φ_cv [C.list x0, C.int .i64 x1] = retOf (F_cv x0 x1) := by kernel_rfl
theorem q_dg (x0 : Int) : φ_dg [C.int .i64 x0] = retOf (F_dg x0) := by kernel_rfl
theorem q_el (x0 : LL) : φ_el [C.list x0] = retOf (F_el x0) := by kernel_rfl
theorem q_ds (x0 : LL) : φ_ds [C.list x0] = retOf (F_ds x0) := by kernel_rfl
theorem q_cb (x0 : LL) (x1 : Int) (x2 : Bool) : φ_cb [C.list x0, C.int .i64 x1, C.bool x2] = retOf (F_cb x0 x1 x2) := by kernel_rfl
theorem q_ap (x0 : LL) (x1 : Int) (x2 : Int) (x3 : Int) (x4 : Int) : φ_ap [C.list x0, C.int .i64 x1, C.int .i64 x2, C.int .i64 x3, C.int .i64 x4] = retOf (F_ap x0 x1 x2 x3 x4) := by kernel_rfl
theorem q_af (x0 : LL) : φ_af [C.list x0] = retOf (F_af x0) := by kernel_rfl
theorem q_aj (x0 : LL) : φ_aj [C.list x0] = retOf (F_aj x0) := by kernel_rfl
theorem q_ak (x0 : LL) : φ_ak [C.list x0] = retOf (F_ak x0) := by kernel_rfl
theorem q_ax (x0 : Int) (x1 : Bool) (x2 : Int) (x3 : LL) (x4 : Int) : φ_ax [C.int .i64 x0, C.bool x1, C.int .i64 x2, C.list x3, C.int .i64 x4] = retOf (F_ax x0 x1 x2 x3 x4) := by kernel_rfl
theorem q_ck (x0 : Int) (x1 : Int) : φ_ck [C.int .i64 x0, C.int .i64 x1] = retOf (F_ck x0 x1) := by kernel_rfl
theorem q_dr : φ_dr [] = retOf (F_dr) := by kernel_rfl
theorem q_eq (x0 : Int) : φ_eq [C.int .i64 x0] = retOf (F_eq x0) := by kernel_rfl
end Dx
