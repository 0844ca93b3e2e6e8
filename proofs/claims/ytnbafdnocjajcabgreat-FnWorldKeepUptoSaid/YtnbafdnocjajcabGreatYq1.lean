/- The typed texts are the trees'. -/
import Derived.Test.YtnbafdnocjajcabGreatYb
set_option linter.all false
set_option linter.unusedVariables false
set_option linter.unusedSimpArgs false
set_option linter.unnecessarySimpa false
namespace Dx
open Go
theorem q_dz (x0 : Bool) (x1 : LL) (x2 : Int) (x3 : LL) (x4 : LL) (x5 : LL) (x6 : Int) : φ_dz [C.bool x0, C.list x1, C.int .i64 x2, C.list x3, C.list x4, C.list x5, C.int .i64 x6] = retOf (F_dz x0 x1 x2 x3 x4 x5 x6) := by kernel_rfl
theorem q_ee (x0 : LL) (x1 : Int) (x2 : Int) (x3 : LL) : φ_ee [C.list x0, C.int .i64 x1, C.int .i64 x2, C.list x3] = retOf (F_ee x0 x1 x2 x3) := by kernel_rfl
theorem q_fh (x0 : Int) (x1 : Int) (x2 : LL) : φ_fh [C.int .i64 x0, C.int .i64 x1, C.list x2] = retOf (F_fh x0 x1 x2) := by kernel_rfl
theorem q_fg (x0 : LL) (x1 : Int) (x2 : Int) (x3 : LL) : φ_fg [C.list x0, C.int .i64 x1, C.int .i64 x2, C.list x3] = retOf (F_fg x0 x1 x2 x3) := by kernel_rfl
theorem q_dg (x0 : LL) : φ_dg [C.list x0] = retOf (F_dg x0) := by kernel_rfl
theorem q_em (x0 : Bool) (x1 : LL) (x2 : Int) (x3 : LL) (x4 : LL) (x5 : LL) : φ_em [C.bool x0, C.list x1, C.int .i64 x2, C.list x3, C.list x4, C.list x5] = retOf (F_em x0 x1 x2 x3 x4 x5) := by kernel_rfl
theorem q_dp (x0 : Bool) (x1 : LL) (x2 : Int) (x3 : LL) (x4 : LL) (x5 : LL) (x6 : Bool) (x7 : LL) (x8 : Int) (x9 : LL) (x10 : LL) (x11 : LL) : φ_dp [C.bool x0, C.list x1, C.int .i64 x2, C.list x3, C.list x4, C.list x5, C.bool x6, C.list x7, C.int .i64 x8, C.list x9, C.list x10, C.list x11] = retOf (F_dp x0 x1 x2 x3 x4 x5 x6 x7 x8 x9 x10 x11) := by kernel_rfl
theorem q_spec_l2Do (x0 : Int) (x1 : LL) (x2 : Int) (x3 : Int) (x4 : LL) : φ_spec_l2Do [C.int .i64 x0, C.list x1, C.int .i64 x2, C.int .i64 x3, C.list x4] = retOf (F_spec_l2Do x0 x1 x2 x3 x4) := by kernel_rfl
theorem q_aa (x0 : Bool) (x1 : LL) (x2 : Int) (x3 : LL) (x4 : LL) (x5 : LL) (x6 : Int) (x7 : Int) (x8 : Int) (x9 : Int) (x10 : LL) (x11 : Int) (x12 : Int) (x13 : Int) (x14 : LL) : φ_aa [C.bool x0, C.list x1, C.int .i64 x2, C.list x3, C.list x4, C.list x5, C.int .i64 x6, C.int .i64 x7, C.int .i64 x8, C.int .i64 x9, C.list x10, C.int .i64 x11, C.int .i64 x12, C.int .i64 x13, C.list x14] = retOf (F_aa x0 x1 x2 x3 x4 x5 x6 x7 x8 x9 x10 x11 x12 x13 x14) := by kernel_rfl
theorem q_et (x0 : LL) (x1 : Int) (x2 : Int) (x3 : LL) : φ_et [C.list x0, C.int .i64 x1, C.int .i64 x2, C.list x3] = retOf (F_et x0 x1 x2 x3) := by kernel_rfl
theorem q_ab (x0 : Bool) (x1 : LL) (x2 : Int) (x3 : LL) (x4 : LL) (x5 : LL) (x6 : Int) : φ_ab [C.bool x0, C.list x1, C.int .i64 x2, C.list x3, C.list x4, C.list x5, C.int .i64 x6] = retOf (F_ab x0 x1 x2 x3 x4 x5 x6) := by kernel_rfl
theorem q_ax (x0 : Bool) (x1 : LL) (x2 : Int) (x3 : LL) (x4 : LL) (x5 : LL) : φ_ax [C.bool x0, C.list x1, C.int .i64 x2, C.list x3, C.list x4, C.list x5] = retOf (F_ax x0 x1 x2 x3 x4 x5) := by kernel_rfl
theorem q_fo (x0 : Int) (x1 : Int) (x2 : LL) : φ_fo [C.int .i64 x0, C.int .i64 x1, C.list x2] = retOf (F_fo x0 x1 x2) := by kernel_rfl
theorem q_fe (x0 : LL) (x1 : LL) : φ_fe [C.list x0, C.list x1] = retOf (F_fe x0 x1) := by kernel_rfl
theorem q_bk (x0 : Int) (x1 : LL) : φ_bk [C.int .i64 x0, C.list x1] = retOf (F_bk x0 x1) := by kernel_rfl
theorem q_eo (x0 : Int) (x1 : Int) (x2 : Int) (x3 : Int) : φ_eo [C.int .i64 x0, C.int .i64 x1, C.int .i64 x2, C.int .i64 x3] = retOf (F_eo x0 x1 x2 x3) := by kernel_rfl
theorem q_ch (x0 : LL) (x1 : Int) (x2 : Int) (x3 : Int) : φ_ch [C.list x0, C.int .i64 x1, C.int .i64 x2, C.int .i64 x3] = retOf (F_ch x0 x1 x2 x3) := by kernel_rfl
theorem q_dj (x0 : Bool) (x1 : LL) (x2 : Int) (x3 : LL) (x4 : Int) (x5 : Int) (x6 : LL) : φ_dj [C.bool x0, C.list x1, C.int .i64 x2, C.list x3, C.int .i64 x4, C.int .i64 x5, C.list x6] = retOf (F_dj x0 x1 x2 x3 x4 x5 x6) := by kernel_rfl
theorem q_cw (x0 : Int) (x1 : Int) : φ_cw [C.int .i64 x0, C.int .i64 x1] = retOf (F_cw x0 x1) := by kernel_rfl
theorem q_bo (x0 : Int) (x1 : Bool) (x2 : Int) (x3 : LL) (x4 : Int) : φ_bo [C.int .i64 x0, C.bool x1, C.int .i64 x2, C.list x3, C.int .i64 x4] = retOf (F_bo x0 x1 x2 x3 x4) := by kernel_rfl
theorem q_as (x0 : LL) (x1 : Int) (x2 : Int) (x3 : Int) (x4 : Int) : φ_as [C.list x0, C.int .i64 x1, C.int .i64 x2, C.int .i64 x3, C.int .i64 x4] = retOf (F_as x0 x1 x2 x3 x4) := by kernel_rfl
theorem q_dv (x0 : LL) (x1 : Int) (x2 : Int) : φ_dv [C.list x0, C.int .i64 x1, C.int .i64 x2] = retOf (F_dv x0 x1 x2) := by kernel_rfl
theorem q_aj (x0 : LL) : φ_aj [C.list x0] = retOf (F_aj x0) := by kernel_rfl
theorem q_ba (x0 : LL) : φ_ba [C.list x0] = retOf (F_ba x0) := by kernel_rfl
theorem q_an (x0 : LL) : φ_an [C.list x0] = retOf (F_an x0) := by kernel_rfl
theorem q_cm (x0 : Int) (x1 : Bool) (x2 : Int) (x3 : LL) (x4 : Int) : φ_cm [C.int .i64 x0, C.bool x1, C.int .i64 x2, C.list x3, C.int .i64 x4] = retOf (F_cm x0 x1 x2 x3 x4) := by kernel_rfl
theorem q_ec (x0 : Int) (x1 : Bool) (x2 : Int) (x3 : LL) (x4 : Int) : φ_ec [C.int .i64 x0, C.bool x1, C.int .i64 x2, C.list x3, C.int .i64 x4] = retOf (F_ec x0 x1 x2 x3 x4) := by kernel_rfl
theorem q_cb (x0 : Int) (x1 : Bool) (x2 : Int) (x3 : LL) (x4 : Int) (x5 : Int) : φ_cb [C.int .i64 x0, C.bool x1, C.int .i64 x2, C.list x3, C.int .i64 x4, C.int .i64 x5] = retOf (F_cb x0 x1 x2 x3 x4 x5) := by kernel_rfl
theorem q_db (x0 : Bool) (x1 : LL) (x2 : Int) (x3 : LL) (x4 : Int) : φ_db [C.bool x0, C.list x1, C.int .i64 x2, C.list x3, C.int .i64 x4] = retOf (F_db x0 x1 x2 x3 x4) := by kernel_rfl
theorem q_ez (x0 : Int) (x1 : Int) (x2 : Int) (x3 : Int) : φ_ez [C.int .i64 x0, C.int .i64 x1, C.int .i64 x2, C.int .i64 x3] = retOf (F_ez x0 x1 x2 x3) := by kernel_rfl
theorem q_fn (x0 : Int) (x1 : Int) (x2 : LL) (x3 : Int) (x4 : Int) (x5 : LL) : φ_fn [C.int .i64 x0, C.int .i64 x1, C.list x2, C.int .i64 x3, C.int .i64 x4, C.list x5] = retOf (F_fn x0 x1 x2 x3 x4 x5) := by kernel_rfl
theorem q_ei (x0 : LL) (x1 : Int) : φ_ei [C.list x0, C.int .i64 x1] = retOf (F_ei x0 x1) := by kernel_rfl
theorem q_cq (x0 : LL) (x1 : Int) : φ_cq [C.list x0, C.int .i64 x1] = retOf (F_cq x0 x1) := by kernel_rfl
theorem q_bl (x0 : Int) (x1 : Bool) (x2 : Int) (x3 : LL) (x4 : Int) (x5 : Int) (x6 : Int) (x7 : Int) (x8 : LL) : φ_bl [C.int .i64 x0, C.bool x1, C.int .i64 x2, C.list x3, C.int .i64 x4, C.int .i64 x5, C.int .i64 x6, C.int .i64 x7, C.list x8] = retOf (F_bl x0 x1 x2 x3 x4 x5 x6 x7 x8) := by kernel_rfl
theorem q_fp (x0 : LL) (x1 : Int) (x2 : LL) (x3 : Int) : φ_fp [C.list x0, C.int .i64 x1, C.list x2, C.int .i64 x3] = retOf (F_fp x0 x1 x2 x3) := by kernel_rfl
theorem q_cj (x0 : LL) (x1 : Int) (x2 : Bool) : φ_cj [C.list x0, C.int .i64 x1, C.bool x2] = retOf (F_cj x0 x1 x2) := by kernel_rfl
theorem q_ap (x0 : LL) (x1 : Int) (x2 : Int) (x3 : Int) (x4 : Int) : φ_ap [C.list x0, C.int .i64 x1, C.int .i64 x2, C.int .i64 x3, C.int .i64 x4] = retOf (F_ap x0 x1 x2 x3 x4) := by kernel_rfl
theorem q_ae (x0 : LL) : φ_ae [C.list x0] = retOf (F_ae x0) := by kernel_rfl
theorem q_ai (x0 : LL) : φ_ai [C.list x0] = retOf (F_ai x0) := by kernel_rfl
theorem q_ak (x0 : LL) : φ_ak [C.list x0] = retOf (F_ak x0) := by kernel_rfl
theorem q_az (x0 : Int) (x1 : Bool) (x2 : Int) (x3 : LL) (x4 : Int) : φ_az [C.int .i64 x0, C.bool x1, C.int .i64 x2, C.list x3, C.int .i64 x4] = retOf (F_az x0 x1 x2 x3 x4) := by kernel_rfl
theorem q_co (x0 : Int) (x1 : Int) : φ_co [C.int .i64 x0, C.int .i64 x1] = retOf (F_co x0 x1) := by kernel_rfl
theorem q_el (x0 : Int) : φ_el [C.int .i64 x0] = retOf (F_el x0) := by kernel_rfl
theorem q_bc (x0 : Int) (x1 : Int) (x2 : Int) (x3 : Int) : φ_bc [C.int .i64 x0, C.int .i64 x1, C.int .i64 x2, C.int .i64 x3] = retOf (F_bc x0 x1 x2 x3) := by kernel_rfl
end Dx
