/- The typed texts are the trees'. -/
import Derived.Test.YtcgenclbnnigeaaGreatYb
set_option linter.all false
set_option linter.unusedVariables false
set_option linter.unusedSimpArgs false
set_option linter.unnecessarySimpa false
namespace Dx
open Go
theorem q_dx (x0 : Bool) (x1 : LL) (x2 : Int) (x3 : LL) (x4 : LL) (x5 : LL) (x6 : Int) : φ_dx [C.bool x0, C.list x1, C.int .i64 x2, C.list x3, C.list x4, C.list x5, C.int .i64 x6] = retOf (F_dx x0 x1 x2 x3 x4 x5 x6) := by kernel_rfl
theorem q_cd (x0 : LL) (x1 : Int) (x2 : Int) : φ_cd [C.list x0, C.int .i64 x1, C.int .i64 x2] = retOf (F_cd x0 x1 x2) := by kernel_rfl
theorem q_bx (x0 : Int) (x1 : Bool) (x2 : Int) (x3 : LL) (x4 : Int) (x5 : Int) (x6 : Int) (x7 : Int) (x8 : Int) (x9 : Int) : φ_bx [C.int .i64 x0, C.bool x1, C.int .i64 x2, C.list x3, C.int .i64 x4, C.int .i64 x5, C.int .i64 x6, C.int .i64 x7, C.int .i64 x8, C.int .i64 x9] = retOf (F_bx x0 x1 x2 x3 x4 x5 x6 x7 x8 x9) := by kernel_rfl
theorem q_eo (x0 : Bool) (x1 : LL) (x2 : Int) (x3 : LL) (x4 : LL) (x5 : LL) (x6 : Int) (x7 : Int) (x8 : Int) (x9 : LL) : φ_eo [C.bool x0, C.list x1, C.int .i64 x2, C.list x3, C.list x4, C.list x5, C.int .i64 x6, C.int .i64 x7, C.int .i64 x8, C.list x9] = retOf (F_eo x0 x1 x2 x3 x4 x5 x6 x7 x8 x9) := by kernel_rfl
theorem q_et (x0 : Bool) (x1 : LL) (x2 : Int) (x3 : LL) : φ_et [C.bool x0, C.list x1, C.int .i64 x2, C.list x3] = retOf (F_et x0 x1 x2 x3) := by kernel_rfl
theorem q_spec_l12Do (x0 : LL) (x1 : Int) (x2 : Int) (x3 : LL) : φ_spec_l12Do [C.list x0, C.int .i64 x1, C.int .i64 x2, C.list x3] = retOf (F_spec_l12Do x0 x1 x2 x3) := by kernel_rfl
theorem q_di (x0 : Bool) (x1 : LL) (x2 : Int) (x3 : LL) (x4 : Int) (x5 : Int) (x6 : Int) (x7 : Int) : φ_di [C.bool x0, C.list x1, C.int .i64 x2, C.list x3, C.int .i64 x4, C.int .i64 x5, C.int .i64 x6, C.int .i64 x7] = retOf (F_di x0 x1 x2 x3 x4 x5 x6 x7) := by kernel_rfl
theorem q_fh (x0 : Int) (x1 : LL) : φ_fh [C.int .i64 x0, C.list x1] = retOf (F_fh x0 x1) := by kernel_rfl
theorem q_ci (x0 : Int) (x1 : LL) (x2 : Int) (x3 : Int) (x4 : LL) : φ_ci [C.int .i64 x0, C.list x1, C.int .i64 x2, C.int .i64 x3, C.list x4] = retOf (F_ci x0 x1 x2 x3 x4) := by kernel_rfl
theorem q_cu (x0 : LL) (x1 : Int) (x2 : Int) (x3 : LL) : φ_cu [C.list x0, C.int .i64 x1, C.int .i64 x2, C.list x3] = retOf (F_cu x0 x1 x2 x3) := by kernel_rfl
theorem q_ds (x0 : Int) (x1 : LL) (x2 : Int) (x3 : Int) (x4 : LL) : φ_ds [C.int .i64 x0, C.list x1, C.int .i64 x2, C.int .i64 x3, C.list x4] = retOf (F_ds x0 x1 x2 x3 x4) := by kernel_rfl
theorem q_ap (x0 : LL) : φ_ap [C.list x0] = retOf (F_ap x0) := by kernel_rfl
theorem q_ay (x0 : Bool) (x1 : LL) (x2 : Int) (x3 : LL) (x4 : LL) (x5 : LL) : φ_ay [C.bool x0, C.list x1, C.int .i64 x2, C.list x3, C.list x4, C.list x5] = retOf (F_ay x0 x1 x2 x3 x4 x5) := by kernel_rfl
theorem q_el (x0 : Int) (x1 : LL) : φ_el [C.int .i64 x0, C.list x1] = retOf (F_el x0 x1) := by kernel_rfl
theorem q_ez (x0 : Int) (x1 : Int) (x2 : LL) : φ_ez [C.int .i64 x0, C.int .i64 x1, C.list x2] = retOf (F_ez x0 x1 x2) := by kernel_rfl
theorem q_ec (x0 : LL) (x1 : LL) : φ_ec [C.list x0, C.list x1] = retOf (F_ec x0 x1) := by kernel_rfl
theorem q_ep (x0 : Bool) (x1 : LL) (x2 : Int) (x3 : LL) (x4 : Int) (x5 : LL) (x6 : Int) : φ_ep [C.bool x0, C.list x1, C.int .i64 x2, C.list x3, C.int .i64 x4, C.list x5, C.int .i64 x6] = retOf (F_ep x0 x1 x2 x3 x4 x5 x6) := by kernel_rfl
theorem q_bw (x0 : LL) (x1 : Int) (x2 : Int) (x3 : Int) : φ_bw [C.list x0, C.int .i64 x1, C.int .i64 x2, C.int .i64 x3] = retOf (F_bw x0 x1 x2 x3) := by kernel_rfl
theorem q_du (x0 : Int) (x1 : LL) : φ_du [C.int .i64 x0, C.list x1] = retOf (F_du x0 x1) := by kernel_rfl
theorem q_cr (x0 : Int) (x1 : Int) : φ_cr [C.int .i64 x0, C.int .i64 x1] = retOf (F_cr x0 x1) := by kernel_rfl
theorem q_dn (x0 : Int) (x1 : LL) : φ_dn [C.int .i64 x0, C.list x1] = retOf (F_dn x0 x1) := by kernel_rfl
theorem q_as (x0 : LL) : φ_as [C.list x0] = retOf (F_as x0) := by kernel_rfl
theorem q_em (x0 : LL) (x1 : Int) (x2 : Int) : φ_em [C.list x0, C.int .i64 x1, C.int .i64 x2] = retOf (F_em x0 x1 x2) := by kernel_rfl
theorem q_al (x0 : LL) : φ_al [C.list x0] = retOf (F_al x0) := by kernel_rfl
theorem q_ag (x0 : LL) : φ_ag [C.list x0] = retOf (F_ag x0) := by kernel_rfl
theorem q_an (x0 : LL) : φ_an [C.list x0] = retOf (F_an x0) := by kernel_rfl
theorem q_ey (x0 : LL) (x1 : Int) : φ_ey [C.list x0, C.int .i64 x1] = retOf (F_ey x0 x1) := by kernel_rfl
theorem q_dg (x0 : Int) (x1 : Bool) (x2 : Int) (x3 : LL) (x4 : Int) : φ_dg [C.int .i64 x0, C.bool x1, C.int .i64 x2, C.list x3, C.int .i64 x4] = retOf (F_dg x0 x1 x2 x3 x4) := by kernel_rfl
theorem q_fb (x0 : LL) (x1 : Int) (x2 : Int) (x3 : Int) (x4 : LL) : φ_fb [C.list x0, C.int .i64 x1, C.int .i64 x2, C.int .i64 x3, C.list x4] = retOf (F_fb x0 x1 x2 x3 x4) := by kernel_rfl
theorem q_eg (x0 : Bool) (x1 : LL) (x2 : Int) (x3 : LL) (x4 : Bool) (x5 : LL) (x6 : Int) (x7 : LL) : φ_eg [C.bool x0, C.list x1, C.int .i64 x2, C.list x3, C.bool x4, C.list x5, C.int .i64 x6, C.list x7] = retOf (F_eg x0 x1 x2 x3 x4 x5 x6 x7) := by kernel_rfl
theorem q_cv (x0 : Int) : φ_cv [C.int .i64 x0] = retOf (F_cv x0) := by kernel_rfl
theorem q_ck (x0 : Int) : φ_ck [C.int .i64 x0] = retOf (F_ck x0) := by kernel_rfl
theorem q_ef (x0 : LL) : φ_ef [C.list x0] = retOf (F_ef x0) := by kernel_rfl
theorem q_cf (x0 : Int) (x1 : Int) (x2 : LL) : φ_cf [C.int .i64 x0, C.int .i64 x1, C.list x2] = retOf (F_cf x0 x1 x2) := by kernel_rfl
theorem q_fj (x0 : Int) (x1 : Int) (x2 : Int) : φ_fj [C.int .i64 x0, C.int .i64 x1, C.int .i64 x2] = retOf (F_fj x0 x1 x2) := by kernel_rfl
theorem q_cb (x0 : LL) (x1 : Int) (x2 : Bool) : φ_cb [C.list x0, C.int .i64 x1, C.bool x2] = retOf (F_cb x0 x1 x2) := by kernel_rfl
theorem q_ae (x0 : LL) : φ_ae [C.list x0] = retOf (F_ae x0) := by kernel_rfl
theorem q_ah (x0 : LL) : φ_ah [C.list x0] = retOf (F_ah x0) := by kernel_rfl
theorem q_aj (x0 : LL) : φ_aj [C.list x0] = retOf (F_aj x0) := by kernel_rfl
theorem q_cc (x0 : Int) (x1 : Int) (x2 : Int) (x3 : Int) : φ_cc [C.int .i64 x0, C.int .i64 x1, C.int .i64 x2, C.int .i64 x3] = retOf (F_cc x0 x1 x2 x3) := by kernel_rfl
theorem q_dy (x0 : Int) (x1 : Int) (x2 : LL) : φ_dy [C.int .i64 x0, C.int .i64 x1, C.list x2] = retOf (F_dy x0 x1 x2) := by kernel_rfl
theorem q_db : φ_db [] = retOf (F_db) := by kernel_rfl
theorem q_dv (x0 : Int) : φ_dv [C.int .i64 x0] = retOf (F_dv x0) := by kernel_rfl
end Dx
