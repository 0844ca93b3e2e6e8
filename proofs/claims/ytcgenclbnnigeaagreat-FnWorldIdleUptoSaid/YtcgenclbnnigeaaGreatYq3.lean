/- The typed texts are the trees'. -/
import Derived.Test.YtcgenclbnnigeaaGreatYb
set_option linter.all false
set_option linter.unusedVariables false
set_option linter.unusedSimpArgs false
set_option linter.unnecessarySimpa false
namespace Dx
open Go
theorem q_ef (x0 : LL) (x1 : Int) : φ_ef [C.list x0, C.int .i64 x1] = retOf (F_ef x0 x1) := by kernel_rfl
theorem q_bu (x0 : Bool) (x1 : LL) (x2 : Int) (x3 : LL) (x4 : Int) : φ_bu [C.bool x0, C.list x1, C.int .i64 x2, C.list x3, C.int .i64 x4] = retOf (F_bu x0 x1 x2 x3 x4) := by kernel_rfl
theorem q_dh (x0 : Int) (x1 : Bool) (x2 : Int) (x3 : LL) (x4 : Int) (x5 : Int) (x6 : Int) (x7 : Int) (x8 : Int) : φ_dh [C.int .i64 x0, C.bool x1, C.int .i64 x2, C.list x3, C.int .i64 x4, C.int .i64 x5, C.int .i64 x6, C.int .i64 x7, C.int .i64 x8] = retOf (F_dh x0 x1 x2 x3 x4 x5 x6 x7 x8) := by kernel_rfl
theorem q_co (x0 : LL) (x1 : Int) : φ_co [C.list x0, C.int .i64 x1] = retOf (F_co x0 x1) := by kernel_rfl
theorem q_cc (x0 : Int) (x1 : Bool) (x2 : Int) (x3 : LL) (x4 : Int) (x5 : Int) (x6 : Int) (x7 : Int) (x8 : Int) : φ_cc [C.int .i64 x0, C.bool x1, C.int .i64 x2, C.list x3, C.int .i64 x4, C.int .i64 x5, C.int .i64 x6, C.int .i64 x7, C.int .i64 x8] = retOf (F_cc x0 x1 x2 x3 x4 x5 x6 x7 x8) := by kernel_rfl
theorem q_bg (x0 : Bool) (x1 : LL) (x2 : Int) (x3 : LL) : φ_bg [C.bool x0, C.list x1, C.int .i64 x2, C.list x3] = retOf (F_bg x0 x1 x2 x3) := by kernel_rfl
theorem q_ds (x0 : LL) (x1 : Int) (x2 : Int) (x3 : LL) : φ_ds [C.list x0, C.int .i64 x1, C.int .i64 x2, C.list x3] = retOf (F_ds x0 x1 x2 x3) := by kernel_rfl
theorem q_dp (x0 : LL) (x1 : Int) : φ_dp [C.list x0, C.int .i64 x1] = retOf (F_dp x0 x1) := by kernel_rfl
theorem q_cf (x0 : Bool) (x1 : LL) (x2 : Int) (x3 : LL) (x4 : LL) (x5 : LL) (x6 : Int) (x7 : Int) (x8 : Int) (x9 : LL) : φ_cf [C.bool x0, C.list x1, C.int .i64 x2, C.list x3, C.list x4, C.list x5, C.int .i64 x6, C.int .i64 x7, C.int .i64 x8, C.list x9] = retOf (F_cf x0 x1 x2 x3 x4 x5 x6 x7 x8 x9) := by kernel_rfl
theorem q_fg (x0 : Bool) (x1 : LL) (x2 : Int) (x3 : LL) : φ_fg [C.bool x0, C.list x1, C.int .i64 x2, C.list x3] = retOf (F_fg x0 x1 x2 x3) := by kernel_rfl
theorem q_spec_l12Do (x0 : LL) (x1 : Int) (x2 : Int) (x3 : LL) : φ_spec_l12Do [C.list x0, C.int .i64 x1, C.int .i64 x2, C.list x3] = retOf (F_spec_l12Do x0 x1 x2 x3) := by kernel_rfl
theorem q_dj (x0 : Bool) (x1 : LL) (x2 : Int) (x3 : LL) (x4 : Int) (x5 : Int) (x6 : Int) (x7 : Int) : φ_dj [C.bool x0, C.list x1, C.int .i64 x2, C.list x3, C.int .i64 x4, C.int .i64 x5, C.int .i64 x6, C.int .i64 x7] = retOf (F_dj x0 x1 x2 x3 x4 x5 x6 x7) := by kernel_rfl
theorem q_fs (x0 : Int) (x1 : LL) : φ_fs [C.int .i64 x0, C.list x1] = retOf (F_fs x0 x1) := by kernel_rfl
theorem q_cn (x0 : LL) (x1 : Int) (x2 : Int) (x3 : LL) : φ_cn [C.list x0, C.int .i64 x1, C.int .i64 x2, C.list x3] = retOf (F_cn x0 x1 x2 x3) := by kernel_rfl
theorem q_eg (x0 : Bool) (x1 : LL) (x2 : Int) (x3 : LL) (x4 : LL) (x5 : LL) : φ_eg [C.bool x0, C.list x1, C.int .i64 x2, C.list x3, C.list x4, C.list x5] = retOf (F_eg x0 x1 x2 x3 x4 x5) := by kernel_rfl
theorem q_bf (x0 : Bool) (x1 : LL) (x2 : Int) (x3 : LL) (x4 : LL) (x5 : LL) (x6 : Int) (x7 : Int) (x8 : Int) (x9 : Int) : φ_bf [C.bool x0, C.list x1, C.int .i64 x2, C.list x3, C.list x4, C.list x5, C.int .i64 x6, C.int .i64 x7, C.int .i64 x8, C.int .i64 x9] = retOf (F_bf x0 x1 x2 x3 x4 x5 x6 x7 x8 x9) := by kernel_rfl
theorem q_ab (x0 : Bool) (x1 : LL) (x2 : Int) (x3 : LL) (x4 : LL) (x5 : LL) (x6 : Int) : φ_ab [C.bool x0, C.list x1, C.int .i64 x2, C.list x3, C.list x4, C.list x5, C.int .i64 x6] = retOf (F_ab x0 x1 x2 x3 x4 x5 x6) := by kernel_rfl
theorem q_aw (x0 : Bool) (x1 : LL) (x2 : Int) (x3 : LL) (x4 : LL) (x5 : LL) : φ_aw [C.bool x0, C.list x1, C.int .i64 x2, C.list x3, C.list x4, C.list x5] = retOf (F_aw x0 x1 x2 x3 x4 x5) := by kernel_rfl
theorem q_fq (x0 : Int) (x1 : LL) (x2 : Int) (x3 : Int) (x4 : LL) : φ_fq [C.int .i64 x0, C.list x1, C.int .i64 x2, C.int .i64 x3, C.list x4] = retOf (F_fq x0 x1 x2 x3 x4) := by kernel_rfl
theorem q_cm (x0 : Bool) (x1 : LL) (x2 : Int) (x3 : LL) (x4 : Int) : φ_cm [C.bool x0, C.list x1, C.int .i64 x2, C.list x3, C.int .i64 x4] = retOf (F_cm x0 x1 x2 x3 x4) := by kernel_rfl
theorem q_dk (x0 : LL) (x1 : LL) : φ_dk [C.list x0, C.list x1] = retOf (F_dk x0 x1) := by kernel_rfl
theorem q_fd (x0 : Bool) (x1 : LL) (x2 : Int) (x3 : LL) (x4 : Int) (x5 : LL) (x6 : Int) : φ_fd [C.bool x0, C.list x1, C.int .i64 x2, C.list x3, C.int .i64 x4, C.list x5, C.int .i64 x6] = retOf (F_fd x0 x1 x2 x3 x4 x5 x6) := by kernel_rfl
theorem q_en (x0 : Bool) (x1 : LL) (x2 : Int) (x3 : LL) (x4 : LL) (x5 : LL) (x6 : Int) (x7 : Int) (x8 : Int) (x9 : LL) : φ_en [C.bool x0, C.list x1, C.int .i64 x2, C.list x3, C.list x4, C.list x5, C.int .i64 x6, C.int .i64 x7, C.int .i64 x8, C.list x9] = retOf (F_en x0 x1 x2 x3 x4 x5 x6 x7 x8 x9) := by kernel_rfl
theorem q_fe (x0 : LL) (x1 : LL) : φ_fe [C.list x0, C.list x1] = retOf (F_fe x0 x1) := by kernel_rfl
theorem q_cz (x0 : Bool) (x1 : LL) (x2 : Int) (x3 : LL) (x4 : Int) (x5 : Int) (x6 : LL) : φ_cz [C.bool x0, C.list x1, C.int .i64 x2, C.list x3, C.int .i64 x4, C.int .i64 x5, C.list x6] = retOf (F_cz x0 x1 x2 x3 x4 x5 x6) := by kernel_rfl
theorem q_bh (x0 : Int) (x1 : Bool) (x2 : Int) (x3 : LL) (x4 : Int) : φ_bh [C.int .i64 x0, C.bool x1, C.int .i64 x2, C.list x3, C.int .i64 x4] = retOf (F_bh x0 x1 x2 x3 x4) := by kernel_rfl
theorem q_eh (x0 : Int) (x1 : LL) : φ_eh [C.int .i64 x0, C.list x1] = retOf (F_eh x0 x1) := by kernel_rfl
theorem q_ci (x0 : Bool) (x1 : LL) (x2 : Int) (x3 : LL) : φ_ci [C.bool x0, C.list x1, C.int .i64 x2, C.list x3] = retOf (F_ci x0 x1 x2 x3) := by kernel_rfl
theorem q_dl (x0 : LL) (x1 : Int) (x2 : Int) : φ_dl [C.list x0, C.int .i64 x1, C.int .i64 x2] = retOf (F_dl x0 x1 x2) := by kernel_rfl
theorem q_at (x0 : LL) : φ_at [C.list x0] = retOf (F_at x0) := by kernel_rfl
theorem q_dm (x0 : Int) (x1 : Bool) (x2 : Int) (x3 : LL) (x4 : Int) (x5 : Int) (x6 : Bool) (x7 : Int) (x8 : LL) (x9 : Int) : φ_dm [C.int .i64 x0, C.bool x1, C.int .i64 x2, C.list x3, C.int .i64 x4, C.int .i64 x5, C.bool x6, C.int .i64 x7, C.list x8, C.int .i64 x9] = retOf (F_dm x0 x1 x2 x3 x4 x5 x6 x7 x8 x9) := by kernel_rfl
theorem q_ao (x0 : LL) : φ_ao [C.list x0] = retOf (F_ao x0) := by kernel_rfl
theorem q_bv (x0 : Int) (x1 : Bool) (x2 : Int) (x3 : LL) (x4 : Int) : φ_bv [C.int .i64 x0, C.bool x1, C.int .i64 x2, C.list x3, C.int .i64 x4] = retOf (F_bv x0 x1 x2 x3 x4) := by kernel_rfl
theorem q_ec (x0 : Int) (x1 : Bool) (x2 : Int) (x3 : LL) (x4 : Int) : φ_ec [C.int .i64 x0, C.bool x1, C.int .i64 x2, C.list x3, C.int .i64 x4] = retOf (F_ec x0 x1 x2 x3 x4) := by kernel_rfl
theorem q_cd (x0 : Int) (x1 : Bool) (x2 : Int) (x3 : LL) (x4 : Int) (x5 : Int) : φ_cd [C.int .i64 x0, C.bool x1, C.int .i64 x2, C.list x3, C.int .i64 x4, C.int .i64 x5] = retOf (F_cd x0 x1 x2 x3 x4 x5) := by kernel_rfl
theorem q_da (x0 : LL) : φ_da [C.list x0] = retOf (F_da x0) := by kernel_rfl
theorem q_dy (x0 : Int) (x1 : Bool) (x2 : Int) (x3 : LL) (x4 : Int) : φ_dy [C.int .i64 x0, C.bool x1, C.int .i64 x2, C.list x3, C.int .i64 x4] = retOf (F_dy x0 x1 x2 x3 x4) := by kernel_rfl
theorem q_cs (x0 : Int) : φ_cs [C.int .i64 x0] = retOf (F_cs x0) := by kernel_rfl
theorem q_el (x0 : Bool) (x1 : LL) (x2 : Int) (x3 : LL) : φ_el [C.bool x0, C.list x1, C.int .i64 x2, C.list x3] = retOf (F_el x0 x1 x2 x3) := by kernel_rfl
theorem q_eu (x0 : LL) : φ_eu [C.list x0] = retOf (F_eu x0) := by kernel_rfl
theorem q_ek (x0 : LL) : φ_ek [C.list x0] = retOf (F_ek x0) := by kernel_rfl
theorem q_fu (x0 : Int) (x1 : Int) (x2 : Int) : φ_fu [C.int .i64 x0, C.int .i64 x1, C.int .i64 x2] = retOf (F_fu x0 x1 x2) := by kernel_rfl
theorem q_bw (x0 : LL) (x1 : Int) (x2 : Bool) : φ_bw [C.list x0, C.int .i64 x1, C.bool x2] = retOf (F_bw x0 x1 x2) := by kernel_rfl
theorem q_du (x0 : Bool) (x1 : LL) (x2 : Int) (x3 : LL) (x4 : Int) : φ_du [C.bool x0, C.list x1, C.int .i64 x2, C.list x3, C.int .i64 x4] = retOf (F_du x0 x1 x2 x3 x4) := by kernel_rfl
theorem q_af (x0 : LL) : φ_af [C.list x0] = retOf (F_af x0) := by kernel_rfl
theorem q_ak (x0 : LL) : φ_ak [C.list x0] = retOf (F_ak x0) := by kernel_rfl
theorem q_by (x0 : Int) (x1 : Int) (x2 : Int) (x3 : Int) : φ_by [C.int .i64 x0, C.int .i64 x1, C.int .i64 x2, C.int .i64 x3] = retOf (F_by x0 x1 x2 x3) := by kernel_rfl
theorem q_em (x0 : Int) (x1 : Bool) (x2 : Int) (x3 : LL) (x4 : Int) : φ_em [C.int .i64 x0, C.bool x1, C.int .i64 x2, C.list x3, C.int .i64 x4] = retOf (F_em x0 x1 x2 x3 x4) := by kernel_rfl
theorem q_ce (x0 : Bool) (x1 : LL) (x2 : Int) (x3 : LL) (x4 : Int) (x5 : Int) (x6 : Int) : φ_ce [C.bool x0, C.list x1, C.int .i64 x2, C.list x3, C.int .i64 x4, C.int .i64 x5, C.int .i64 x6] = retOf (F_ce x0 x1 x2 x3 x4 x5 x6) := by kernel_rfl
theorem q_bo (x0 : Int) (x1 : Int) (x2 : LL) : φ_bo [C.int .i64 x0, C.int .i64 x1, C.list x2] = retOf (F_bo x0 x1 x2) := by kernel_rfl
theorem q_az (x0 : Int) (x1 : Int) (x2 : Int) (x3 : Int) : φ_az [C.int .i64 x0, C.int .i64 x1, C.int .i64 x2, C.int .i64 x3] = retOf (F_az x0 x1 x2 x3) := by kernel_rfl
end Dx
