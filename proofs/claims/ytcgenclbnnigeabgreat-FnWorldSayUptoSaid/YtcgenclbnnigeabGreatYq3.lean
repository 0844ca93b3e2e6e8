/- The typed texts are the trees'. -/
import Derived.Test.YtcgenclbnnigeabGreatYb
set_option linter.all false
set_option linter.unusedVariables false
set_option linter.unusedSimpArgs false
set_option linter.unnecessarySimpa false
namespace Dx
open Go
theorem q_dy (x0 : LL) (x1 : Int) : φ_dy [C.list x0, C.int .i64 x1] = retOf (F_dy x0 x1) := by kernel_rfl
theorem q_ck (x0 : Bool) (x1 : LL) (x2 : Int) (x3 : LL) (x4 : Int) : φ_ck [C.bool x0, C.list x1, C.int .i64 x2, C.list x3, C.int .i64 x4] = retOf (F_ck x0 x1 x2 x3 x4) := by kernel_rfl
theorem q_dv (x0 : Int) (x1 : Bool) (x2 : Int) (x3 : LL) (x4 : Int) (x5 : Int) (x6 : Int) (x7 : Int) (x8 : Int) : φ_dv [C.int .i64 x0, C.bool x1, C.int .i64 x2, C.list x3, C.int .i64 x4, C.int .i64 x5, C.int .i64 x6, C.int .i64 x7, C.int .i64 x8] = retOf (F_dv x0 x1 x2 x3 x4 x5 x6 x7 x8) := by kernel_rfl
theorem q_db (x0 : LL) (x1 : Int) : φ_db [C.list x0, C.int .i64 x1] = retOf (F_db x0 x1) := by kernel_rfl
theorem q_cm (x0 : Int) (x1 : Bool) (x2 : Int) (x3 : LL) (x4 : Int) (x5 : Int) (x6 : Int) (x7 : Int) (x8 : Int) : φ_cm [C.int .i64 x0, C.bool x1, C.int .i64 x2, C.list x3, C.int .i64 x4, C.int .i64 x5, C.int .i64 x6, C.int .i64 x7, C.int .i64 x8] = retOf (F_cm x0 x1 x2 x3 x4 x5 x6 x7 x8) := by kernel_rfl
theorem q_bo (x0 : Bool) (x1 : LL) (x2 : Int) (x3 : LL) : φ_bo [C.bool x0, C.list x1, C.int .i64 x2, C.list x3] = retOf (F_bo x0 x1 x2 x3) := by kernel_rfl
theorem q_ei (x0 : LL) (x1 : Int) (x2 : Int) (x3 : LL) : φ_ei [C.list x0, C.int .i64 x1, C.int .i64 x2, C.list x3] = retOf (F_ei x0 x1 x2 x3) := by kernel_rfl
theorem q_di (x0 : LL) (x1 : Int) : φ_di [C.list x0, C.int .i64 x1] = retOf (F_di x0 x1) := by kernel_rfl
theorem q_cj (x0 : Bool) (x1 : LL) (x2 : Int) (x3 : LL) (x4 : LL) (x5 : LL) (x6 : Int) (x7 : Int) (x8 : Int) (x9 : LL) : φ_cj [C.bool x0, C.list x1, C.int .i64 x2, C.list x3, C.list x4, C.list x5, C.int .i64 x6, C.int .i64 x7, C.int .i64 x8, C.list x9] = retOf (F_cj x0 x1 x2 x3 x4 x5 x6 x7 x8 x9) := by kernel_rfl
theorem q_fd (x0 : Bool) (x1 : LL) (x2 : Int) (x3 : LL) : φ_fd [C.bool x0, C.list x1, C.int .i64 x2, C.list x3] = retOf (F_fd x0 x1 x2 x3) := by kernel_rfl
theorem q_spec_l12Do (x0 : LL) (x1 : Int) (x2 : Int) (x3 : LL) : φ_spec_l12Do [C.list x0, C.int .i64 x1, C.int .i64 x2, C.list x3] = retOf (F_spec_l12Do x0 x1 x2 x3) := by kernel_rfl
theorem q_dp (x0 : Bool) (x1 : LL) (x2 : Int) (x3 : LL) (x4 : Int) (x5 : Int) (x6 : Int) (x7 : Int) : φ_dp [C.bool x0, C.list x1, C.int .i64 x2, C.list x3, C.int .i64 x4, C.int .i64 x5, C.int .i64 x6, C.int .i64 x7] = retOf (F_dp x0 x1 x2 x3 x4 x5 x6 x7) := by kernel_rfl
theorem q_fx (x0 : Int) (x1 : LL) : φ_fx [C.int .i64 x0, C.list x1] = retOf (F_fx x0 x1) := by kernel_rfl
theorem q_co (x0 : LL) (x1 : Int) (x2 : Int) (x3 : LL) : φ_co [C.list x0, C.int .i64 x1, C.int .i64 x2, C.list x3] = retOf (F_co x0 x1 x2 x3) := by kernel_rfl
theorem q_dz (x0 : Bool) (x1 : LL) (x2 : Int) (x3 : LL) (x4 : LL) (x5 : LL) : φ_dz [C.bool x0, C.list x1, C.int .i64 x2, C.list x3, C.list x4, C.list x5] = retOf (F_dz x0 x1 x2 x3 x4 x5) := by kernel_rfl
theorem q_ba (x0 : Bool) (x1 : LL) (x2 : Int) (x3 : LL) (x4 : LL) (x5 : LL) (x6 : Int) (x7 : Int) (x8 : Int) (x9 : Int) : φ_ba [C.bool x0, C.list x1, C.int .i64 x2, C.list x3, C.list x4, C.list x5, C.int .i64 x6, C.int .i64 x7, C.int .i64 x8, C.int .i64 x9] = retOf (F_ba x0 x1 x2 x3 x4 x5 x6 x7 x8 x9) := by kernel_rfl
theorem q_ab (x0 : Bool) (x1 : LL) (x2 : Int) (x3 : LL) (x4 : LL) (x5 : LL) (x6 : Int) : φ_ab [C.bool x0, C.list x1, C.int .i64 x2, C.list x3, C.list x4, C.list x5, C.int .i64 x6] = retOf (F_ab x0 x1 x2 x3 x4 x5 x6) := by kernel_rfl
theorem q_ax (x0 : Bool) (x1 : LL) (x2 : Int) (x3 : LL) (x4 : LL) (x5 : LL) : φ_ax [C.bool x0, C.list x1, C.int .i64 x2, C.list x3, C.list x4, C.list x5] = retOf (F_ax x0 x1 x2 x3 x4 x5) := by kernel_rfl
theorem q_eu (x0 : LL) (x1 : Int) (x2 : Int) (x3 : Int) (x4 : LL) : φ_eu [C.list x0, C.int .i64 x1, C.int .i64 x2, C.int .i64 x3, C.list x4] = retOf (F_eu x0 x1 x2 x3 x4) := by kernel_rfl
theorem q_fr (x0 : Int) (x1 : Int) (x2 : LL) : φ_fr [C.int .i64 x0, C.int .i64 x1, C.list x2] = retOf (F_fr x0 x1 x2) := by kernel_rfl
theorem q_ey (x0 : LL) : φ_ey [C.list x0] = retOf (F_ey x0) := by kernel_rfl
theorem q_fn (x0 : LL) (x1 : Int) : φ_fn [C.list x0, C.int .i64 x1] = retOf (F_fn x0 x1) := by kernel_rfl
theorem q_ew (x0 : Int) (x1 : Int) (x2 : Int) (x3 : Int) : φ_ew [C.int .i64 x0, C.int .i64 x1, C.int .i64 x2, C.int .i64 x3] = retOf (F_ew x0 x1 x2 x3) := by kernel_rfl
theorem q_fh (x0 : LL) (x1 : LL) : φ_fh [C.list x0, C.list x1] = retOf (F_fh x0 x1) := by kernel_rfl
theorem q_bg (x0 : Bool) (x1 : LL) (x2 : Int) (x3 : LL) (x4 : Int) (x5 : Int) (x6 : LL) : φ_bg [C.bool x0, C.list x1, C.int .i64 x2, C.list x3, C.int .i64 x4, C.int .i64 x5, C.list x6] = retOf (F_bg x0 x1 x2 x3 x4 x5 x6) := by kernel_rfl
theorem q_dd (x0 : Int) (x1 : Int) : φ_dd [C.int .i64 x0, C.int .i64 x1] = retOf (F_dd x0 x1) := by kernel_rfl
theorem q_ek (x0 : LL) : φ_ek [C.list x0] = retOf (F_ek x0) := by kernel_rfl
theorem q_at (x0 : LL) : φ_at [C.list x0] = retOf (F_at x0) := by kernel_rfl
theorem q_es (x0 : LL) (x1 : Int) (x2 : Int) : φ_es [C.list x0, C.int .i64 x1, C.int .i64 x2] = retOf (F_es x0 x1 x2) := by kernel_rfl
theorem q_ar (x0 : LL) : φ_ar [C.list x0] = retOf (F_ar x0) := by kernel_rfl
theorem q_ai (x0 : LL) : φ_ai [C.list x0] = retOf (F_ai x0) := by kernel_rfl
theorem q_an (x0 : LL) : φ_an [C.list x0] = retOf (F_an x0) := by kernel_rfl
theorem q_fu (x0 : LL) (x1 : Int) : φ_fu [C.list x0, C.int .i64 x1] = retOf (F_fu x0 x1) := by kernel_rfl
theorem q_bh (x0 : Bool) (x1 : LL) (x2 : Int) (x3 : LL) (x4 : LL) (x5 : LL) (x6 : Int) (x7 : Int) (x8 : Int) (x9 : Int) : φ_bh [C.bool x0, C.list x1, C.int .i64 x2, C.list x3, C.list x4, C.list x5, C.int .i64 x6, C.int .i64 x7, C.int .i64 x8, C.int .i64 x9] = retOf (F_bh x0 x1 x2 x3 x4 x5 x6 x7 x8 x9) := by kernel_rfl
theorem q_cy (x0 : Bool) (x1 : LL) (x2 : Int) (x3 : LL) (x4 : Bool) : φ_cy [C.bool x0, C.list x1, C.int .i64 x2, C.list x3, C.bool x4] = retOf (F_cy x0 x1 x2 x3 x4) := by kernel_rfl
theorem q_cw (x0 : Bool) (x1 : LL) (x2 : Int) (x3 : LL) (x4 : Int) : φ_cw [C.bool x0, C.list x1, C.int .i64 x2, C.list x3, C.int .i64 x4] = retOf (F_cw x0 x1 x2 x3 x4) := by kernel_rfl
theorem q_fj (x0 : Bool) (x1 : LL) (x2 : Int) (x3 : LL) (x4 : Bool) (x5 : LL) (x6 : Int) (x7 : LL) : φ_fj [C.bool x0, C.list x1, C.int .i64 x2, C.list x3, C.bool x4, C.list x5, C.int .i64 x6, C.list x7] = retOf (F_fj x0 x1 x2 x3 x4 x5 x6 x7) := by kernel_rfl
theorem q_dh (x0 : LL) (x1 : Int) : φ_dh [C.list x0, C.int .i64 x1] = retOf (F_dh x0 x1) := by kernel_rfl
theorem q_cs (x0 : Int) : φ_cs [C.int .i64 x0] = retOf (F_cs x0) := by kernel_rfl
theorem q_eh (x0 : Bool) (x1 : LL) (x2 : Int) (x3 : LL) : φ_eh [C.bool x0, C.list x1, C.int .i64 x2, C.list x3] = retOf (F_eh x0 x1 x2 x3) := by kernel_rfl
theorem q_eb (x0 : LL) : φ_eb [C.list x0] = retOf (F_eb x0) := by kernel_rfl
theorem q_cg (x0 : Int) (x1 : Int) (x2 : LL) : φ_cg [C.int .i64 x0, C.int .i64 x1, C.list x2] = retOf (F_cg x0 x1 x2) := by kernel_rfl
theorem q_be (x0 : Int) (x1 : Bool) (x2 : Int) (x3 : LL) (x4 : Int) (x5 : Bool) : φ_be [C.int .i64 x0, C.bool x1, C.int .i64 x2, C.list x3, C.int .i64 x4, C.bool x5] = retOf (F_be x0 x1 x2 x3 x4 x5) := by kernel_rfl
theorem q_br (x0 : Bool) (x1 : LL) (x2 : Int) (x3 : LL) (x4 : Int) (x5 : Int) (x6 : Int) (x7 : LL) : φ_br [C.bool x0, C.list x1, C.int .i64 x2, C.list x3, C.int .i64 x4, C.int .i64 x5, C.int .i64 x6, C.list x7] = retOf (F_br x0 x1 x2 x3 x4 x5 x6 x7) := by kernel_rfl
theorem q_eg (x0 : Bool) (x1 : LL) (x2 : Int) (x3 : LL) (x4 : Int) : φ_eg [C.bool x0, C.list x1, C.int .i64 x2, C.list x3, C.int .i64 x4] = retOf (F_eg x0 x1 x2 x3 x4) := by kernel_rfl
theorem q_ae (x0 : LL) : φ_ae [C.list x0] = retOf (F_ae x0) := by kernel_rfl
theorem q_al (x0 : LL) : φ_al [C.list x0] = retOf (F_al x0) := by kernel_rfl
theorem q_ch (x0 : Int) (x1 : Int) (x2 : Int) (x3 : Int) : φ_ch [C.int .i64 x0, C.int .i64 x1, C.int .i64 x2, C.int .i64 x3] = retOf (F_ch x0 x1 x2 x3) := by kernel_rfl
theorem q_ec (x0 : Int) (x1 : Bool) (x2 : Int) (x3 : LL) (x4 : Int) : φ_ec [C.int .i64 x0, C.bool x1, C.int .i64 x2, C.list x3, C.int .i64 x4] = retOf (F_ec x0 x1 x2 x3 x4) := by kernel_rfl
theorem q_cd (x0 : Int) (x1 : Int) : φ_cd [C.int .i64 x0, C.int .i64 x1] = retOf (F_cd x0 x1) := by kernel_rfl
theorem q_et (x0 : Int) : φ_et [C.int .i64 x0] = retOf (F_et x0) := by kernel_rfl
theorem q_bt (x0 : Int) : φ_bt [C.int .i64 x0] = retOf (F_bt x0) := by kernel_rfl
end Dx
