/- The typed texts are the trees'. -/
import Derived.Test.YtcgenclbnnigeaaGreatYb
set_option linter.all false
set_option linter.unusedVariables false
set_option linter.unusedSimpArgs false
set_option linter.unnecessarySimpa false
namespace Dx
open Go
theorem q_bt (x0 : Bool) (x1 : LL) (x2 : Int) (x3 : LL) (x4 : Int) : φ_bt [C.bool x0, C.list x1, C.int .i64 x2, C.list x3, C.int .i64 x4] = retOf (F_bt x0 x1 x2 x3 x4) := by kernel_rfl
theorem q_dm (x0 : LL) (x1 : Int) : φ_dm [C.list x0, C.int .i64 x1] = retOf (F_dm x0 x1) := by kernel_rfl
theorem q_fc (x0 : Bool) (x1 : LL) (x2 : Int) (x3 : LL) (x4 : LL) (x5 : LL) (x6 : Int) (x7 : Int) (x8 : Int) (x9 : LL) : φ_fc [C.bool x0, C.list x1, C.int .i64 x2, C.list x3, C.list x4, C.list x5, C.int .i64 x6, C.int .i64 x7, C.int .i64 x8, C.list x9] = retOf (F_fc x0 x1 x2 x3 x4 x5 x6 x7 x8 x9) := by kernel_rfl
theorem q_cx (x0 : Bool) (x1 : LL) (x2 : Int) (x3 : LL) (x4 : LL) (x5 : LL) : φ_cx [C.bool x0, C.list x1, C.int .i64 x2, C.list x3, C.list x4, C.list x5] = retOf (F_cx x0 x1 x2 x3 x4 x5) := by kernel_rfl
theorem q_ca (x0 : Int) (x1 : Bool) (x2 : Int) (x3 : LL) (x4 : Int) (x5 : Int) (x6 : Int) (x7 : Int) (x8 : Int) : φ_ca [C.int .i64 x0, C.bool x1, C.int .i64 x2, C.list x3, C.int .i64 x4, C.int .i64 x5, C.int .i64 x6, C.int .i64 x7, C.int .i64 x8] = retOf (F_ca x0 x1 x2 x3 x4 x5 x6 x7 x8) := by kernel_rfl
theorem q_au (x0 : Int) (x1 : Bool) (x2 : Int) (x3 : LL) (x4 : Int) (x5 : Int) (x6 : Int) (x7 : Int) (x8 : Int) : φ_au [C.int .i64 x0, C.bool x1, C.int .i64 x2, C.list x3, C.int .i64 x4, C.int .i64 x5, C.int .i64 x6, C.int .i64 x7, C.int .i64 x8] = retOf (F_au x0 x1 x2 x3 x4 x5 x6 x7 x8) := by kernel_rfl
theorem q_bj (x0 : Bool) (x1 : LL) (x2 : Int) (x3 : LL) (x4 : LL) (x5 : LL) : φ_bj [C.bool x0, C.list x1, C.int .i64 x2, C.list x3, C.list x4, C.list x5] = retOf (F_bj x0 x1 x2 x3 x4 x5) := by kernel_rfl
theorem q_dw (x0 : LL) (x1 : Int) (x2 : Int) (x3 : LL) : φ_dw [C.list x0, C.int .i64 x1, C.int .i64 x2, C.list x3] = retOf (F_dw x0 x1 x2 x3) := by kernel_rfl
theorem q_dz (x0 : LL) (x1 : Int) : φ_dz [C.list x0, C.int .i64 x1] = retOf (F_dz x0 x1) := by kernel_rfl
theorem q_fg (x0 : Int) (x1 : Int) (x2 : LL) : φ_fg [C.int .i64 x0, C.int .i64 x1, C.list x2] = retOf (F_fg x0 x1 x2) := by kernel_rfl
theorem q_ax (x0 : LL) : φ_ax [C.list x0] = retOf (F_ax x0) := by kernel_rfl
theorem q_co (x0 : LL) : φ_co [C.list x0] = retOf (F_co x0) := by kernel_rfl
theorem q_do (x0 : Bool) (x1 : LL) (x2 : Int) (x3 : LL) (x4 : LL) (x5 : LL) (x6 : Bool) (x7 : LL) (x8 : Int) (x9 : LL) (x10 : LL) (x11 : LL) : φ_do [C.bool x0, C.list x1, C.int .i64 x2, C.list x3, C.list x4, C.list x5, C.bool x6, C.list x7, C.int .i64 x8, C.list x9, C.list x10, C.list x11] = retOf (F_do x0 x1 x2 x3 x4 x5 x6 x7 x8 x9 x10 x11) := by kernel_rfl
theorem q_bq (x0 : Bool) (x1 : LL) (x2 : Int) (x3 : LL) (x4 : LL) (x5 : LL) (x6 : Int) : φ_bq [C.bool x0, C.list x1, C.int .i64 x2, C.list x3, C.list x4, C.list x5, C.int .i64 x6] = retOf (F_bq x0 x1 x2 x3 x4 x5 x6) := by kernel_rfl
theorem q_spec_l2Do (x0 : Int) (x1 : LL) (x2 : Int) (x3 : Int) (x4 : LL) : φ_spec_l2Do [C.int .i64 x0, C.list x1, C.int .i64 x2, C.int .i64 x3, C.list x4] = retOf (F_spec_l2Do x0 x1 x2 x3 x4) := by kernel_rfl
theorem q_ea (x0 : Bool) (x1 : LL) (x2 : Int) (x3 : LL) (x4 : LL) (x5 : LL) : φ_ea [C.bool x0, C.list x1, C.int .i64 x2, C.list x3, C.list x4, C.list x5] = retOf (F_ea x0 x1 x2 x3 x4 x5) := by kernel_rfl
theorem q_eu (x0 : LL) (x1 : Int) (x2 : Int) (x3 : LL) : φ_eu [C.list x0, C.int .i64 x1, C.int .i64 x2, C.list x3] = retOf (F_eu x0 x1 x2 x3) := by kernel_rfl
theorem q_ac (x0 : Bool) (x1 : LL) (x2 : Int) (x3 : LL) (x4 : LL) (x5 : LL) (x6 : Int) : φ_ac [C.bool x0, C.list x1, C.int .i64 x2, C.list x3, C.list x4, C.list x5, C.int .i64 x6] = retOf (F_ac x0 x1 x2 x3 x4 x5 x6) := by kernel_rfl
theorem q_er (x0 : Int) (x1 : Int) (x2 : Int) (x3 : Int) : φ_er [C.int .i64 x0, C.int .i64 x1, C.int .i64 x2, C.int .i64 x3] = retOf (F_er x0 x1 x2 x3) := by kernel_rfl
theorem q_ei (x0 : LL) (x1 : Int) (x2 : Int) (x3 : Int) (x4 : LL) : φ_ei [C.list x0, C.int .i64 x1, C.int .i64 x2, C.int .i64 x3, C.list x4] = retOf (F_ei x0 x1 x2 x3 x4) := by kernel_rfl
theorem q_ee (x0 : LL) (x1 : LL) : φ_ee [C.list x0, C.list x1] = retOf (F_ee x0 x1) := by kernel_rfl
theorem q_ff (x0 : LL) (x1 : Int) : φ_ff [C.list x0, C.int .i64 x1] = retOf (F_ff x0 x1) := by kernel_rfl
theorem q_en (x0 : Int) (x1 : Int) (x2 : Int) (x3 : Int) : φ_en [C.int .i64 x0, C.int .i64 x1, C.int .i64 x2, C.int .i64 x3] = retOf (F_en x0 x1 x2 x3) := by kernel_rfl
theorem q_dc (x0 : Int) (x1 : Int) : φ_dc [C.int .i64 x0, C.int .i64 x1] = retOf (F_dc x0 x1) := by kernel_rfl
theorem q_bo (x0 : Bool) (x1 : LL) (x2 : Int) (x3 : LL) (x4 : Int) (x5 : Int) (x6 : LL) : φ_bo [C.bool x0, C.list x1, C.int .i64 x2, C.list x3, C.int .i64 x4, C.int .i64 x5, C.list x6] = retOf (F_bo x0 x1 x2 x3 x4 x5 x6) := by kernel_rfl
theorem q_ej (x0 : LL) (x1 : Int) : φ_ej [C.list x0, C.int .i64 x1] = retOf (F_ej x0 x1) := by kernel_rfl
theorem q_dk (x0 : LL) (x1 : Int) (x2 : Int) (x3 : Int) (x4 : Int) : φ_dk [C.list x0, C.int .i64 x1, C.int .i64 x2, C.int .i64 x3, C.int .i64 x4] = retOf (F_dk x0 x1 x2 x3 x4) := by kernel_rfl
theorem q_bs (x0 : Bool) (x1 : LL) (x2 : Int) (x3 : LL) : φ_bs [C.bool x0, C.list x1, C.int .i64 x2, C.list x3] = retOf (F_bs x0 x1 x2 x3) := by kernel_rfl
theorem q_ai (x0 : LL) : φ_ai [C.list x0] = retOf (F_ai x0) := by kernel_rfl
theorem q_bc (x0 : LL) : φ_bc [C.list x0] = retOf (F_bc x0) := by kernel_rfl
theorem q_dp (x0 : Int) (x1 : Bool) (x2 : Int) (x3 : LL) (x4 : Int) (x5 : Int) (x6 : Bool) (x7 : Int) (x8 : LL) (x9 : Int) : φ_dp [C.int .i64 x0, C.bool x1, C.int .i64 x2, C.list x3, C.int .i64 x4, C.int .i64 x5, C.bool x6, C.int .i64 x7, C.list x8, C.int .i64 x9] = retOf (F_dp x0 x1 x2 x3 x4 x5 x6 x7 x8 x9) := by kernel_rfl
theorem q_bu (x0 : Int) (x1 : Bool) (x2 : Int) (x3 : LL) (x4 : Int) : φ_bu [C.int .i64 x0, C.bool x1, C.int .i64 x2, C.list x3, C.int .i64 x4] = retOf (F_bu x0 x1 x2 x3 x4) := by kernel_rfl
theorem q_ed (x0 : Bool) (x1 : LL) (x2 : Int) (x3 : LL) (x4 : LL) (x5 : LL) (x6 : Int) (x7 : Int) (x8 : Int) (x9 : Int) : φ_ed [C.bool x0, C.list x1, C.int .i64 x2, C.list x3, C.list x4, C.list x5, C.int .i64 x6, C.int .i64 x7, C.int .i64 x8, C.int .i64 x9] = retOf (F_ed x0 x1 x2 x3 x4 x5 x6 x7 x8 x9) := by kernel_rfl
theorem q_cm (x0 : LL) (x1 : Int) : φ_cm [C.list x0, C.int .i64 x1] = retOf (F_cm x0 x1) := by kernel_rfl
theorem q_cg (x0 : LL) : φ_cg [C.list x0] = retOf (F_cg x0) := by kernel_rfl
theorem q_eh (x0 : Int) (x1 : Int) (x2 : Int) (x3 : Int) : φ_eh [C.int .i64 x0, C.int .i64 x1, C.int .i64 x2, C.int .i64 x3] = retOf (F_eh x0 x1 x2 x3) := by kernel_rfl
theorem q_ex (x0 : Int) (x1 : Int) (x2 : LL) (x3 : Int) (x4 : Int) (x5 : LL) : φ_ex [C.int .i64 x0, C.int .i64 x1, C.list x2, C.int .i64 x3, C.int .i64 x4, C.list x5] = retOf (F_ex x0 x1 x2 x3 x4 x5) := by kernel_rfl
theorem q_bv (x0 : LL) (x1 : Int) : φ_bv [C.list x0, C.int .i64 x1] = retOf (F_bv x0 x1) := by kernel_rfl
theorem q_dj (x0 : LL) : φ_dj [C.list x0] = retOf (F_dj x0) := by kernel_rfl
theorem q_ba (x0 : Int) (x1 : Bool) (x2 : Int) (x3 : LL) (x4 : Int) (x5 : Bool) : φ_ba [C.int .i64 x0, C.bool x1, C.int .i64 x2, C.list x3, C.int .i64 x4, C.bool x5] = retOf (F_ba x0 x1 x2 x3 x4 x5) := by kernel_rfl
theorem q_bb (x0 : Bool) (x1 : LL) (x2 : Int) (x3 : LL) : φ_bb [C.bool x0, C.list x1, C.int .i64 x2, C.list x3] = retOf (F_bb x0 x1 x2 x3) := by kernel_rfl
theorem q_ab (x0 : LL) : φ_ab [C.list x0] = retOf (F_ab x0) := by kernel_rfl
theorem q_bn (x0 : LL) (x1 : Int) : φ_bn [C.list x0, C.int .i64 x1] = retOf (F_bn x0 x1) := by kernel_rfl
theorem q_bp (x0 : Bool) (x1 : LL) (x2 : Int) (x3 : LL) (x4 : Bool) : φ_bp [C.bool x0, C.list x1, C.int .i64 x2, C.list x3, C.bool x4] = retOf (F_bp x0 x1 x2 x3 x4) := by kernel_rfl
theorem q_bf (x0 : Int) : φ_bf [C.int .i64 x0] = retOf (F_bf x0) := by kernel_rfl
theorem q_by (x0 : Int) (x1 : Int) : φ_by [C.int .i64 x0, C.int .i64 x1] = retOf (F_by x0 x1) := by kernel_rfl
theorem q_bi (x0 : Int) (x1 : Int) (x2 : LL) : φ_bi [C.int .i64 x0, C.int .i64 x1, C.list x2] = retOf (F_bi x0 x1 x2) := by kernel_rfl
theorem q_eq (x0 : Int) : φ_eq [C.int .i64 x0] = retOf (F_eq x0) := by kernel_rfl
end Dx
