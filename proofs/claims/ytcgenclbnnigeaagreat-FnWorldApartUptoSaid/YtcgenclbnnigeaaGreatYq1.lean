/- The typed texts are the trees'. -/
import Derived.Test.YtcgenclbnnigeaaGreatYb
set_option linter.all false
set_option linter.unusedVariables false
set_option linter.unusedSimpArgs false
set_option linter.unnecessarySimpa false
namespace Dx
open Go
theorem q_dz (x0 : Bool) (x1 : LL) (x2 : Int) (x3 : LL) (x4 : LL) (x5 : LL) (x6 : Int) : φ_dz [C.bool x0, C.list x1, C.int .i64 x2, C.list x3, C.list x4, C.list x5, C.int .i64 x6] = retOf (F_dz x0 x1 x2 x3 x4 x5 x6) := by kernel_rfl
theorem q_au (x0 : Int) (x1 : Bool) (x2 : Int) (x3 : LL) (x4 : Int) (x5 : Int) (x6 : Int) (x7 : Int) (x8 : Int) : φ_au [C.int .i64 x0, C.bool x1, C.int .i64 x2, C.list x3, C.int .i64 x4, C.int .i64 x5, C.int .i64 x6, C.int .i64 x7, C.int .i64 x8] = retOf (F_au x0 x1 x2 x3 x4 x5 x6 x7 x8) := by kernel_rfl
theorem q_di (x0 : Bool) (x1 : LL) (x2 : Int) (x3 : LL) (x4 : LL) (x5 : LL) (x6 : Int) (x7 : Int) (x8 : Int) (x9 : LL) : φ_di [C.bool x0, C.list x1, C.int .i64 x2, C.list x3, C.list x4, C.list x5, C.int .i64 x6, C.int .i64 x7, C.int .i64 x8, C.list x9] = retOf (F_di x0 x1 x2 x3 x4 x5 x6 x7 x8 x9) := by kernel_rfl
theorem q_ei (x0 : Bool) (x1 : LL) (x2 : Int) (x3 : LL) (x4 : LL) (x5 : LL) : φ_ei [C.bool x0, C.list x1, C.int .i64 x2, C.list x3, C.list x4, C.list x5] = retOf (F_ei x0 x1 x2 x3 x4 x5) := by kernel_rfl
theorem q_fa (x0 : Bool) (x1 : LL) (x2 : Int) (x3 : LL) : φ_fa [C.bool x0, C.list x1, C.int .i64 x2, C.list x3] = retOf (F_fa x0 x1 x2 x3) := by kernel_rfl
theorem q_fl (x0 : Int) (x1 : Int) (x2 : LL) : φ_fl [C.int .i64 x0, C.int .i64 x1, C.list x2] = retOf (F_fl x0 x1 x2) := by kernel_rfl
theorem q_cg (x0 : Bool) (x1 : LL) (x2 : Int) (x3 : LL) (x4 : Int) (x5 : Int) (x6 : Int) (x7 : Int) : φ_cg [C.bool x0, C.list x1, C.int .i64 x2, C.list x3, C.int .i64 x4, C.int .i64 x5, C.int .i64 x6, C.int .i64 x7] = retOf (F_cg x0 x1 x2 x3 x4 x5 x6 x7) := by kernel_rfl
theorem q_dg (x0 : Bool) (x1 : LL) (x2 : Int) (x3 : LL) (x4 : LL) (x5 : LL) : φ_dg [C.bool x0, C.list x1, C.int .i64 x2, C.list x3, C.list x4, C.list x5] = retOf (F_dg x0 x1 x2 x3 x4 x5) := by kernel_rfl
theorem q_de (x0 : Int) (x1 : LL) (x2 : Int) (x3 : Int) (x4 : LL) : φ_de [C.int .i64 x0, C.list x1, C.int .i64 x2, C.int .i64 x3, C.list x4] = retOf (F_de x0 x1 x2 x3 x4) := by kernel_rfl
theorem q_spec_l2Do (x0 : Int) (x1 : LL) (x2 : Int) (x3 : Int) (x4 : LL) : φ_spec_l2Do [C.int .i64 x0, C.list x1, C.int .i64 x2, C.int .i64 x3, C.list x4] = retOf (F_spec_l2Do x0 x1 x2 x3 x4) := by kernel_rfl
theorem q_ed (x0 : Int) (x1 : LL) (x2 : Int) (x3 : Int) (x4 : LL) : φ_ed [C.int .i64 x0, C.list x1, C.int .i64 x2, C.int .i64 x3, C.list x4] = retOf (F_ed x0 x1 x2 x3 x4) := by kernel_rfl
theorem q_eq (x0 : LL) (x1 : Int) (x2 : Int) (x3 : LL) : φ_eq [C.list x0, C.int .i64 x1, C.int .i64 x2, C.list x3] = retOf (F_eq x0 x1 x2 x3) := by kernel_rfl
theorem q_bt (x0 : Bool) (x1 : LL) (x2 : Int) (x3 : LL) (x4 : LL) : φ_bt [C.bool x0, C.list x1, C.int .i64 x2, C.list x3, C.list x4] = retOf (F_bt x0 x1 x2 x3 x4) := by kernel_rfl
theorem q_es (x0 : Int) (x1 : Int) (x2 : Int) (x3 : Int) : φ_es [C.int .i64 x0, C.int .i64 x1, C.int .i64 x2, C.int .i64 x3] = retOf (F_es x0 x1 x2 x3) := by kernel_rfl
theorem q_eo (x0 : Int) (x1 : LL) : φ_eo [C.int .i64 x0, C.list x1] = retOf (F_eo x0 x1) := by kernel_rfl
theorem q_fm (x0 : Int) (x1 : Int) (x2 : LL) : φ_fm [C.int .i64 x0, C.int .i64 x1, C.list x2] = retOf (F_fm x0 x1 x2) := by kernel_rfl
theorem q_bi (x0 : Int) (x1 : LL) : φ_bi [C.int .i64 x0, C.list x1] = retOf (F_bi x0 x1) := by kernel_rfl
theorem q_fc (x0 : Int) (x1 : Int) (x2 : Int) (x3 : Int) : φ_fc [C.int .i64 x0, C.int .i64 x1, C.int .i64 x2, C.int .i64 x3] = retOf (F_fc x0 x1 x2 x3) := by kernel_rfl
theorem q_et (x0 : Bool) (x1 : LL) (x2 : Int) (x3 : LL) (x4 : Int) (x5 : LL) (x6 : Int) : φ_et [C.bool x0, C.list x1, C.int .i64 x2, C.list x3, C.int .i64 x4, C.list x5, C.int .i64 x6] = retOf (F_et x0 x1 x2 x3 x4 x5 x6) := by kernel_rfl
theorem q_ea (x0 : Int) (x1 : Int) : φ_ea [C.int .i64 x0, C.int .i64 x1] = retOf (F_ea x0 x1) := by kernel_rfl
theorem q_ej (x0 : Int) (x1 : LL) : φ_ej [C.int .i64 x0, C.list x1] = retOf (F_ej x0 x1) := by kernel_rfl
theorem q_fh (x0 : LL) (x1 : Int) : φ_fh [C.list x0, C.int .i64 x1] = retOf (F_fh x0 x1) := by kernel_rfl
theorem q_ee (x0 : LL) : φ_ee [C.list x0] = retOf (F_ee x0) := by kernel_rfl
theorem q_as (x0 : LL) : φ_as [C.list x0] = retOf (F_as x0) := by kernel_rfl
theorem q_ff (x0 : LL) (x1 : Int) (x2 : Int) : φ_ff [C.list x0, C.int .i64 x1, C.int .i64 x2] = retOf (F_ff x0 x1 x2) := by kernel_rfl
theorem q_am (x0 : LL) : φ_am [C.list x0] = retOf (F_am x0) := by kernel_rfl
theorem q_ah (x0 : LL) : φ_ah [C.list x0] = retOf (F_ah x0) := by kernel_rfl
theorem q_an (x0 : LL) : φ_an [C.list x0] = retOf (F_an x0) := by kernel_rfl
theorem q_bq (x0 : Bool) (x1 : LL) (x2 : Int) (x3 : LL) (x4 : LL) (x5 : LL) (x6 : Int) (x7 : Int) (x8 : Int) (x9 : Int) : φ_bq [C.bool x0, C.list x1, C.int .i64 x2, C.list x3, C.list x4, C.list x5, C.int .i64 x6, C.int .i64 x7, C.int .i64 x8, C.int .i64 x9] = retOf (F_bq x0 x1 x2 x3 x4 x5 x6 x7 x8 x9) := by kernel_rfl
theorem q_cw (x0 : Bool) (x1 : LL) (x2 : Int) (x3 : LL) : φ_cw [C.bool x0, C.list x1, C.int .i64 x2, C.list x3] = retOf (F_cw x0 x1 x2 x3) := by kernel_rfl
theorem q_cx (x0 : Bool) (x1 : LL) (x2 : Int) (x3 : LL) (x4 : Bool) : φ_cx [C.bool x0, C.list x1, C.int .i64 x2, C.list x3, C.bool x4] = retOf (F_cx x0 x1 x2 x3 x4) := by kernel_rfl
theorem q_fo (x0 : LL) (x1 : Int) (x2 : Int) (x3 : Int) (x4 : LL) : φ_fo [C.list x0, C.int .i64 x1, C.int .i64 x2, C.int .i64 x3, C.list x4] = retOf (F_fo x0 x1 x2 x3 x4) := by kernel_rfl
theorem q_ex (x0 : Bool) (x1 : LL) (x2 : Int) (x3 : LL) (x4 : Bool) (x5 : LL) (x6 : Int) (x7 : LL) : φ_ex [C.bool x0, C.list x1, C.int .i64 x2, C.list x3, C.bool x4, C.list x5, C.int .i64 x6, C.list x7] = retOf (F_ex x0 x1 x2 x3 x4 x5 x6 x7) := by kernel_rfl
theorem q_dc (x0 : Int) : φ_dc [C.int .i64 x0] = retOf (F_dc x0) := by kernel_rfl
theorem q_dx (x0 : LL) (x1 : Int) : φ_dx [C.list x0, C.int .i64 x1] = retOf (F_dx x0 x1) := by kernel_rfl
theorem q_cb (x0 : LL) (x1 : Int) : φ_cb [C.list x0, C.int .i64 x1] = retOf (F_cb x0 x1) := by kernel_rfl
theorem q_bz (x0 : Int) (x1 : Int) (x2 : LL) : φ_bz [C.int .i64 x0, C.int .i64 x1, C.list x2] = retOf (F_bz x0 x1 x2) := by kernel_rfl
theorem q_ft (x0 : Int) (x1 : Int) (x2 : Int) : φ_ft [C.int .i64 x0, C.int .i64 x1, C.int .i64 x2] = retOf (F_ft x0 x1 x2) := by kernel_rfl
theorem q_be (x0 : Int) (x1 : Bool) (x2 : Int) (x3 : LL) (x4 : Int) (x5 : Bool) : φ_be [C.int .i64 x0, C.bool x1, C.int .i64 x2, C.list x3, C.int .i64 x4, C.bool x5] = retOf (F_be x0 x1 x2 x3 x4 x5) := by kernel_rfl
theorem q_ap (x0 : LL) (x1 : Int) (x2 : Int) (x3 : Int) (x4 : Int) : φ_ap [C.list x0, C.int .i64 x1, C.int .i64 x2, C.int .i64 x3, C.int .i64 x4] = retOf (F_ap x0 x1 x2 x3 x4) := by kernel_rfl
theorem q_ae (x0 : LL) : φ_ae [C.list x0] = retOf (F_ae x0) := by kernel_rfl
theorem q_br (x0 : LL) (x1 : Int) : φ_br [C.list x0, C.int .i64 x1] = retOf (F_br x0 x1) := by kernel_rfl
theorem q_bp (x0 : Bool) (x1 : LL) (x2 : Int) (x3 : LL) (x4 : Bool) : φ_bp [C.bool x0, C.list x1, C.int .i64 x2, C.list x3, C.bool x4] = retOf (F_bp x0 x1 x2 x3 x4) := by kernel_rfl
theorem q_av (x0 : Int) (x1 : Bool) (x2 : Int) (x3 : LL) (x4 : Int) : φ_av [C.int .i64 x0, C.bool x1, C.int .i64 x2, C.list x3, C.int .i64 x4] = retOf (F_av x0 x1 x2 x3 x4) := by kernel_rfl
theorem q_cj (x0 : Int) (x1 : Int) : φ_cj [C.int .i64 x0, C.int .i64 x1] = retOf (F_cj x0 x1) := by kernel_rfl
theorem q_dw : φ_dw [] = retOf (F_dw) := by kernel_rfl
theorem q_bm (x0 : Int) : φ_bm [C.int .i64 x0] = retOf (F_bm x0) := by kernel_rfl
end Dx
