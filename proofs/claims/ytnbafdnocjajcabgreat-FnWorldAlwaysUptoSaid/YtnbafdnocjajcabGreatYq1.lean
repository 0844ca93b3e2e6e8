/- The typed texts are the trees'. -/
import Derived.Test.YtnbafdnocjajcabGreatYb
set_option linter.all false
set_option linter.unusedVariables false
set_option linter.unusedSimpArgs false
set_option linter.unnecessarySimpa false
namespace Dx
open Go
theorem q_ea (x0 : Bool) (x1 : LL) (x2 : Int) (x3 : LL) (x4 : LL) (x5 : LL) (x6 : Int) : φ_ea [C.bool x0, C.list x1, C.int .i64 x2, C.list x3, C.list x4, C.list x5, C.int .i64 x6] = retOf (F_ea x0 x1 x2 x3 x4 x5 x6) := by kernel_rfl
theorem q_ci (x0 : Int) (x1 : Bool) (x2 : Int) (x3 : LL) (x4 : Int) (x5 : Int) (x6 : Int) (x7 : Int) (x8 : Int) : φ_ci [C.int .i64 x0, C.bool x1, C.int .i64 x2, C.list x3, C.int .i64 x4, C.int .i64 x5, C.int .i64 x6, C.int .i64 x7, C.int .i64 x8] = retOf (F_ci x0 x1 x2 x3 x4 x5 x6 x7 x8) := by kernel_rfl
theorem q_bx (x0 : LL) (x1 : Int) (x2 : Int) : φ_bx [C.list x0, C.int .i64 x1, C.int .i64 x2] = retOf (F_bx x0 x1 x2) := by kernel_rfl
theorem q_ez (x0 : Bool) (x1 : LL) (x2 : Int) (x3 : LL) : φ_ez [C.bool x0, C.list x1, C.int .i64 x2, C.list x3] = retOf (F_ez x0 x1 x2 x3) := by kernel_rfl
theorem q_da (x0 : Bool) (x1 : LL) (x2 : Int) (x3 : LL) (x4 : LL) (x5 : LL) (x6 : Int) : φ_da [C.bool x0, C.list x1, C.int .i64 x2, C.list x3, C.list x4, C.list x5, C.int .i64 x6] = retOf (F_da x0 x1 x2 x3 x4 x5 x6) := by kernel_rfl
theorem q_ff (x0 : LL) (x1 : Int) (x2 : Int) (x3 : LL) : φ_ff [C.list x0, C.int .i64 x1, C.int .i64 x2, C.list x3] = retOf (F_ff x0 x1 x2 x3) := by kernel_rfl
theorem q_cx (x0 : LL) : φ_cx [C.list x0] = retOf (F_cx x0) := by kernel_rfl
theorem q_eb (x0 : Bool) (x1 : LL) (x2 : Int) (x3 : LL) (x4 : LL) (x5 : LL) : φ_eb [C.bool x0, C.list x1, C.int .i64 x2, C.list x3, C.list x4, C.list x5] = retOf (F_eb x0 x1 x2 x3 x4 x5) := by kernel_rfl
theorem q_dl (x0 : Bool) (x1 : LL) (x2 : Int) (x3 : LL) (x4 : LL) (x5 : LL) (x6 : Bool) (x7 : LL) (x8 : Int) (x9 : LL) (x10 : LL) (x11 : LL) : φ_dl [C.bool x0, C.list x1, C.int .i64 x2, C.list x3, C.list x4, C.list x5, C.bool x6, C.list x7, C.int .i64 x8, C.list x9, C.list x10, C.list x11] = retOf (F_dl x0 x1 x2 x3 x4 x5 x6 x7 x8 x9 x10 x11) := by kernel_rfl
theorem q_spec_l2Do (x0 : Int) (x1 : LL) (x2 : Int) (x3 : Int) (x4 : LL) : φ_spec_l2Do [C.int .i64 x0, C.list x1, C.int .i64 x2, C.int .i64 x3, C.list x4] = retOf (F_spec_l2Do x0 x1 x2 x3 x4) := by kernel_rfl
theorem q_aa (x0 : Bool) (x1 : LL) (x2 : Int) (x3 : LL) (x4 : LL) (x5 : LL) (x6 : Int) (x7 : Int) (x8 : Int) (x9 : Int) (x10 : LL) (x11 : Int) (x12 : Int) (x13 : Int) (x14 : LL) : φ_aa [C.bool x0, C.list x1, C.int .i64 x2, C.list x3, C.list x4, C.list x5, C.int .i64 x6, C.int .i64 x7, C.int .i64 x8, C.int .i64 x9, C.list x10, C.int .i64 x11, C.int .i64 x12, C.int .i64 x13, C.list x14] = retOf (F_aa x0 x1 x2 x3 x4 x5 x6 x7 x8 x9 x10 x11 x12 x13 x14) := by kernel_rfl
theorem q_av (x0 : LL) : φ_av [C.list x0] = retOf (F_av x0) := by kernel_rfl
theorem q_ew (x0 : Int) (x1 : Int) (x2 : Int) (x3 : Int) : φ_ew [C.int .i64 x0, C.int .i64 x1, C.int .i64 x2, C.int .i64 x3] = retOf (F_ew x0 x1 x2 x3) := by kernel_rfl
theorem q_cj (x0 : Bool) (x1 : LL) (x2 : Int) (x3 : LL) (x4 : LL) : φ_cj [C.bool x0, C.list x1, C.int .i64 x2, C.list x3, C.list x4] = retOf (F_cj x0 x1 x2 x3 x4) := by kernel_rfl
theorem q_fe (x0 : Int) (x1 : Int) (x2 : LL) : φ_fe [C.int .i64 x0, C.int .i64 x1, C.list x2] = retOf (F_fe x0 x1 x2) := by kernel_rfl
theorem q_ev (x0 : LL) (x1 : LL) : φ_ev [C.list x0, C.list x1] = retOf (F_ev x0 x1) := by kernel_rfl
theorem q_bn (x0 : Int) (x1 : LL) : φ_bn [C.int .i64 x0, C.list x1] = retOf (F_bn x0 x1) := by kernel_rfl
theorem q_es (x0 : LL) (x1 : LL) : φ_es [C.list x0, C.list x1] = retOf (F_es x0 x1) := by kernel_rfl
theorem q_cg (x0 : LL) (x1 : Int) (x2 : Int) (x3 : Int) : φ_cg [C.list x0, C.int .i64 x1, C.int .i64 x2, C.int .i64 x3] = retOf (F_cg x0 x1 x2 x3) := by kernel_rfl
theorem q_bs (x0 : Bool) (x1 : LL) (x2 : Int) (x3 : LL) (x4 : Int) (x5 : Int) (x6 : LL) : φ_bs [C.bool x0, C.list x1, C.int .i64 x2, C.list x3, C.int .i64 x4, C.int .i64 x5, C.list x6] = retOf (F_bs x0 x1 x2 x3 x4 x5 x6) := by kernel_rfl
theorem q_cn (x0 : Int) (x1 : Int) : φ_cn [C.int .i64 x0, C.int .i64 x1] = retOf (F_cn x0 x1) := by kernel_rfl
theorem q_eg (x0 : LL) (x1 : Int) (x2 : Int) (x3 : Int) (x4 : Int) : φ_eg [C.list x0, C.int .i64 x1, C.int .i64 x2, C.int .i64 x3, C.int .i64 x4] = retOf (F_eg x0 x1 x2 x3 x4) := by kernel_rfl
theorem q_bw (x0 : Bool) (x1 : LL) (x2 : Int) (x3 : LL) : φ_bw [C.bool x0, C.list x1, C.int .i64 x2, C.list x3] = retOf (F_bw x0 x1 x2 x3) := by kernel_rfl
theorem q_ed (x0 : LL) (x1 : Int) (x2 : Int) : φ_ed [C.list x0, C.int .i64 x1, C.int .i64 x2] = retOf (F_ed x0 x1 x2) := by kernel_rfl
theorem q_am (x0 : LL) : φ_am [C.list x0] = retOf (F_am x0) := by kernel_rfl
theorem q_ao (x0 : LL) : φ_ao [C.list x0] = retOf (F_ao x0) := by kernel_rfl
theorem q_an (x0 : LL) : φ_an [C.list x0] = retOf (F_an x0) := by kernel_rfl
theorem q_eo (x0 : Bool) (x1 : LL) (x2 : Int) (x3 : LL) (x4 : LL) (x5 : LL) (x6 : Int) (x7 : Int) (x8 : Int) (x9 : Int) : φ_eo [C.bool x0, C.list x1, C.int .i64 x2, C.list x3, C.list x4, C.list x5, C.int .i64 x6, C.int .i64 x7, C.int .i64 x8, C.int .i64 x9] = retOf (F_eo x0 x1 x2 x3 x4 x5 x6 x7 x8 x9) := by kernel_rfl
theorem q_dc (x0 : Bool) (x1 : LL) (x2 : Int) (x3 : LL) : φ_dc [C.bool x0, C.list x1, C.int .i64 x2, C.list x3] = retOf (F_dc x0 x1 x2 x3) := by kernel_rfl
theorem q_bv (x0 : Int) (x1 : Bool) (x2 : Int) (x3 : LL) (x4 : Int) (x5 : Int) : φ_bv [C.int .i64 x0, C.bool x1, C.int .i64 x2, C.list x3, C.int .i64 x4, C.int .i64 x5] = retOf (F_bv x0 x1 x2 x3 x4 x5) := by kernel_rfl
theorem q_fb (x0 : LL) (x1 : Int) (x2 : Int) (x3 : Int) (x4 : LL) : φ_fb [C.list x0, C.int .i64 x1, C.int .i64 x2, C.int .i64 x3, C.list x4] = retOf (F_fb x0 x1 x2 x3 x4) := by kernel_rfl
theorem q_ej (x0 : Int) (x1 : Int) (x2 : Int) (x3 : Int) : φ_ej [C.int .i64 x0, C.int .i64 x1, C.int .i64 x2, C.int .i64 x3] = retOf (F_ej x0 x1 x2 x3) := by kernel_rfl
theorem q_dp (x0 : LL) (x1 : Int) : φ_dp [C.list x0, C.int .i64 x1] = retOf (F_dp x0 x1) := by kernel_rfl
theorem q_bu (x0 : LL) (x1 : Int) : φ_bu [C.list x0, C.int .i64 x1] = retOf (F_bu x0 x1) := by kernel_rfl
theorem q_bk (x0 : Int) (x1 : Bool) (x2 : Int) (x3 : LL) (x4 : Int) (x5 : Int) (x6 : Int) (x7 : Int) (x8 : LL) : φ_bk [C.int .i64 x0, C.bool x1, C.int .i64 x2, C.list x3, C.int .i64 x4, C.int .i64 x5, C.int .i64 x6, C.int .i64 x7, C.list x8] = retOf (F_bk x0 x1 x2 x3 x4 x5 x6 x7 x8) := by kernel_rfl
theorem q_fm (x0 : Int) (x1 : Int) (x2 : Int) : φ_fm [C.int .i64 x0, C.int .i64 x1, C.int .i64 x2] = retOf (F_fm x0 x1 x2) := by kernel_rfl
theorem q_bi (x0 : Bool) (x1 : LL) (x2 : Int) (x3 : LL) (x4 : Int) (x5 : Int) (x6 : Int) (x7 : LL) : φ_bi [C.bool x0, C.list x1, C.int .i64 x2, C.list x3, C.int .i64 x4, C.int .i64 x5, C.int .i64 x6, C.list x7] = retOf (F_bi x0 x1 x2 x3 x4 x5 x6 x7) := by kernel_rfl
theorem q_dq (x0 : Bool) (x1 : LL) (x2 : Int) (x3 : LL) (x4 : Int) : φ_dq [C.bool x0, C.list x1, C.int .i64 x2, C.list x3, C.int .i64 x4] = retOf (F_dq x0 x1 x2 x3 x4) := by kernel_rfl
theorem q_ae (x0 : LL) : φ_ae [C.list x0] = retOf (F_ae x0) := by kernel_rfl
theorem q_bp (x0 : LL) (x1 : Int) : φ_bp [C.list x0, C.int .i64 x1] = retOf (F_bp x0 x1) := by kernel_rfl
theorem q_br (x0 : Bool) (x1 : LL) (x2 : Int) (x3 : LL) (x4 : Bool) : φ_br [C.bool x0, C.list x1, C.int .i64 x2, C.list x3, C.bool x4] = retOf (F_br x0 x1 x2 x3 x4) := by kernel_rfl
theorem q_dw (x0 : Int) (x1 : Int) (x2 : LL) : φ_dw [C.int .i64 x0, C.int .i64 x1, C.list x2] = retOf (F_dw x0 x1 x2) := by kernel_rfl
theorem q_di : φ_di [] = retOf (F_di) := by kernel_rfl
theorem q_be (x0 : Int) (x1 : Int) (x2 : LL) : φ_be [C.int .i64 x0, C.int .i64 x1, C.list x2] = retOf (F_be x0 x1 x2) := by kernel_rfl
theorem q_bf (x0 : Int) : φ_bf [C.int .i64 x0] = retOf (F_bf x0) := by kernel_rfl
end Dx
