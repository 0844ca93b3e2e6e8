/- The typed texts are the trees'. -/
import Derived.Test.YtnbafdnocjajcaaGreatYb
set_option linter.all false
set_option linter.unusedVariables false
set_option linter.unusedSimpArgs false
set_option linter.unnecessarySimpa false
namespace Dx
open Go
theorem q_dp (x0 : Bool) (x1 : LL) (x2 : Int) (x3 : LL) (x4 : LL) (x5 : LL) (x6 : Int) : φ_dp [C.bool x0, C.list x1, C.int .i64 x2, C.list x3, C.list x4, C.list x5, C.int .i64 x6] = retOf (F_dp x0 x1 x2 x3 x4 x5 x6) := by kernel_rfl
theorem q_do (x0 : LL) (x1 : Int) (x2 : Int) (x3 : LL) : φ_do [C.list x0, C.int .i64 x1, C.int .i64 x2, C.list x3] = retOf (F_do x0 x1 x2 x3) := by kernel_rfl
theorem q_fe (x0 : Int) (x1 : Int) (x2 : LL) : φ_fe [C.int .i64 x0, C.int .i64 x1, C.list x2] = retOf (F_fe x0 x1 x2) := by kernel_rfl
theorem q_fd (x0 : LL) (x1 : Int) (x2 : Int) (x3 : LL) : φ_fd [C.list x0, C.int .i64 x1, C.int .i64 x2, C.list x3] = retOf (F_fd x0 x1 x2 x3) := by kernel_rfl
theorem q_co (x0 : LL) : φ_co [C.list x0] = retOf (F_co x0) := by kernel_rfl
theorem q_dq (x0 : Bool) (x1 : LL) (x2 : Int) (x3 : LL) (x4 : Int) (x5 : Int) (x6 : Int) (x7 : Int) : φ_dq [C.bool x0, C.list x1, C.int .i64 x2, C.list x3, C.int .i64 x4, C.int .i64 x5, C.int .i64 x6, C.int .i64 x7] = retOf (F_dq x0 x1 x2 x3 x4 x5 x6 x7) := by kernel_rfl
theorem q_bg (x0 : Bool) (x1 : LL) (x2 : Int) (x3 : LL) (x4 : Int) (x5 : Int) (x6 : LL) : φ_bg [C.bool x0, C.list x1, C.int .i64 x2, C.list x3, C.int .i64 x4, C.int .i64 x5, C.list x6] = retOf (F_bg x0 x1 x2 x3 x4 x5 x6) := by kernel_rfl
theorem q_da (x0 : LL) (x1 : Int) (x2 : Int) (x3 : LL) : φ_da [C.list x0, C.int .i64 x1, C.int .i64 x2, C.list x3] = retOf (F_da x0 x1 x2 x3) := by kernel_rfl
theorem q_aw (x0 : Bool) (x1 : LL) (x2 : Int) (x3 : LL) (x4 : LL) (x5 : LL) (x6 : Int) (x7 : Int) (x8 : Int) (x9 : Int) : φ_aw [C.bool x0, C.list x1, C.int .i64 x2, C.list x3, C.list x4, C.list x5, C.int .i64 x6, C.int .i64 x7, C.int .i64 x8, C.int .i64 x9] = retOf (F_aw x0 x1 x2 x3 x4 x5 x6 x7 x8 x9) := by kernel_rfl
theorem q_eq (x0 : Int) (x1 : Int) (x2 : Int) (x3 : Int) : φ_eq [C.int .i64 x0, C.int .i64 x1, C.int .i64 x2, C.int .i64 x3] = retOf (F_eq x0 x1 x2 x3) := by kernel_rfl
theorem q_bv (x0 : Bool) (x1 : LL) (x2 : Int) (x3 : LL) (x4 : LL) : φ_bv [C.bool x0, C.list x1, C.int .i64 x2, C.list x3, C.list x4] = retOf (F_bv x0 x1 x2 x3 x4) := by kernel_rfl
theorem q_fg (x0 : Int) (x1 : LL) (x2 : Int) (x3 : Int) (x4 : LL) : φ_fg [C.int .i64 x0, C.list x1, C.int .i64 x2, C.int .i64 x3, C.list x4] = retOf (F_fg x0 x1 x2 x3 x4) := by kernel_rfl
theorem q_ei (x0 : LL) (x1 : Int) (x2 : Int) (x3 : Int) (x4 : LL) : φ_ei [C.list x0, C.int .i64 x1, C.int .i64 x2, C.int .i64 x3, C.list x4] = retOf (F_ei x0 x1 x2 x3 x4) := by kernel_rfl
theorem q_dz (x0 : LL) (x1 : LL) : φ_dz [C.list x0, C.list x1] = retOf (F_dz x0 x1) := by kernel_rfl
theorem q_eu (x0 : Bool) (x1 : LL) (x2 : Int) (x3 : LL) (x4 : Int) (x5 : LL) (x6 : Int) : φ_eu [C.bool x0, C.list x1, C.int .i64 x2, C.list x3, C.int .i64 x4, C.list x5, C.int .i64 x6] = retOf (F_eu x0 x1 x2 x3 x4 x5 x6) := by kernel_rfl
theorem q_bu (x0 : LL) (x1 : Int) (x2 : Int) (x3 : Int) : φ_bu [C.list x0, C.int .i64 x1, C.int .i64 x2, C.int .i64 x3] = retOf (F_bu x0 x1 x2 x3) := by kernel_rfl
theorem q_bp (x0 : Bool) (x1 : LL) (x2 : Int) (x3 : LL) (x4 : Int) (x5 : Int) (x6 : LL) : φ_bp [C.bool x0, C.list x1, C.int .i64 x2, C.list x3, C.int .i64 x4, C.int .i64 x5, C.list x6] = retOf (F_bp x0 x1 x2 x3 x4 x5 x6) := by kernel_rfl
theorem q_cr (x0 : Int) (x1 : Int) : φ_cr [C.int .i64 x0, C.int .i64 x1] = retOf (F_cr x0 x1) := by kernel_rfl
theorem q_du (x0 : LL) : φ_du [C.list x0] = retOf (F_du x0) := by kernel_rfl
theorem q_aq (x0 : LL) (x1 : Int) (x2 : Int) (x3 : Int) (x4 : Int) : φ_aq [C.list x0, C.int .i64 x1, C.int .i64 x2, C.int .i64 x3, C.int .i64 x4] = retOf (F_aq x0 x1 x2 x3 x4) := by kernel_rfl
theorem q_ap (x0 : LL) : φ_ap [C.list x0] = retOf (F_ap x0) := by kernel_rfl
theorem q_ak (x0 : LL) : φ_ak [C.list x0] = retOf (F_ak x0) := by kernel_rfl
theorem q_am (x0 : LL) : φ_am [C.list x0] = retOf (F_am x0) := by kernel_rfl
theorem q_al (x0 : LL) : φ_al [C.list x0] = retOf (F_al x0) := by kernel_rfl
theorem q_ex (x0 : Bool) (x1 : LL) (x2 : Int) (x3 : LL) (x4 : LL) (x5 : LL) (x6 : Int) (x7 : Int) (x8 : Int) (x9 : Int) : φ_ex [C.bool x0, C.list x1, C.int .i64 x2, C.list x3, C.list x4, C.list x5, C.int .i64 x6, C.int .i64 x7, C.int .i64 x8, C.int .i64 x9] = retOf (F_ex x0 x1 x2 x3 x4 x5 x6 x7 x8 x9) := by kernel_rfl
theorem q_cx (x0 : Bool) (x1 : LL) (x2 : Int) (x3 : LL) : φ_cx [C.bool x0, C.list x1, C.int .i64 x2, C.list x3] = retOf (F_cx x0 x1 x2 x3) := by kernel_rfl
theorem q_cd (x0 : Int) (x1 : Bool) (x2 : Int) (x3 : LL) (x4 : Int) (x5 : Int) : φ_cd [C.int .i64 x0, C.bool x1, C.int .i64 x2, C.list x3, C.int .i64 x4, C.int .i64 x5] = retOf (F_cd x0 x1 x2 x3 x4 x5) := by kernel_rfl
theorem q_em (x0 : Bool) (x1 : LL) (x2 : Int) (x3 : LL) (x4 : Bool) (x5 : LL) (x6 : Int) (x7 : LL) : φ_em [C.bool x0, C.list x1, C.int .i64 x2, C.list x3, C.bool x4, C.list x5, C.int .i64 x6, C.list x7] = retOf (F_em x0 x1 x2 x3 x4 x5 x6 x7) := by kernel_rfl
theorem q_cz (x0 : LL) (x1 : Int) : φ_cz [C.list x0, C.int .i64 x1] = retOf (F_cz x0 x1) := by kernel_rfl
theorem q_cw (x0 : Int) : φ_cw [C.int .i64 x0] = retOf (F_cw x0) := by kernel_rfl
theorem q_dk (x0 : LL) (x1 : Int) : φ_dk [C.list x0, C.int .i64 x1] = retOf (F_dk x0 x1) := by kernel_rfl
theorem q_bi (x0 : Int) (x1 : Bool) (x2 : Int) (x3 : LL) (x4 : Int) (x5 : Int) (x6 : Int) (x7 : Int) (x8 : LL) : φ_bi [C.int .i64 x0, C.bool x1, C.int .i64 x2, C.list x3, C.int .i64 x4, C.int .i64 x5, C.int .i64 x6, C.int .i64 x7, C.list x8] = retOf (F_bi x0 x1 x2 x3 x4 x5 x6 x7 x8) := by kernel_rfl
theorem q_ez (x0 : LL) (x1 : Int) (x2 : LL) (x3 : Int) : φ_ez [C.list x0, C.int .i64 x1, C.list x2, C.int .i64 x3] = retOf (F_ez x0 x1 x2 x3) := by kernel_rfl
theorem q_cb (x0 : LL) (x1 : Int) (x2 : Bool) : φ_cb [C.list x0, C.int .i64 x1, C.bool x2] = retOf (F_cb x0 x1 x2) := by kernel_rfl
theorem q_an (x0 : LL) (x1 : Int) (x2 : Int) (x3 : Int) (x4 : Int) : φ_an [C.list x0, C.int .i64 x1, C.int .i64 x2, C.int .i64 x3, C.int .i64 x4] = retOf (F_an x0 x1 x2 x3 x4) := by kernel_rfl
theorem q_ad (x0 : LL) : φ_ad [C.list x0] = retOf (F_ad x0) := by kernel_rfl
theorem q_bf (x0 : LL) (x1 : Int) : φ_bf [C.list x0, C.int .i64 x1] = retOf (F_bf x0 x1) := by kernel_rfl
theorem q_bq (x0 : Bool) (x1 : LL) (x2 : Int) (x3 : LL) (x4 : Bool) : φ_bq [C.bool x0, C.list x1, C.int .i64 x2, C.list x3, C.bool x4] = retOf (F_bq x0 x1 x2 x3 x4) := by kernel_rfl
theorem q_ee (x0 : Int) (x1 : Int) (x2 : LL) : φ_ee [C.int .i64 x0, C.int .i64 x1, C.list x2] = retOf (F_ee x0 x1 x2) := by kernel_rfl
theorem q_di : φ_di [] = retOf (F_di) := by kernel_rfl
theorem q_en (x0 : Int) : φ_en [C.int .i64 x0] = retOf (F_en x0) := by kernel_rfl
end Dx
