/- The typed texts are the trees'. -/
import Derived.Test.YtnbafdnocjajcabGreatYb
set_option linter.all false
set_option linter.unusedVariables false
set_option linter.unusedSimpArgs false
set_option linter.unnecessarySimpa false
namespace Dx
open Go
theorem q_cc (x0 : Bool) (x1 : LL) (x2 : Int) (x3 : LL) (x4 : Int) : φ_cc [C.bool x0, C.list x1, C.int .i64 x2, C.list x3, C.int .i64 x4] = retOf (F_cc x0 x1 x2 x3 x4) := by kernel_rfl
theorem q_cu (x0 : Bool) (x1 : LL) (x2 : Int) (x3 : LL) (x4 : LL) (x5 : LL) (x6 : Int) (x7 : Int) (x8 : Int) (x9 : LL) : φ_cu [C.bool x0, C.list x1, C.int .i64 x2, C.list x3, C.list x4, C.list x5, C.int .i64 x6, C.int .i64 x7, C.int .i64 x8, C.list x9] = retOf (F_cu x0 x1 x2 x3 x4 x5 x6 x7 x8 x9) := by kernel_rfl
theorem q_eg (x0 : Int) (x1 : Bool) (x2 : Int) (x3 : LL) (x4 : Int) (x5 : Int) (x6 : Int) (x7 : Int) (x8 : Int) : φ_eg [C.int .i64 x0, C.bool x1, C.int .i64 x2, C.list x3, C.int .i64 x4, C.int .i64 x5, C.int .i64 x6, C.int .i64 x7, C.int .i64 x8] = retOf (F_eg x0 x1 x2 x3 x4 x5 x6 x7 x8) := by kernel_rfl
theorem q_fk (x0 : Bool) (x1 : LL) (x2 : Int) (x3 : LL) (x4 : LL) (x5 : LL) (x6 : Int) (x7 : Int) (x8 : Int) (x9 : LL) : φ_fk [C.bool x0, C.list x1, C.int .i64 x2, C.list x3, C.list x4, C.list x5, C.int .i64 x6, C.int .i64 x7, C.int .i64 x8, C.list x9] = retOf (F_fk x0 x1 x2 x3 x4 x5 x6 x7 x8 x9) := by kernel_rfl
theorem q_dq (x0 : Bool) (x1 : LL) (x2 : Int) (x3 : LL) (x4 : LL) (x5 : LL) (x6 : Int) (x7 : Int) (x8 : Int) (x9 : LL) : φ_dq [C.bool x0, C.list x1, C.int .i64 x2, C.list x3, C.list x4, C.list x5, C.int .i64 x6, C.int .i64 x7, C.int .i64 x8, C.list x9] = retOf (F_dq x0 x1 x2 x3 x4 x5 x6 x7 x8 x9) := by kernel_rfl
theorem q_bp (x0 : Bool) (x1 : LL) (x2 : Int) (x3 : LL) : φ_bp [C.bool x0, C.list x1, C.int .i64 x2, C.list x3] = retOf (F_bp x0 x1 x2 x3) := by kernel_rfl
theorem q_cd (x0 : LL) (x1 : Int) (x2 : Int) : φ_cd [C.list x0, C.int .i64 x1, C.int .i64 x2] = retOf (F_cd x0 x1 x2) := by kernel_rfl
theorem q_fa (x0 : Bool) (x1 : LL) (x2 : Int) (x3 : LL) (x4 : LL) (x5 : LL) (x6 : Int) (x7 : Int) (x8 : Int) (x9 : LL) : φ_fa [C.bool x0, C.list x1, C.int .i64 x2, C.list x3, C.list x4, C.list x5, C.int .i64 x6, C.int .i64 x7, C.int .i64 x8, C.list x9] = retOf (F_fa x0 x1 x2 x3 x4 x5 x6 x7 x8 x9) := by kernel_rfl
theorem q_cp (x0 : Bool) (x1 : LL) (x2 : Int) (x3 : LL) (x4 : LL) (x5 : LL) (x6 : Int) (x7 : Int) (x8 : Int) (x9 : LL) : φ_cp [C.bool x0, C.list x1, C.int .i64 x2, C.list x3, C.list x4, C.list x5, C.int .i64 x6, C.int .i64 x7, C.int .i64 x8, C.list x9] = retOf (F_cp x0 x1 x2 x3 x4 x5 x6 x7 x8 x9) := by kernel_rfl
theorem q_cn (x0 : Bool) (x1 : LL) (x2 : Int) (x3 : LL) (x4 : Int) (x5 : Int) (x6 : Int) (x7 : Int) : φ_cn [C.bool x0, C.list x1, C.int .i64 x2, C.list x3, C.int .i64 x4, C.int .i64 x5, C.int .i64 x6, C.int .i64 x7] = retOf (F_cn x0 x1 x2 x3 x4 x5 x6 x7) := by kernel_rfl
theorem q_cg (x0 : LL) (x1 : LL) : φ_cg [C.list x0, C.list x1] = retOf (F_cg x0 x1) := by kernel_rfl
theorem q_ds (x0 : Bool) (x1 : LL) (x2 : Int) (x3 : LL) (x4 : Int) (x5 : Int) (x6 : Int) (x7 : Int) : φ_ds [C.bool x0, C.list x1, C.int .i64 x2, C.list x3, C.int .i64 x4, C.int .i64 x5, C.int .i64 x6, C.int .i64 x7] = retOf (F_ds x0 x1 x2 x3 x4 x5 x6 x7) := by kernel_rfl
theorem q_bu (x0 : Bool) (x1 : LL) (x2 : Int) (x3 : LL) (x4 : Int) (x5 : Int) (x6 : LL) : φ_bu [C.bool x0, C.list x1, C.int .i64 x2, C.list x3, C.int .i64 x4, C.int .i64 x5, C.list x6] = retOf (F_bu x0 x1 x2 x3 x4 x5 x6) := by kernel_rfl
theorem q_cy (x0 : LL) (x1 : Int) (x2 : Int) (x3 : LL) : φ_cy [C.list x0, C.int .i64 x1, C.int .i64 x2, C.list x3] = retOf (F_cy x0 x1 x2 x3) := by kernel_rfl
theorem q_en (x0 : Int) (x1 : LL) (x2 : Int) (x3 : Int) (x4 : LL) : φ_en [C.int .i64 x0, C.list x1, C.int .i64 x2, C.int .i64 x3, C.list x4] = retOf (F_en x0 x1 x2 x3 x4) := by kernel_rfl
theorem q_aw (x0 : LL) : φ_aw [C.list x0] = retOf (F_aw x0) := by kernel_rfl
theorem q_fi (x0 : LL) : φ_fi [C.list x0] = retOf (F_fi x0) := by kernel_rfl
theorem q_ad (x0 : Bool) (x1 : LL) (x2 : Int) (x3 : LL) (x4 : LL) (x5 : LL) (x6 : Int) : φ_ad [C.bool x0, C.list x1, C.int .i64 x2, C.list x3, C.list x4, C.list x5, C.int .i64 x6] = retOf (F_ad x0 x1 x2 x3 x4 x5 x6) := by kernel_rfl
theorem q_fl (x0 : Int) (x1 : LL) (x2 : Int) (x3 : Int) (x4 : LL) : φ_fl [C.int .i64 x0, C.list x1, C.int .i64 x2, C.int .i64 x3, C.list x4] = retOf (F_fl x0 x1 x2 x3 x4) := by kernel_rfl
theorem q_dk (x0 : Bool) (x1 : LL) (x2 : Int) (x3 : LL) (x4 : Int) : φ_dk [C.bool x0, C.list x1, C.int .i64 x2, C.list x3, C.int .i64 x4] = retOf (F_dk x0 x1 x2 x3 x4) := by kernel_rfl
theorem q_ek (x0 : LL) (x1 : LL) : φ_ek [C.list x0, C.list x1] = retOf (F_ek x0 x1) := by kernel_rfl
theorem q_fb (x0 : Bool) (x1 : LL) (x2 : Int) (x3 : LL) (x4 : Int) (x5 : LL) (x6 : Int) : φ_fb [C.bool x0, C.list x1, C.int .i64 x2, C.list x3, C.int .i64 x4, C.list x5, C.int .i64 x6] = retOf (F_fb x0 x1 x2 x3 x4 x5 x6) := by kernel_rfl
theorem q_dw (x0 : Int) (x1 : LL) : φ_dw [C.int .i64 x0, C.list x1] = retOf (F_dw x0 x1) := by kernel_rfl
theorem q_bv (x0 : Bool) (x1 : LL) (x2 : Int) (x3 : LL) (x4 : Int) (x5 : Int) (x6 : LL) : φ_bv [C.bool x0, C.list x1, C.int .i64 x2, C.list x3, C.int .i64 x4, C.int .i64 x5, C.list x6] = retOf (F_bv x0 x1 x2 x3 x4 x5 x6) := by kernel_rfl
theorem q_da (x0 : Int) (x1 : Int) : φ_da [C.int .i64 x0, C.int .i64 x1] = retOf (F_da x0 x1) := by kernel_rfl
theorem q_dn (x0 : LL) (x1 : Int) (x2 : Int) (x3 : Int) (x4 : Int) : φ_dn [C.list x0, C.int .i64 x1, C.int .i64 x2, C.int .i64 x3, C.int .i64 x4] = retOf (F_dn x0 x1 x2 x3 x4) := by kernel_rfl
theorem q_ar (x0 : LL) : φ_ar [C.list x0] = retOf (F_ar x0) := by kernel_rfl
theorem q_eq (x0 : LL) (x1 : Int) (x2 : Int) : φ_eq [C.list x0, C.int .i64 x1, C.int .i64 x2] = retOf (F_eq x0 x1 x2) := by kernel_rfl
theorem q_at (x0 : LL) : φ_at [C.list x0] = retOf (F_at x0) := by kernel_rfl
theorem q_dr (x0 : Int) (x1 : Bool) (x2 : Int) (x3 : LL) (x4 : Int) (x5 : Int) (x6 : Bool) (x7 : Int) (x8 : LL) (x9 : Int) : φ_dr [C.int .i64 x0, C.bool x1, C.int .i64 x2, C.list x3, C.int .i64 x4, C.int .i64 x5, C.bool x6, C.int .i64 x7, C.list x8, C.int .i64 x9] = retOf (F_dr x0 x1 x2 x3 x4 x5 x6 x7 x8 x9) := by kernel_rfl
theorem q_di (x0 : Int) (x1 : Bool) (x2 : Int) (x3 : LL) (x4 : Int) (x5 : Bool) : φ_di [C.int .i64 x0, C.bool x1, C.int .i64 x2, C.list x3, C.int .i64 x4, C.bool x5] = retOf (F_di x0 x1 x2 x3 x4 x5) := by kernel_rfl
theorem q_fm (x0 : LL) (x1 : Int) : φ_fm [C.list x0, C.int .i64 x1] = retOf (F_fm x0 x1) := by kernel_rfl
theorem q_cz (x0 : Bool) (x1 : LL) (x2 : Int) (x3 : LL) : φ_cz [C.bool x0, C.list x1, C.int .i64 x2, C.list x3] = retOf (F_cz x0 x1 x2 x3) := by kernel_rfl
theorem q_dd (x0 : Bool) (x1 : LL) (x2 : Int) (x3 : LL) (x4 : Bool) : φ_dd [C.bool x0, C.list x1, C.int .i64 x2, C.list x3, C.bool x4] = retOf (F_dd x0 x1 x2 x3 x4) := by kernel_rfl
theorem q_fj (x0 : LL) (x1 : Int) (x2 : Int) (x3 : Int) (x4 : LL) : φ_fj [C.list x0, C.int .i64 x1, C.int .i64 x2, C.int .i64 x3, C.list x4] = retOf (F_fj x0 x1 x2 x3 x4) := by kernel_rfl
theorem q_ey (x0 : Bool) (x1 : LL) (x2 : Int) (x3 : LL) (x4 : Bool) (x5 : LL) (x6 : Int) (x7 : LL) : φ_ey [C.bool x0, C.list x1, C.int .i64 x2, C.list x3, C.bool x4, C.list x5, C.int .i64 x6, C.list x7] = retOf (F_ey x0 x1 x2 x3 x4 x5 x6 x7) := by kernel_rfl
theorem q_cx (x0 : Int) : φ_cx [C.int .i64 x0] = retOf (F_cx x0) := by kernel_rfl
theorem q_fc (x0 : LL) : φ_fc [C.list x0] = retOf (F_fc x0) := by kernel_rfl
theorem q_ci (x0 : Bool) (x1 : LL) (x2 : Int) (x3 : LL) (x4 : Bool) : φ_ci [C.bool x0, C.list x1, C.int .i64 x2, C.list x3, C.bool x4] = retOf (F_ci x0 x1 x2 x3 x4) := by kernel_rfl
theorem q_do (x0 : LL) : φ_do [C.list x0] = retOf (F_do x0) := by kernel_rfl
theorem q_fs (x0 : Int) (x1 : Int) (x2 : Int) : φ_fs [C.int .i64 x0, C.int .i64 x1, C.int .i64 x2] = retOf (F_fs x0 x1 x2) := by kernel_rfl
theorem q_bm (x0 : Bool) (x1 : LL) (x2 : Int) (x3 : LL) (x4 : Int) (x5 : Int) (x6 : Int) (x7 : LL) : φ_bm [C.bool x0, C.list x1, C.int .i64 x2, C.list x3, C.int .i64 x4, C.int .i64 x5, C.int .i64 x6, C.list x7] = retOf (F_bm x0 x1 x2 x3 x4 x5 x6 x7) := by kernel_rfl
theorem q_dy (x0 : Bool) (x1 : LL) (x2 : Int) (x3 : LL) (x4 : Int) : φ_dy [C.bool x0, C.list x1, C.int .i64 x2, C.list x3, C.int .i64 x4] = retOf (F_dy x0 x1 x2 x3 x4) := by kernel_rfl
theorem q_af (x0 : LL) : φ_af [C.list x0] = retOf (F_af x0) := by kernel_rfl
theorem q_al (x0 : LL) : φ_al [C.list x0] = retOf (F_al x0) := by kernel_rfl
theorem q_ca (x0 : Int) (x1 : Int) (x2 : Int) (x3 : Int) : φ_ca [C.int .i64 x0, C.int .i64 x1, C.int .i64 x2, C.int .i64 x3] = retOf (F_ca x0 x1 x2 x3) := by kernel_rfl
theorem q_bs (x0 : Int) : φ_bs [C.int .i64 x0] = retOf (F_bs x0) := by kernel_rfl
theorem q_eh : φ_eh [] = retOf (F_eh) := by kernel_rfl
theorem q_du : φ_du [] = retOf (F_du) := by kernel_rfl
theorem q_bn (x0 : Int) : φ_bn [C.int .i64 x0] = retOf (F_bn x0) := by kernel_rfl
end Dx
