/- The typed texts are the trees'. -/
import Derived.Test.YtcgenclbnnigeabGreatYb
set_option linter.all false
set_option linter.unusedVariables false
set_option linter.unusedSimpArgs false
set_option linter.unnecessarySimpa false
namespace Dx
open Go
theorem q_ci (x0 : LL) (x1 : Int) : φ_ci [C.list x0, C.int .i64 x1] = retOf (F_ci x0 x1) := by kernel_rfl
theorem q_be (x0 : Bool) (x1 : LL) (x2 : Int) (x3 : LL) (x4 : Int) : φ_be [C.bool x0, C.list x1, C.int .i64 x2, C.list x3, C.int .i64 x4] = retOf (F_be x0 x1 x2 x3 x4) := by kernel_rfl
theorem q_do (x0 : Bool) (x1 : LL) (x2 : Int) (x3 : LL) (x4 : LL) (x5 : LL) (x6 : Int) (x7 : Int) (x8 : Int) (x9 : LL) : φ_do [C.bool x0, C.list x1, C.int .i64 x2, C.list x3, C.list x4, C.list x5, C.int .i64 x6, C.int .i64 x7, C.int .i64 x8, C.list x9] = retOf (F_do x0 x1 x2 x3 x4 x5 x6 x7 x8 x9) := by kernel_rfl
theorem q_bo (x0 : Bool) (x1 : LL) (x2 : Int) (x3 : LL) : φ_bo [C.bool x0, C.list x1, C.int .i64 x2, C.list x3] = retOf (F_bo x0 x1 x2 x3) := by kernel_rfl
theorem q_ck (x0 : Bool) (x1 : LL) (x2 : Int) (x3 : LL) (x4 : LL) (x5 : LL) (x6 : Int) (x7 : Int) (x8 : Int) (x9 : LL) : φ_ck [C.bool x0, C.list x1, C.int .i64 x2, C.list x3, C.list x4, C.list x5, C.int .i64 x6, C.int .i64 x7, C.int .i64 x8, C.list x9] = retOf (F_ck x0 x1 x2 x3 x4 x5 x6 x7 x8 x9) := by kernel_rfl
theorem q_ce (x0 : LL) (x1 : Int) : φ_ce [C.list x0, C.int .i64 x1] = retOf (F_ce x0 x1) := by kernel_rfl
theorem q_cf (x0 : LL) (x1 : Int) : φ_cf [C.list x0, C.int .i64 x1] = retOf (F_cf x0 x1) := by kernel_rfl
theorem q_du (x0 : Int) (x1 : Int) (x2 : LL) : φ_du [C.int .i64 x0, C.int .i64 x1, C.list x2] = retOf (F_du x0 x1 x2) := by kernel_rfl
theorem q_spec_l12Do (x0 : LL) (x1 : Int) (x2 : Int) (x3 : LL) : φ_spec_l12Do [C.list x0, C.int .i64 x1, C.int .i64 x2, C.list x3] = retOf (F_spec_l12Do x0 x1 x2 x3) := by kernel_rfl
theorem q_cb (x0 : Bool) (x1 : LL) (x2 : Int) (x3 : LL) (x4 : Int) (x5 : Int) (x6 : Int) (x7 : Int) : φ_cb [C.bool x0, C.list x1, C.int .i64 x2, C.list x3, C.int .i64 x4, C.int .i64 x5, C.int .i64 x6, C.int .i64 x7] = retOf (F_cb x0 x1 x2 x3 x4 x5 x6 x7) := by kernel_rfl
theorem q_spec_l2Do (x0 : Int) (x1 : LL) (x2 : Int) (x3 : Int) (x4 : LL) : φ_spec_l2Do [C.int .i64 x0, C.list x1, C.int .i64 x2, C.int .i64 x3, C.list x4] = retOf (F_spec_l2Do x0 x1 x2 x3 x4) := by kernel_rfl
theorem q_by (x0 : Bool) (x1 : LL) (x2 : Int) (x3 : LL) (x4 : LL) (x5 : LL) (x6 : Int) (x7 : Int) (x8 : Int) (x9 : Int) : φ_by [C.bool x0, C.list x1, C.int .i64 x2, C.list x3, C.list x4, C.list x5, C.int .i64 x6, C.int .i64 x7, C.int .i64 x8, C.int .i64 x9] = retOf (F_by x0 x1 x2 x3 x4 x5 x6 x7 x8 x9) := by kernel_rfl
theorem q_dr (x0 : LL) : φ_dr [C.list x0] = retOf (F_dr x0) := by kernel_rfl
theorem q_dj (x0 : LL) (x1 : Int) (x2 : Int) (x3 : Int) (x4 : LL) : φ_dj [C.list x0, C.int .i64 x1, C.int .i64 x2, C.int .i64 x3, C.list x4] = retOf (F_dj x0 x1 x2 x3 x4) := by kernel_rfl
theorem q_di (x0 : LL) (x1 : LL) : φ_di [C.list x0, C.list x1] = retOf (F_di x0 x1) := by kernel_rfl
theorem q_dq (x0 : LL) (x1 : Int) : φ_dq [C.list x0, C.int .i64 x1] = retOf (F_dq x0 x1) := by kernel_rfl
theorem q_dl (x0 : Bool) (x1 : LL) (x2 : Int) (x3 : LL) (x4 : Int) (x5 : LL) (x6 : Int) : φ_dl [C.bool x0, C.list x1, C.int .i64 x2, C.list x3, C.int .i64 x4, C.list x5, C.int .i64 x6] = retOf (F_dl x0 x1 x2 x3 x4 x5 x6) := by kernel_rfl
theorem q_aw (x0 : Bool) (x1 : LL) (x2 : Int) (x3 : LL) (x4 : Int) (x5 : Int) (x6 : LL) : φ_aw [C.bool x0, C.list x1, C.int .i64 x2, C.list x3, C.int .i64 x4, C.int .i64 x5, C.list x6] = retOf (F_aw x0 x1 x2 x3 x4 x5 x6) := by kernel_rfl
theorem q_da (x0 : LL) (x1 : Int) : φ_da [C.list x0, C.int .i64 x1] = retOf (F_da x0 x1) := by kernel_rfl
theorem q_br (x0 : Bool) (x1 : LL) (x2 : Int) (x3 : LL) (x4 : Int) (x5 : Int) (x6 : Int) (x7 : Int) : φ_br [C.bool x0, C.list x1, C.int .i64 x2, C.list x3, C.int .i64 x4, C.int .i64 x5, C.int .i64 x6, C.int .i64 x7] = retOf (F_br x0 x1 x2 x3 x4 x5 x6 x7) := by kernel_rfl
theorem q_am (x0 : LL) : φ_am [C.list x0] = retOf (F_am x0) := by kernel_rfl
theorem q_ah (x0 : LL) : φ_ah [C.list x0] = retOf (F_ah x0) := by kernel_rfl
theorem q_bm (x0 : Int) (x1 : Bool) (x2 : Int) (x3 : LL) (x4 : Int) (x5 : Bool) : φ_bm [C.int .i64 x0, C.bool x1, C.int .i64 x2, C.list x3, C.int .i64 x4, C.bool x5] = retOf (F_bm x0 x1 x2 x3 x4 x5) := by kernel_rfl
theorem q_dv (x0 : LL) (x1 : Int) (x2 : Int) (x3 : Int) (x4 : LL) : φ_dv [C.list x0, C.int .i64 x1, C.int .i64 x2, C.int .i64 x3, C.list x4] = retOf (F_dv x0 x1 x2 x3 x4) := by kernel_rfl
theorem q_bu (x0 : LL) : φ_bu [C.list x0] = retOf (F_bu x0) := by kernel_rfl
theorem q_cq (x0 : LL) (x1 : Int) : φ_cq [C.list x0, C.int .i64 x1] = retOf (F_cq x0 x1) := by kernel_rfl
theorem q_cu (x0 : LL) : φ_cu [C.list x0] = retOf (F_cu x0) := by kernel_rfl
theorem q_ay (x0 : Bool) (x1 : LL) (x2 : Int) (x3 : LL) (x4 : Bool) : φ_ay [C.bool x0, C.list x1, C.int .i64 x2, C.list x3, C.bool x4] = retOf (F_ay x0 x1 x2 x3 x4) := by kernel_rfl
theorem q_cd (x0 : LL) : φ_cd [C.list x0] = retOf (F_cd x0) := by kernel_rfl
theorem q_bc (x0 : LL) (x1 : Int) (x2 : Bool) : φ_bc [C.list x0, C.int .i64 x1, C.bool x2] = retOf (F_bc x0 x1 x2) := by kernel_rfl
theorem q_cm (x0 : Bool) (x1 : LL) (x2 : Int) (x3 : LL) (x4 : Int) : φ_cm [C.bool x0, C.list x1, C.int .i64 x2, C.list x3, C.int .i64 x4] = retOf (F_cm x0 x1 x2 x3 x4) := by kernel_rfl
theorem q_at (x0 : LL) (x1 : Int) : φ_at [C.list x0, C.int .i64 x1] = retOf (F_at x0 x1) := by kernel_rfl
theorem q_aq (x0 : Bool) (x1 : LL) (x2 : Int) (x3 : LL) (x4 : Bool) : φ_aq [C.bool x0, C.list x1, C.int .i64 x2, C.list x3, C.bool x4] = retOf (F_aq x0 x1 x2 x3 x4) := by kernel_rfl
theorem q_az (x0 : Bool) (x1 : LL) (x2 : Int) (x3 : LL) (x4 : Int) (x5 : Int) (x6 : Int) : φ_az [C.bool x0, C.list x1, C.int .i64 x2, C.list x3, C.int .i64 x4, C.int .i64 x5, C.int .i64 x6] = retOf (F_az x0 x1 x2 x3 x4 x5 x6) := by kernel_rfl
theorem q_cn (x0 : Int) : φ_cn [C.int .i64 x0] = retOf (F_cn x0) := by kernel_rfl
theorem q_dd (x0 : Int) : φ_dd [C.int .i64 x0] = retOf (F_dd x0) := by kernel_rfl
end Dx
