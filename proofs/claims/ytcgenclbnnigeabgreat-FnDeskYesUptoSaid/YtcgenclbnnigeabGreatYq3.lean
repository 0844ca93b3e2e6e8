/- The typed texts are the trees'. -/
import Derived.Test.YtcgenclbnnigeabGreatYb
set_option linter.all false
set_option linter.unusedVariables false
set_option linter.unusedSimpArgs false
set_option linter.unnecessarySimpa false
namespace Dx
open Go
theorem q_cs (x0 : LL) (x1 : Int) : φ_cs [C.list x0, C.int .i64 x1] = retOf (F_cs x0 x1) := by kernel_rfl
theorem q_ay (x0 : Bool) (x1 : LL) (x2 : Int) (x3 : LL) (x4 : Int) : φ_ay [C.bool x0, C.list x1, C.int .i64 x2, C.list x3, C.int .i64 x4] = retOf (F_ay x0 x1 x2 x3 x4) := by kernel_rfl
theorem q_du (x0 : Bool) (x1 : LL) (x2 : Int) (x3 : LL) (x4 : LL) (x5 : LL) (x6 : Int) (x7 : Int) (x8 : Int) (x9 : LL) : φ_du [C.bool x0, C.list x1, C.int .i64 x2, C.list x3, C.list x4, C.list x5, C.int .i64 x6, C.int .i64 x7, C.int .i64 x8, C.list x9] = retOf (F_du x0 x1 x2 x3 x4 x5 x6 x7 x8 x9) := by kernel_rfl
theorem q_bm (x0 : Bool) (x1 : LL) (x2 : Int) (x3 : LL) : φ_bm [C.bool x0, C.list x1, C.int .i64 x2, C.list x3] = retOf (F_bm x0 x1 x2 x3) := by kernel_rfl
theorem q_bi (x0 : LL) (x1 : Int) (x2 : Int) : φ_bi [C.list x0, C.int .i64 x1, C.int .i64 x2] = retOf (F_bi x0 x1 x2) := by kernel_rfl
theorem q_da (x0 : LL) (x1 : Int) : φ_da [C.list x0, C.int .i64 x1] = retOf (F_da x0 x1) := by kernel_rfl
theorem q_ax (x0 : Int) (x1 : Bool) (x2 : Int) (x3 : LL) (x4 : Int) (x5 : Int) (x6 : Int) (x7 : Int) (x8 : Int) (x9 : Int) : φ_ax [C.int .i64 x0, C.bool x1, C.int .i64 x2, C.list x3, C.int .i64 x4, C.int .i64 x5, C.int .i64 x6, C.int .i64 x7, C.int .i64 x8, C.int .i64 x9] = retOf (F_ax x0 x1 x2 x3 x4 x5 x6 x7 x8 x9) := by kernel_rfl
theorem q_cz (x0 : Bool) (x1 : LL) (x2 : Int) (x3 : LL) : φ_cz [C.bool x0, C.list x1, C.int .i64 x2, C.list x3] = retOf (F_cz x0 x1 x2 x3) := by kernel_rfl
theorem q_bu (x0 : Bool) (x1 : LL) (x2 : Int) (x3 : LL) (x4 : LL) (x5 : LL) (x6 : Int) : φ_bu [C.bool x0, C.list x1, C.int .i64 x2, C.list x3, C.list x4, C.list x5, C.int .i64 x6] = retOf (F_bu x0 x1 x2 x3 x4 x5 x6) := by kernel_rfl
theorem q_bq (x0 : LL) : φ_bq [C.list x0] = retOf (F_bq x0) := by kernel_rfl
theorem q_au (x0 : Bool) (x1 : LL) (x2 : Int) (x3 : LL) (x4 : Int) (x5 : Int) (x6 : LL) : φ_au [C.bool x0, C.list x1, C.int .i64 x2, C.list x3, C.int .i64 x4, C.int .i64 x5, C.list x6] = retOf (F_au x0 x1 x2 x3 x4 x5 x6) := by kernel_rfl
theorem q_cq (x0 : Bool) (x1 : LL) (x2 : Int) (x3 : LL) (x4 : LL) (x5 : LL) (x6 : Int) (x7 : Int) (x8 : Int) (x9 : Int) : φ_cq [C.bool x0, C.list x1, C.int .i64 x2, C.list x3, C.list x4, C.list x5, C.int .i64 x6, C.int .i64 x7, C.int .i64 x8, C.int .i64 x9] = retOf (F_cq x0 x1 x2 x3 x4 x5 x6 x7 x8 x9) := by kernel_rfl
theorem q_cu (x0 : Int) (x1 : LL) : φ_cu [C.int .i64 x0, C.list x1] = retOf (F_cu x0 x1) := by kernel_rfl
theorem q_dw (x0 : Int) (x1 : LL) (x2 : Int) (x3 : Int) (x4 : LL) : φ_dw [C.int .i64 x0, C.list x1, C.int .i64 x2, C.int .i64 x3, C.list x4] = retOf (F_dw x0 x1 x2 x3 x4) := by kernel_rfl
theorem q_ch (x0 : LL) (x1 : LL) : φ_ch [C.list x0, C.list x1] = retOf (F_ch x0 x1) := by kernel_rfl
theorem q_de (x0 : Int) (x1 : Int) (x2 : Int) (x3 : Int) : φ_de [C.int .i64 x0, C.int .i64 x1, C.int .i64 x2, C.int .i64 x3] = retOf (F_de x0 x1 x2 x3) := by kernel_rfl
theorem q_dj (x0 : Bool) (x1 : LL) (x2 : Int) (x3 : LL) (x4 : Int) (x5 : LL) (x6 : Int) : φ_dj [C.bool x0, C.list x1, C.int .i64 x2, C.list x3, C.int .i64 x4, C.list x5, C.int .i64 x6] = retOf (F_dj x0 x1 x2 x3 x4 x5 x6) := by kernel_rfl
theorem q_bo (x0 : Bool) (x1 : LL) (x2 : Int) (x3 : LL) (x4 : Int) (x5 : Int) (x6 : LL) : φ_bo [C.bool x0, C.list x1, C.int .i64 x2, C.list x3, C.int .i64 x4, C.int .i64 x5, C.list x6] = retOf (F_bo x0 x1 x2 x3 x4 x5 x6) := by kernel_rfl
theorem q_ca (x0 : LL) : φ_ca [C.list x0] = retOf (F_ca x0) := by kernel_rfl
theorem q_aj (x0 : LL) : φ_aj [C.list x0] = retOf (F_aj x0) := by kernel_rfl
theorem q_di (x0 : LL) (x1 : Int) (x2 : Int) (x3 : Int) (x4 : Int) : φ_di [C.list x0, C.int .i64 x1, C.int .i64 x2, C.int .i64 x3, C.int .i64 x4] = retOf (F_di x0 x1 x2 x3 x4) := by kernel_rfl
theorem q_af (x0 : LL) : φ_af [C.list x0] = retOf (F_af x0) := by kernel_rfl
theorem q_ah (x0 : LL) : φ_ah [C.list x0] = retOf (F_ah x0) := by kernel_rfl
theorem q_dd (x0 : Bool) (x1 : LL) (x2 : Int) (x3 : LL) (x4 : LL) (x5 : LL) (x6 : Int) (x7 : Int) (x8 : Int) (x9 : Int) : φ_dd [C.bool x0, C.list x1, C.int .i64 x2, C.list x3, C.list x4, C.list x5, C.int .i64 x6, C.int .i64 x7, C.int .i64 x8, C.int .i64 x9] = retOf (F_dd x0 x1 x2 x3 x4 x5 x6 x7 x8 x9) := by kernel_rfl
theorem q_bk (x0 : LL) (x1 : Int) : φ_bk [C.list x0, C.int .i64 x1] = retOf (F_bk x0 x1) := by kernel_rfl
theorem q_cx (x0 : Bool) (x1 : LL) (x2 : Int) (x3 : LL) (x4 : Bool) (x5 : LL) (x6 : Int) (x7 : LL) : φ_cx [C.bool x0, C.list x1, C.int .i64 x2, C.list x3, C.bool x4, C.list x5, C.int .i64 x6, C.list x7] = retOf (F_cx x0 x1 x2 x3 x4 x5 x6 x7) := by kernel_rfl
theorem q_dq (x0 : Int) (x1 : Int) (x2 : LL) (x3 : Int) (x4 : Int) (x5 : LL) : φ_dq [C.int .i64 x0, C.int .i64 x1, C.list x2, C.int .i64 x3, C.int .i64 x4, C.list x5] = retOf (F_dq x0 x1 x2 x3 x4 x5) := by kernel_rfl
theorem q_bf (x0 : Bool) (x1 : LL) (x2 : Int) (x3 : LL) (x4 : Bool) : φ_bf [C.bool x0, C.list x1, C.int .i64 x2, C.list x3, C.bool x4] = retOf (F_bf x0 x1 x2 x3 x4) := by kernel_rfl
theorem q_ck (x0 : LL) : φ_ck [C.list x0] = retOf (F_ck x0) := by kernel_rfl
theorem q_dz (x0 : LL) (x1 : Int) (x2 : LL) (x3 : Int) : φ_dz [C.list x0, C.int .i64 x1, C.list x2, C.int .i64 x3] = retOf (F_dz x0 x1 x2 x3) := by kernel_rfl
theorem q_ai (x0 : LL) (x1 : Int) (x2 : Int) (x3 : Int) (x4 : Int) : φ_ai [C.list x0, C.int .i64 x1, C.int .i64 x2, C.int .i64 x3, C.int .i64 x4] = retOf (F_ai x0 x1 x2 x3 x4) := by kernel_rfl
theorem q_aa (x0 : LL) : φ_aa [C.list x0] = retOf (F_aa x0) := by kernel_rfl
theorem q_ae (x0 : LL) : φ_ae [C.list x0] = retOf (F_ae x0) := by kernel_rfl
theorem q_aq (x0 : Int) : φ_aq [C.int .i64 x0] = retOf (F_aq x0) := by kernel_rfl
theorem q_cd (x0 : Int) (x1 : Int) (x2 : LL) : φ_cd [C.int .i64 x0, C.int .i64 x1, C.list x2] = retOf (F_cd x0 x1 x2) := by kernel_rfl
theorem q_ci (x0 : Int) : φ_ci [C.int .i64 x0] = retOf (F_ci x0) := by kernel_rfl
theorem q_ao (x0 : Int) (x1 : Int) (x2 : Int) (x3 : Int) : φ_ao [C.int .i64 x0, C.int .i64 x1, C.int .i64 x2, C.int .i64 x3] = retOf (F_ao x0 x1 x2 x3) := by kernel_rfl
end Dx
