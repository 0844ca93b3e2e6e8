/- The typed texts are the trees'. -/
import Derived.Test.YtcgenclbnnigeabGreatYb
set_option linter.all false
set_option linter.unusedVariables false
set_option linter.unusedSimpArgs false
set_option linter.unnecessarySimpa false
namespace Dx
open Go
theorem q_ca (x0 : LL) (x1 : Int) : φ_ca [C.list x0, C.int .i64 x1] = retOf (F_ca x0 x1) := by kernel_rfl
theorem q_az (x0 : Bool) (x1 : LL) (x2 : Int) (x3 : LL) (x4 : Int) : φ_az [C.bool x0, C.list x1, C.int .i64 x2, C.list x3, C.int .i64 x4] = retOf (F_az x0 x1 x2 x3 x4) := by kernel_rfl
theorem q_dr (x0 : Bool) (x1 : LL) (x2 : Int) (x3 : LL) (x4 : LL) (x5 : LL) (x6 : Int) (x7 : Int) (x8 : Int) (x9 : LL) : φ_dr [C.bool x0, C.list x1, C.int .i64 x2, C.list x3, C.list x4, C.list x5, C.int .i64 x6, C.int .i64 x7, C.int .i64 x8, C.list x9] = retOf (F_dr x0 x1 x2 x3 x4 x5 x6 x7 x8 x9) := by kernel_rfl
theorem q_bu (x0 : Bool) (x1 : LL) (x2 : Int) (x3 : LL) : φ_bu [C.bool x0, C.list x1, C.int .i64 x2, C.list x3] = retOf (F_bu x0 x1 x2 x3) := by kernel_rfl
theorem q_bb (x0 : LL) (x1 : Int) (x2 : Int) : φ_bb [C.list x0, C.int .i64 x1, C.int .i64 x2] = retOf (F_bb x0 x1 x2) := by kernel_rfl
theorem q_dl (x0 : LL) (x1 : Int) : φ_dl [C.list x0, C.int .i64 x1] = retOf (F_dl x0 x1) := by kernel_rfl
theorem q_ba (x0 : Int) (x1 : Bool) (x2 : Int) (x3 : LL) (x4 : Int) (x5 : Int) (x6 : Int) (x7 : Int) (x8 : Int) (x9 : Int) : φ_ba [C.int .i64 x0, C.bool x1, C.int .i64 x2, C.list x3, C.int .i64 x4, C.int .i64 x5, C.int .i64 x6, C.int .i64 x7, C.int .i64 x8, C.int .i64 x9] = retOf (F_ba x0 x1 x2 x3 x4 x5 x6 x7 x8 x9) := by kernel_rfl
theorem q_cy (x0 : Bool) (x1 : LL) (x2 : Int) (x3 : LL) : φ_cy [C.bool x0, C.list x1, C.int .i64 x2, C.list x3] = retOf (F_cy x0 x1 x2 x3) := by kernel_rfl
theorem q_bq (x0 : Bool) (x1 : LL) (x2 : Int) (x3 : LL) (x4 : LL) (x5 : LL) (x6 : Int) : φ_bq [C.bool x0, C.list x1, C.int .i64 x2, C.list x3, C.list x4, C.list x5, C.int .i64 x6] = retOf (F_bq x0 x1 x2 x3 x4 x5 x6) := by kernel_rfl
theorem q_bt (x0 : LL) : φ_bt [C.list x0] = retOf (F_bt x0) := by kernel_rfl
theorem q_at (x0 : Bool) (x1 : LL) (x2 : Int) (x3 : LL) (x4 : Int) (x5 : Int) (x6 : LL) : φ_at [C.bool x0, C.list x1, C.int .i64 x2, C.list x3, C.int .i64 x4, C.int .i64 x5, C.list x6] = retOf (F_at x0 x1 x2 x3 x4 x5 x6) := by kernel_rfl
theorem q_cl (x0 : Bool) (x1 : LL) (x2 : Int) (x3 : LL) (x4 : LL) (x5 : LL) (x6 : Int) (x7 : Int) (x8 : Int) (x9 : Int) : φ_cl [C.bool x0, C.list x1, C.int .i64 x2, C.list x3, C.list x4, C.list x5, C.int .i64 x6, C.int .i64 x7, C.int .i64 x8, C.int .i64 x9] = retOf (F_cl x0 x1 x2 x3 x4 x5 x6 x7 x8 x9) := by kernel_rfl
theorem q_di (x0 : Int) (x1 : LL) : φ_di [C.int .i64 x0, C.list x1] = retOf (F_di x0 x1) := by kernel_rfl
theorem q_du (x0 : Int) (x1 : LL) (x2 : Int) (x3 : Int) (x4 : LL) : φ_du [C.int .i64 x0, C.list x1, C.int .i64 x2, C.int .i64 x3, C.list x4] = retOf (F_du x0 x1 x2 x3 x4) := by kernel_rfl
theorem q_cn (x0 : LL) (x1 : LL) : φ_cn [C.list x0, C.list x1] = retOf (F_cn x0 x1) := by kernel_rfl
theorem q_de (x0 : Int) (x1 : Int) (x2 : Int) (x3 : Int) : φ_de [C.int .i64 x0, C.int .i64 x1, C.int .i64 x2, C.int .i64 x3] = retOf (F_de x0 x1 x2 x3) := by kernel_rfl
theorem q_bi (x0 : LL) (x1 : Int) (x2 : Int) (x3 : Int) : φ_bi [C.list x0, C.int .i64 x1, C.int .i64 x2, C.int .i64 x3] = retOf (F_bi x0 x1 x2 x3) := by kernel_rfl
theorem q_bm (x0 : Bool) (x1 : LL) (x2 : Int) (x3 : LL) (x4 : Int) (x5 : Int) (x6 : LL) : φ_bm [C.bool x0, C.list x1, C.int .i64 x2, C.list x3, C.int .i64 x4, C.int .i64 x5, C.list x6] = retOf (F_bm x0 x1 x2 x3 x4 x5 x6) := by kernel_rfl
theorem q_cb (x0 : LL) (x1 : Int) (x2 : Int) (x3 : Int) (x4 : Int) : φ_cb [C.list x0, C.int .i64 x1, C.int .i64 x2, C.int .i64 x3, C.int .i64 x4] = retOf (F_cb x0 x1 x2 x3 x4) := by kernel_rfl
theorem q_by (x0 : Bool) (x1 : LL) (x2 : Int) (x3 : LL) (x4 : Int) (x5 : Int) (x6 : Int) (x7 : Int) : φ_by [C.bool x0, C.list x1, C.int .i64 x2, C.list x3, C.int .i64 x4, C.int .i64 x5, C.int .i64 x6, C.int .i64 x7] = retOf (F_by x0 x1 x2 x3 x4 x5 x6 x7) := by kernel_rfl
theorem q_cm (x0 : LL) (x1 : Int) (x2 : Int) : φ_cm [C.list x0, C.int .i64 x1, C.int .i64 x2] = retOf (F_cm x0 x1 x2) := by kernel_rfl
theorem q_aq (x0 : LL) : φ_aq [C.list x0] = retOf (F_aq x0) := by kernel_rfl
theorem q_ah (x0 : LL) : φ_ah [C.list x0] = retOf (F_ah x0) := by kernel_rfl
theorem q_dm (x0 : Bool) (x1 : LL) (x2 : Int) (x3 : LL) (x4 : LL) (x5 : LL) (x6 : Int) (x7 : Int) (x8 : Int) (x9 : Int) : φ_dm [C.bool x0, C.list x1, C.int .i64 x2, C.list x3, C.list x4, C.list x5, C.int .i64 x6, C.int .i64 x7, C.int .i64 x8, C.int .i64 x9] = retOf (F_dm x0 x1 x2 x3 x4 x5 x6 x7 x8 x9) := by kernel_rfl
theorem q_dx (x0 : LL) (x1 : Int) (x2 : Int) (x3 : Int) (x4 : LL) : φ_dx [C.list x0, C.int .i64 x1, C.int .i64 x2, C.int .i64 x3, C.list x4] = retOf (F_dx x0 x1 x2 x3 x4) := by kernel_rfl
theorem q_do (x0 : Int) (x1 : Int) (x2 : Int) (x3 : Int) : φ_do [C.int .i64 x0, C.int .i64 x1, C.int .i64 x2, C.int .i64 x3] = retOf (F_do x0 x1 x2 x3) := by kernel_rfl
theorem q_cu (x0 : LL) (x1 : Int) : φ_cu [C.list x0, C.int .i64 x1] = retOf (F_cu x0 x1) := by kernel_rfl
theorem q_db (x0 : LL) : φ_db [C.list x0] = retOf (F_db x0) := by kernel_rfl
theorem q_co (x0 : LL) : φ_co [C.list x0] = retOf (F_co x0) := by kernel_rfl
theorem q_eb (x0 : Int) (x1 : Int) (x2 : Int) : φ_eb [C.int .i64 x0, C.int .i64 x1, C.int .i64 x2] = retOf (F_eb x0 x1 x2) := by kernel_rfl
theorem q_ai (x0 : LL) (x1 : Int) (x2 : Int) (x3 : Int) (x4 : Int) : φ_ai [C.list x0, C.int .i64 x1, C.int .i64 x2, C.int .i64 x3, C.int .i64 x4] = retOf (F_ai x0 x1 x2 x3 x4) := by kernel_rfl
theorem q_aa (x0 : LL) : φ_aa [C.list x0] = retOf (F_aa x0) := by kernel_rfl
theorem q_ad (x0 : LL) : φ_ad [C.list x0] = retOf (F_ad x0) := by kernel_rfl
theorem q_cs (x0 : Int) (x1 : Int) (x2 : LL) : φ_cs [C.int .i64 x0, C.int .i64 x1, C.list x2] = retOf (F_cs x0 x1 x2) := by kernel_rfl
theorem q_bd (x0 : Bool) (x1 : LL) (x2 : Int) (x3 : LL) (x4 : Int) (x5 : Int) (x6 : Int) : φ_bd [C.bool x0, C.list x1, C.int .i64 x2, C.list x3, C.int .i64 x4, C.int .i64 x5, C.int .i64 x6] = retOf (F_bd x0 x1 x2 x3 x4 x5 x6) := by kernel_rfl
theorem q_an (x0 : Int) (x1 : Int) (x2 : Int) (x3 : Int) : φ_an [C.int .i64 x0, C.int .i64 x1, C.int .i64 x2, C.int .i64 x3] = retOf (F_an x0 x1 x2 x3) := by kernel_rfl
end Dx
