/- The typed texts are the trees'. -/
import Derived.Test.YtnbafdnocjajcabGreatYb
set_option linter.all false
set_option linter.unusedVariables false
set_option linter.unusedSimpArgs false
set_option linter.unnecessarySimpa false
namespace Dx
open Go
theorem q_fj (x0 : Bool) (x1 : LL) (x2 : Int) (x3 : LL) (x4 : LL) (x5 : LL) : φ_fj [C.bool x0, C.list x1, C.int .i64 x2, C.list x3, C.list x4, C.list x5] = retOf (F_fj x0 x1 x2 x3 x4 x5) := by kernel_rfl
theorem q_dz (x0 : LL) (x1 : Int) : φ_dz [C.list x0, C.int .i64 x1] = retOf (F_dz x0 x1) := by kernel_rfl
theorem q_cm (x0 : Bool) (x1 : LL) (x2 : Int) (x3 : LL) : φ_cm [C.bool x0, C.list x1, C.int .i64 x2, C.list x3] = retOf (F_cm x0 x1 x2 x3) := by kernel_rfl
theorem q_au (x0 : Int) (x1 : Bool) (x2 : Int) (x3 : LL) (x4 : Int) (x5 : Int) (x6 : Int) (x7 : Int) (x8 : Int) : φ_au [C.int .i64 x0, C.bool x1, C.int .i64 x2, C.list x3, C.int .i64 x4, C.int .i64 x5, C.int .i64 x6, C.int .i64 x7, C.int .i64 x8] = retOf (F_au x0 x1 x2 x3 x4 x5 x6 x7 x8) := by kernel_rfl
theorem q_bh (x0 : Bool) (x1 : LL) (x2 : Int) (x3 : LL) : φ_bh [C.bool x0, C.list x1, C.int .i64 x2, C.list x3] = retOf (F_bh x0 x1 x2 x3) := by kernel_rfl
theorem q_ce (x0 : Int) (x1 : Bool) (x2 : Int) (x3 : LL) (x4 : Int) (x5 : Int) (x6 : Int) (x7 : Int) (x8 : Int) (x9 : Int) : φ_ce [C.int .i64 x0, C.bool x1, C.int .i64 x2, C.list x3, C.int .i64 x4, C.int .i64 x5, C.int .i64 x6, C.int .i64 x7, C.int .i64 x8, C.int .i64 x9] = retOf (F_ce x0 x1 x2 x3 x4 x5 x6 x7 x8 x9) := by kernel_rfl
theorem q_ey (x0 : Bool) (x1 : LL) (x2 : Int) (x3 : LL) (x4 : LL) (x5 : LL) (x6 : Int) (x7 : Int) (x8 : Int) (x9 : LL) : φ_ey [C.bool x0, C.list x1, C.int .i64 x2, C.list x3, C.list x4, C.list x5, C.int .i64 x6, C.int .i64 x7, C.int .i64 x8, C.list x9] = retOf (F_ey x0 x1 x2 x3 x4 x5 x6 x7 x8 x9) := by kernel_rfl
theorem q_fk (x0 : Int) (x1 : Int) (x2 : LL) : φ_fk [C.int .i64 x0, C.int .i64 x1, C.list x2] = retOf (F_fk x0 x1 x2) := by kernel_rfl
theorem q_cf (x0 : Bool) (x1 : LL) (x2 : Int) (x3 : LL) (x4 : Int) (x5 : Int) (x6 : Int) (x7 : Int) : φ_cf [C.bool x0, C.list x1, C.int .i64 x2, C.list x3, C.int .i64 x4, C.int .i64 x5, C.int .i64 x6, C.int .i64 x7] = retOf (F_cf x0 x1 x2 x3 x4 x5 x6 x7) := by kernel_rfl
theorem q_bt (x0 : LL) (x1 : LL) : φ_bt [C.list x0, C.list x1] = retOf (F_bt x0 x1) := by kernel_rfl
theorem q_fl (x0 : Int) (x1 : LL) : φ_fl [C.int .i64 x0, C.list x1] = retOf (F_fl x0 x1) := by kernel_rfl
theorem q_bq (x0 : Bool) (x1 : LL) (x2 : Int) (x3 : LL) (x4 : Int) (x5 : Int) (x6 : LL) : φ_bq [C.bool x0, C.list x1, C.int .i64 x2, C.list x3, C.int .i64 x4, C.int .i64 x5, C.list x6] = retOf (F_bq x0 x1 x2 x3 x4 x5 x6) := by kernel_rfl
theorem q_ee (x0 : Bool) (x1 : LL) (x2 : Int) (x3 : LL) (x4 : LL) (x5 : LL) (x6 : Int) (x7 : Int) (x8 : Int) (x9 : Int) : φ_ee [C.bool x0, C.list x1, C.int .i64 x2, C.list x3, C.list x4, C.list x5, C.int .i64 x6, C.int .i64 x7, C.int .i64 x8, C.int .i64 x9] = retOf (F_ee x0 x1 x2 x3 x4 x5 x6 x7 x8 x9) := by kernel_rfl
theorem q_dn (x0 : Int) (x1 : LL) (x2 : Int) (x3 : Int) (x4 : LL) : φ_dn [C.int .i64 x0, C.list x1, C.int .i64 x2, C.int .i64 x3, C.list x4] = retOf (F_dn x0 x1 x2 x3 x4) := by kernel_rfl
theorem q_eu (x0 : LL) (x1 : Int) (x2 : Int) (x3 : LL) : φ_eu [C.list x0, C.int .i64 x1, C.int .i64 x2, C.list x3] = retOf (F_eu x0 x1 x2 x3) := by kernel_rfl
theorem q_fc (x0 : LL) : φ_fc [C.list x0] = retOf (F_fc x0) := by kernel_rfl
theorem q_ad (x0 : Bool) (x1 : LL) (x2 : Int) (x3 : LL) (x4 : LL) (x5 : LL) (x6 : Int) : φ_ad [C.bool x0, C.list x1, C.int .i64 x2, C.list x3, C.list x4, C.list x5, C.int .i64 x6] = retOf (F_ad x0 x1 x2 x3 x4 x5 x6) := by kernel_rfl
theorem q_er (x0 : LL) (x1 : Int) (x2 : Int) (x3 : Int) (x4 : LL) : φ_er [C.list x0, C.int .i64 x1, C.int .i64 x2, C.int .i64 x3, C.list x4] = retOf (F_er x0 x1 x2 x3 x4) := by kernel_rfl
theorem q_ep (x0 : LL) : φ_ep [C.list x0] = retOf (F_ep x0) := by kernel_rfl
theorem q_et (x0 : Bool) (x1 : LL) (x2 : Int) (x3 : LL) (x4 : Int) (x5 : LL) (x6 : Int) : φ_et [C.bool x0, C.list x1, C.int .i64 x2, C.list x3, C.int .i64 x4, C.list x5, C.int .i64 x6] = retOf (F_et x0 x1 x2 x3 x4 x5 x6) := by kernel_rfl
theorem q_en (x0 : Bool) (x1 : LL) (x2 : Int) (x3 : LL) (x4 : Int) (x5 : LL) (x6 : Int) : φ_en [C.bool x0, C.list x1, C.int .i64 x2, C.list x3, C.int .i64 x4, C.list x5, C.int .i64 x6] = retOf (F_en x0 x1 x2 x3 x4 x5 x6) := by kernel_rfl
theorem q_dt (x0 : Int) (x1 : Int) : φ_dt [C.int .i64 x0, C.int .i64 x1] = retOf (F_dt x0 x1) := by kernel_rfl
theorem q_cz (x0 : Int) (x1 : Int) : φ_cz [C.int .i64 x0, C.int .i64 x1] = retOf (F_cz x0 x1) := by kernel_rfl
theorem q_dk (x0 : LL) : φ_dk [C.list x0] = retOf (F_dk x0) := by kernel_rfl
theorem q_bo (x0 : Int) (x1 : Bool) (x2 : Int) (x3 : LL) (x4 : Int) : φ_bo [C.int .i64 x0, C.bool x1, C.int .i64 x2, C.list x3, C.int .i64 x4] = retOf (F_bo x0 x1 x2 x3 x4) := by kernel_rfl
theorem q_ex (x0 : LL) (x1 : Int) (x2 : Int) : φ_ex [C.list x0, C.int .i64 x1, C.int .i64 x2] = retOf (F_ex x0 x1 x2) := by kernel_rfl
theorem q_ah (x0 : LL) : φ_ah [C.list x0] = retOf (F_ah x0) := by kernel_rfl
theorem q_ag (x0 : LL) : φ_ag [C.list x0] = retOf (F_ag x0) := by kernel_rfl
theorem q_ai (x0 : LL) : φ_ai [C.list x0] = retOf (F_ai x0) := by kernel_rfl
theorem q_cp (x0 : Int) (x1 : Bool) (x2 : Int) (x3 : LL) (x4 : Int) (x5 : Bool) : φ_cp [C.int .i64 x0, C.bool x1, C.int .i64 x2, C.list x3, C.int .i64 x4, C.bool x5] = retOf (F_cp x0 x1 x2 x3 x4 x5) := by kernel_rfl
theorem q_bm (x0 : Bool) (x1 : LL) (x2 : Int) (x3 : LL) (x4 : LL) (x5 : LL) (x6 : Int) (x7 : Int) (x8 : Int) (x9 : Int) : φ_bm [C.bool x0, C.list x1, C.int .i64 x2, C.list x3, C.list x4, C.list x5, C.int .i64 x6, C.int .i64 x7, C.int .i64 x8, C.int .i64 x9] = retOf (F_bm x0 x1 x2 x3 x4 x5 x6 x7 x8 x9) := by kernel_rfl
theorem q_dy (x0 : Int) (x1 : Bool) (x2 : Int) (x3 : LL) (x4 : Int) : φ_dy [C.int .i64 x0, C.bool x1, C.int .i64 x2, C.list x3, C.int .i64 x4] = retOf (F_dy x0 x1 x2 x3 x4) := by kernel_rfl
theorem q_de (x0 : LL) : φ_de [C.list x0] = retOf (F_de x0) := by kernel_rfl
theorem q_cs (x0 : LL) (x1 : Int) : φ_cs [C.list x0, C.int .i64 x1] = retOf (F_cs x0 x1) := by kernel_rfl
theorem q_fi (x0 : Int) (x1 : Int) (x2 : LL) (x3 : Int) (x4 : Int) (x5 : LL) : φ_fi [C.int .i64 x0, C.int .i64 x1, C.list x2, C.int .i64 x3, C.int .i64 x4, C.list x5] = retOf (F_fi x0 x1 x2 x3 x4 x5) := by kernel_rfl
theorem q_co (x0 : Int) : φ_co [C.int .i64 x0] = retOf (F_co x0) := by kernel_rfl
theorem q_ca (x0 : Bool) (x1 : LL) (x2 : Int) (x3 : LL) (x4 : Bool) : φ_ca [C.bool x0, C.list x1, C.int .i64 x2, C.list x3, C.bool x4] = retOf (F_ca x0 x1 x2 x3 x4) := by kernel_rfl
theorem q_fg (x0 : LL) (x1 : Int) (x2 : LL) (x3 : Int) : φ_fg [C.list x0, C.int .i64 x1, C.list x2, C.int .i64 x3] = retOf (F_fg x0 x1 x2 x3) := by kernel_rfl
theorem q_fn (x0 : Int) (x1 : Int) (x2 : Int) : φ_fn [C.int .i64 x0, C.int .i64 x1, C.int .i64 x2] = retOf (F_fn x0 x1 x2) := by kernel_rfl
theorem q_ay (x0 : Int) (x1 : Bool) (x2 : Int) (x3 : LL) (x4 : Int) (x5 : Bool) : φ_ay [C.int .i64 x0, C.bool x1, C.int .i64 x2, C.list x3, C.int .i64 x4, C.bool x5] = retOf (F_ay x0 x1 x2 x3 x4 x5) := by kernel_rfl
theorem q_bd (x0 : Bool) (x1 : LL) (x2 : Int) (x3 : LL) : φ_bd [C.bool x0, C.list x1, C.int .i64 x2, C.list x3] = retOf (F_bd x0 x1 x2 x3) := by kernel_rfl
theorem q_ac (x0 : LL) : φ_ac [C.list x0] = retOf (F_ac x0) := by kernel_rfl
theorem q_al (x0 : LL) : φ_al [C.list x0] = retOf (F_al x0) := by kernel_rfl
theorem q_bz (x0 : Int) (x1 : Int) (x2 : Int) (x3 : Int) : φ_bz [C.int .i64 x0, C.int .i64 x1, C.int .i64 x2, C.int .i64 x3] = retOf (F_bz x0 x1 x2 x3) := by kernel_rfl
theorem q_bl (x0 : Int) : φ_bl [C.int .i64 x0] = retOf (F_bl x0) := by kernel_rfl
theorem q_ch (x0 : Bool) (x1 : LL) (x2 : Int) (x3 : LL) (x4 : Int) (x5 : Int) (x6 : Int) : φ_ch [C.bool x0, C.list x1, C.int .i64 x2, C.list x3, C.int .i64 x4, C.int .i64 x5, C.int .i64 x6] = retOf (F_ch x0 x1 x2 x3 x4 x5 x6) := by kernel_rfl
theorem q_dh (x0 : Int) : φ_dh [C.int .i64 x0] = retOf (F_dh x0) := by kernel_rfl
theorem q_bc (x0 : Int) (x1 : Int) (x2 : Int) (x3 : Int) : φ_bc [C.int .i64 x0, C.int .i64 x1, C.int .i64 x2, C.int .i64 x3] = retOf (F_bc x0 x1 x2 x3) := by kernel_rfl
end Dx
