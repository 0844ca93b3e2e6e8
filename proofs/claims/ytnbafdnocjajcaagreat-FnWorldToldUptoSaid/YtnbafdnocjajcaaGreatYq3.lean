/- The typed texts are the trees'. -/
import Derived.Test.YtnbafdnocjajcaaGreatYb
set_option linter.all false
set_option linter.unusedVariables false
set_option linter.unusedSimpArgs false
set_option linter.unnecessarySimpa false
namespace Dx
open Go
theorem q_ci (x0 : Bool) (x1 : LL) (x2 : Int) (x3 : LL) (x4 : Int) : φ_ci [C.bool x0, C.list x1, C.int .i64 x2, C.list x3, C.int .i64 x4] = retOf (F_ci x0 x1 x2 x3 x4) := by kernel_rfl
theorem q_cp (x0 : Bool) (x1 : LL) (x2 : Int) (x3 : LL) (x4 : LL) (x5 : LL) (x6 : Int) (x7 : Int) (x8 : Int) (x9 : LL) : φ_cp [C.bool x0, C.list x1, C.int .i64 x2, C.list x3, C.list x4, C.list x5, C.int .i64 x6, C.int .i64 x7, C.int .i64 x8, C.list x9] = retOf (F_cp x0 x1 x2 x3 x4 x5 x6 x7 x8 x9) := by kernel_rfl
theorem q_dg (x0 : Int) (x1 : Bool) (x2 : Int) (x3 : LL) (x4 : Int) (x5 : Int) (x6 : Int) (x7 : Int) (x8 : Int) : φ_dg [C.int .i64 x0, C.bool x1, C.int .i64 x2, C.list x3, C.int .i64 x4, C.int .i64 x5, C.int .i64 x6, C.int .i64 x7, C.int .i64 x8] = retOf (F_dg x0 x1 x2 x3 x4 x5 x6 x7 x8) := by kernel_rfl
theorem q_fa (x0 : Bool) (x1 : LL) (x2 : Int) (x3 : LL) (x4 : LL) (x5 : LL) (x6 : Int) (x7 : Int) (x8 : Int) (x9 : LL) : φ_fa [C.bool x0, C.list x1, C.int .i64 x2, C.list x3, C.list x4, C.list x5, C.int .i64 x6, C.int .i64 x7, C.int .i64 x8, C.list x9] = retOf (F_fa x0 x1 x2 x3 x4 x5 x6 x7 x8 x9) := by kernel_rfl
theorem q_dj (x0 : Bool) (x1 : LL) (x2 : Int) (x3 : LL) (x4 : LL) (x5 : LL) (x6 : Int) (x7 : Int) (x8 : Int) (x9 : LL) : φ_dj [C.bool x0, C.list x1, C.int .i64 x2, C.list x3, C.list x4, C.list x5, C.int .i64 x6, C.int .i64 x7, C.int .i64 x8, C.list x9] = retOf (F_dj x0 x1 x2 x3 x4 x5 x6 x7 x8 x9) := by kernel_rfl
theorem q_bn (x0 : Bool) (x1 : LL) (x2 : Int) (x3 : LL) : φ_bn [C.bool x0, C.list x1, C.int .i64 x2, C.list x3] = retOf (F_bn x0 x1 x2 x3) := by kernel_rfl
theorem q_bw (x0 : LL) (x1 : Int) (x2 : Int) : φ_bw [C.list x0, C.int .i64 x1, C.int .i64 x2] = retOf (F_bw x0 x1 x2) := by kernel_rfl
theorem q_eg (x0 : Bool) (x1 : LL) (x2 : Int) (x3 : LL) (x4 : LL) (x5 : LL) (x6 : Int) (x7 : Int) (x8 : Int) (x9 : LL) : φ_eg [C.bool x0, C.list x1, C.int .i64 x2, C.list x3, C.list x4, C.list x5, C.int .i64 x6, C.int .i64 x7, C.int .i64 x8, C.list x9] = retOf (F_eg x0 x1 x2 x3 x4 x5 x6 x7 x8 x9) := by kernel_rfl
theorem q_ce (x0 : Bool) (x1 : LL) (x2 : Int) (x3 : LL) (x4 : LL) (x5 : LL) (x6 : Int) (x7 : Int) (x8 : Int) (x9 : LL) : φ_ce [C.bool x0, C.list x1, C.int .i64 x2, C.list x3, C.list x4, C.list x5, C.int .i64 x6, C.int .i64 x7, C.int .i64 x8, C.list x9] = retOf (F_ce x0 x1 x2 x3 x4 x5 x6 x7 x8 x9) := by kernel_rfl
theorem q_bx (x0 : Bool) (x1 : LL) (x2 : Int) (x3 : LL) (x4 : Int) (x5 : Int) (x6 : Int) (x7 : Int) : φ_bx [C.bool x0, C.list x1, C.int .i64 x2, C.list x3, C.int .i64 x4, C.int .i64 x5, C.int .i64 x6, C.int .i64 x7] = retOf (F_bx x0 x1 x2 x3 x4 x5 x6 x7) := by kernel_rfl
theorem q_ca (x0 : LL) (x1 : LL) : φ_ca [C.list x0, C.list x1] = retOf (F_ca x0 x1) := by kernel_rfl
theorem q_fi (x0 : Int) (x1 : LL) : φ_fi [C.int .i64 x0, C.list x1] = retOf (F_fi x0 x1) := by kernel_rfl
theorem q_dd (x0 : Int) (x1 : LL) (x2 : Int) (x3 : Int) (x4 : LL) : φ_dd [C.int .i64 x0, C.list x1, C.int .i64 x2, C.int .i64 x3, C.list x4] = retOf (F_dd x0 x1 x2 x3 x4) := by kernel_rfl
theorem q_dn (x0 : Bool) (x1 : LL) (x2 : Int) (x3 : LL) (x4 : LL) (x5 : LL) (x6 : Int) (x7 : Int) (x8 : Int) (x9 : Int) : φ_dn [C.bool x0, C.list x1, C.int .i64 x2, C.list x3, C.list x4, C.list x5, C.int .i64 x6, C.int .i64 x7, C.int .i64 x8, C.int .i64 x9] = retOf (F_dn x0 x1 x2 x3 x4 x5 x6 x7 x8 x9) := by kernel_rfl
theorem q_aa (x0 : Bool) (x1 : LL) (x2 : Int) (x3 : LL) (x4 : LL) (x5 : LL) (x6 : Int) (x7 : Int) (x8 : Int) (x9 : Int) (x10 : LL) (x11 : Int) (x12 : Int) (x13 : Int) (x14 : LL) : φ_aa [C.bool x0, C.list x1, C.int .i64 x2, C.list x3, C.list x4, C.list x5, C.int .i64 x6, C.int .i64 x7, C.int .i64 x8, C.int .i64 x9, C.list x10, C.int .i64 x11, C.int .i64 x12, C.int .i64 x13, C.list x14] = retOf (F_aa x0 x1 x2 x3 x4 x5 x6 x7 x8 x9 x10 x11 x12 x13 x14) := by kernel_rfl
theorem q_at (x0 : LL) : φ_at [C.list x0] = retOf (F_at x0) := by kernel_rfl
theorem q_ab (x0 : Bool) (x1 : LL) (x2 : Int) (x3 : LL) (x4 : LL) (x5 : LL) (x6 : Int) : φ_ab [C.bool x0, C.list x1, C.int .i64 x2, C.list x3, C.list x4, C.list x5, C.int .i64 x6] = retOf (F_ab x0 x1 x2 x3 x4 x5 x6) := by kernel_rfl
theorem q_ej (x0 : Int) (x1 : LL) : φ_ej [C.int .i64 x0, C.list x1] = retOf (F_ej x0 x1) := by kernel_rfl
theorem q_cq (x0 : Bool) (x1 : LL) (x2 : Int) (x3 : LL) (x4 : Int) : φ_cq [C.bool x0, C.list x1, C.int .i64 x2, C.list x3, C.int .i64 x4] = retOf (F_cq x0 x1 x2 x3 x4) := by kernel_rfl
theorem q_er (x0 : LL) : φ_er [C.list x0] = retOf (F_er x0) := by kernel_rfl
theorem q_eo (x0 : Bool) (x1 : LL) (x2 : Int) (x3 : LL) (x4 : Int) (x5 : LL) (x6 : Int) : φ_eo [C.bool x0, C.list x1, C.int .i64 x2, C.list x3, C.int .i64 x4, C.list x5, C.int .i64 x6] = retOf (F_eo x0 x1 x2 x3 x4 x5 x6) := by kernel_rfl
theorem q_ek (x0 : LL) (x1 : LL) : φ_ek [C.list x0, C.list x1] = retOf (F_ek x0 x1) := by kernel_rfl
theorem q_dh (x0 : Int) (x1 : Int) : φ_dh [C.int .i64 x0, C.int .i64 x1] = retOf (F_dh x0 x1) := by kernel_rfl
theorem q_cl (x0 : Int) (x1 : Int) : φ_cl [C.int .i64 x0, C.int .i64 x1] = retOf (F_cl x0 x1) := by kernel_rfl
theorem q_br (x0 : Int) (x1 : Bool) (x2 : Int) (x3 : LL) (x4 : Int) : φ_br [C.int .i64 x0, C.bool x1, C.int .i64 x2, C.list x3, C.int .i64 x4] = retOf (F_br x0 x1 x2 x3 x4) := by kernel_rfl
theorem q_cg (x0 : Bool) (x1 : LL) (x2 : Int) (x3 : LL) : φ_cg [C.bool x0, C.list x1, C.int .i64 x2, C.list x3] = retOf (F_cg x0 x1 x2 x3) := by kernel_rfl
theorem q_ep (x0 : LL) (x1 : Int) (x2 : Int) : φ_ep [C.list x0, C.int .i64 x1, C.int .i64 x2] = retOf (F_ep x0 x1 x2) := by kernel_rfl
theorem q_az (x0 : LL) : φ_az [C.list x0] = retOf (F_az x0) := by kernel_rfl
theorem q_dx (x0 : Int) (x1 : Bool) (x2 : Int) (x3 : LL) (x4 : Int) (x5 : Int) (x6 : Bool) (x7 : Int) (x8 : LL) (x9 : Int) : φ_dx [C.int .i64 x0, C.bool x1, C.int .i64 x2, C.list x3, C.int .i64 x4, C.int .i64 x5, C.bool x6, C.int .i64 x7, C.list x8, C.int .i64 x9] = retOf (F_dx x0 x1 x2 x3 x4 x5 x6 x7 x8 x9) := by kernel_rfl
theorem q_ey (x0 : LL) (x1 : Int) : φ_ey [C.list x0, C.int .i64 x1] = retOf (F_ey x0 x1) := by kernel_rfl
theorem q_bt (x0 : Int) (x1 : Bool) (x2 : Int) (x3 : LL) (x4 : Int) : φ_bt [C.int .i64 x0, C.bool x1, C.int .i64 x2, C.list x3, C.int .i64 x4] = retOf (F_bt x0 x1 x2 x3 x4) := by kernel_rfl
theorem q_de (x0 : Bool) (x1 : LL) (x2 : Int) (x3 : LL) (x4 : Bool) : φ_de [C.bool x0, C.list x1, C.int .i64 x2, C.list x3, C.bool x4] = retOf (F_de x0 x1 x2 x3 x4) := by kernel_rfl
theorem q_cn (x0 : Bool) (x1 : LL) (x2 : Int) (x3 : LL) (x4 : Int) : φ_cn [C.bool x0, C.list x1, C.int .i64 x2, C.list x3, C.int .i64 x4] = retOf (F_cn x0 x1 x2 x3 x4) := by kernel_rfl
theorem q_fc (x0 : LL) (x1 : Int) (x2 : Int) (x3 : Int) (x4 : LL) : φ_fc [C.list x0, C.int .i64 x1, C.int .i64 x2, C.int .i64 x3, C.list x4] = retOf (F_fc x0 x1 x2 x3 x4) := by kernel_rfl
theorem q_ev (x0 : Int) (x1 : Int) (x2 : Int) (x3 : Int) : φ_ev [C.int .i64 x0, C.int .i64 x1, C.int .i64 x2, C.int .i64 x3] = retOf (F_ev x0 x1 x2 x3) := by kernel_rfl
theorem q_bl (x0 : Int) (x1 : Bool) (x2 : Int) (x3 : LL) (x4 : Int) (x5 : Bool) : φ_bl [C.int .i64 x0, C.bool x1, C.int .i64 x2, C.list x3, C.int .i64 x4, C.bool x5] = retOf (F_bl x0 x1 x2 x3 x4 x5) := by kernel_rfl
theorem q_ck (x0 : Bool) (x1 : LL) (x2 : Int) (x3 : LL) (x4 : Bool) : φ_ck [C.bool x0, C.list x1, C.int .i64 x2, C.list x3, C.bool x4] = retOf (F_ck x0 x1 x2 x3 x4) := by kernel_rfl
theorem q_ef (x0 : LL) : φ_ef [C.list x0] = retOf (F_ef x0) := by kernel_rfl
theorem q_fj (x0 : Int) (x1 : Int) (x2 : Int) : φ_fj [C.int .i64 x0, C.int .i64 x1, C.int .i64 x2] = retOf (F_fj x0 x1 x2) := by kernel_rfl
theorem q_ax (x0 : Int) (x1 : Bool) (x2 : Int) (x3 : LL) (x4 : Int) (x5 : Bool) : φ_ax [C.int .i64 x0, C.bool x1, C.int .i64 x2, C.list x3, C.int .i64 x4, C.bool x5] = retOf (F_ax x0 x1 x2 x3 x4 x5) := by kernel_rfl
theorem q_bc (x0 : Bool) (x1 : LL) (x2 : Int) (x3 : LL) : φ_bc [C.bool x0, C.list x1, C.int .i64 x2, C.list x3] = retOf (F_bc x0 x1 x2 x3) := by kernel_rfl
theorem q_ae (x0 : LL) : φ_ae [C.list x0] = retOf (F_ae x0) := by kernel_rfl
theorem q_ai (x0 : LL) : φ_ai [C.list x0] = retOf (F_ai x0) := by kernel_rfl
theorem q_av (x0 : Int) (x1 : Bool) (x2 : Int) (x3 : LL) (x4 : Int) : φ_av [C.int .i64 x0, C.bool x1, C.int .i64 x2, C.list x3, C.int .i64 x4] = retOf (F_av x0 x1 x2 x3 x4) := by kernel_rfl
theorem q_ch (x0 : Bool) (x1 : LL) (x2 : Int) (x3 : LL) (x4 : Int) (x5 : Int) (x6 : Int) : φ_ch [C.bool x0, C.list x1, C.int .i64 x2, C.list x3, C.int .i64 x4, C.int .i64 x5, C.int .i64 x6] = retOf (F_ch x0 x1 x2 x3 x4 x5 x6) := by kernel_rfl
theorem q_bh (x0 : Int) (x1 : Int) (x2 : LL) : φ_bh [C.int .i64 x0, C.int .i64 x1, C.list x2] = retOf (F_bh x0 x1 x2) := by kernel_rfl
theorem q_dm (x0 : Int) : φ_dm [C.int .i64 x0] = retOf (F_dm x0) := by kernel_rfl
end Dx
