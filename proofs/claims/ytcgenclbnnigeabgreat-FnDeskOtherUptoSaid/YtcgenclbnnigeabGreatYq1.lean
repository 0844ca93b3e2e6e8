/- The typed texts are the trees'. -/
import Derived.Test.YtcgenclbnnigeabGreatYb
set_option linter.all false
set_option linter.unusedVariables false
set_option linter.unusedSimpArgs false
set_option linter.unnecessarySimpa false
namespace Dx
open Go
theorem q_cf (x0 : Bool) (x1 : LL) (x2 : Int) (x3 : LL) (x4 : LL) (x5 : LL) (x6 : Int) : φ_cf [C.bool x0, C.list x1, C.int .i64 x2, C.list x3, C.list x4, C.list x5, C.int .i64 x6] = retOf (F_cf x0 x1 x2 x3 x4 x5 x6) := by kernel_rfl
theorem q_cg (x0 : LL) (x1 : Int) : φ_cg [C.list x0, C.int .i64 x1] = retOf (F_cg x0 x1) := by kernel_rfl
theorem q_cj (x0 : LL) (x1 : Int) : φ_cj [C.list x0, C.int .i64 x1] = retOf (F_cj x0 x1) := by kernel_rfl
theorem q_dt (x0 : Int) (x1 : Int) (x2 : LL) : φ_dt [C.int .i64 x0, C.int .i64 x1, C.list x2] = retOf (F_dt x0 x1 x2) := by kernel_rfl
theorem q_spec_l12Do (x0 : LL) (x1 : Int) (x2 : Int) (x3 : LL) : φ_spec_l12Do [C.list x0, C.int .i64 x1, C.int .i64 x2, C.list x3] = retOf (F_spec_l12Do x0 x1 x2 x3) := by kernel_rfl
theorem q_cc (x0 : Bool) (x1 : LL) (x2 : Int) (x3 : LL) (x4 : Int) (x5 : Int) (x6 : Int) (x7 : Int) : φ_cc [C.bool x0, C.list x1, C.int .i64 x2, C.list x3, C.int .i64 x4, C.int .i64 x5, C.int .i64 x6, C.int .i64 x7] = retOf (F_cc x0 x1 x2 x3 x4 x5 x6 x7) := by kernel_rfl
theorem q_spec_l2Do (x0 : Int) (x1 : LL) (x2 : Int) (x3 : Int) (x4 : LL) : φ_spec_l2Do [C.int .i64 x0, C.list x1, C.int .i64 x2, C.int .i64 x3, C.list x4] = retOf (F_spec_l2Do x0 x1 x2 x3 x4) := by kernel_rfl
theorem q_dn (x0 : LL) (x1 : Int) (x2 : Int) (x3 : LL) : φ_dn [C.list x0, C.int .i64 x1, C.int .i64 x2, C.list x3] = retOf (F_dn x0 x1 x2 x3) := by kernel_rfl
theorem q_dg (x0 : Int) (x1 : Int) (x2 : Int) (x3 : Int) : φ_dg [C.int .i64 x0, C.int .i64 x1, C.int .i64 x2, C.int .i64 x3] = retOf (F_dg x0 x1 x2 x3) := by kernel_rfl
theorem q_dz (x0 : Int) (x1 : Int) (x2 : LL) : φ_dz [C.int .i64 x0, C.int .i64 x1, C.list x2] = retOf (F_dz x0 x1 x2) := by kernel_rfl
theorem q_cw (x0 : LL) : φ_cw [C.list x0] = retOf (F_cw x0) := by kernel_rfl
theorem q_df (x0 : Bool) (x1 : LL) (x2 : Int) (x3 : LL) (x4 : Int) (x5 : LL) (x6 : Int) : φ_df [C.bool x0, C.list x1, C.int .i64 x2, C.list x3, C.int .i64 x4, C.list x5, C.int .i64 x6] = retOf (F_df x0 x1 x2 x3 x4 x5 x6) := by kernel_rfl
theorem q_dp (x0 : LL) (x1 : LL) : φ_dp [C.list x0, C.list x1] = retOf (F_dp x0 x1) := by kernel_rfl
theorem q_bx (x0 : Int) (x1 : Int) : φ_bx [C.int .i64 x0, C.int .i64 x1] = retOf (F_bx x0 x1) := by kernel_rfl
theorem q_ck (x0 : LL) : φ_ck [C.list x0] = retOf (F_ck x0) := by kernel_rfl
theorem q_bw (x0 : Bool) (x1 : LL) (x2 : Int) (x3 : LL) (x4 : Int) (x5 : Int) (x6 : Int) (x7 : Int) : φ_bw [C.bool x0, C.list x1, C.int .i64 x2, C.list x3, C.int .i64 x4, C.int .i64 x5, C.int .i64 x6, C.int .i64 x7] = retOf (F_bw x0 x1 x2 x3 x4 x5 x6 x7) := by kernel_rfl
theorem q_cz (x0 : LL) (x1 : Int) (x2 : Int) : φ_cz [C.list x0, C.int .i64 x1, C.int .i64 x2] = retOf (F_cz x0 x1 x2) := by kernel_rfl
theorem q_ac (x0 : LL) : φ_ac [C.list x0] = retOf (F_ac x0) := by kernel_rfl
theorem q_bl (x0 : Int) (x1 : Bool) (x2 : Int) (x3 : LL) (x4 : Int) (x5 : Bool) : φ_bl [C.int .i64 x0, C.bool x1, C.int .i64 x2, C.list x3, C.int .i64 x4, C.bool x5] = retOf (F_bl x0 x1 x2 x3 x4 x5) := by kernel_rfl
theorem q_bp (x0 : Bool) (x1 : LL) (x2 : Int) (x3 : LL) (x4 : Bool) : φ_bp [C.bool x0, C.list x1, C.int .i64 x2, C.list x3, C.bool x4] = retOf (F_bp x0 x1 x2 x3 x4) := by kernel_rfl
theorem q_bk (x0 : LL) (x1 : Int) : φ_bk [C.list x0, C.int .i64 x1] = retOf (F_bk x0 x1) := by kernel_rfl
theorem q_da (x0 : Bool) (x1 : LL) (x2 : Int) (x3 : LL) (x4 : Bool) (x5 : LL) (x6 : Int) (x7 : LL) : φ_da [C.bool x0, C.list x1, C.int .i64 x2, C.list x3, C.bool x4, C.list x5, C.int .i64 x6, C.list x7] = retOf (F_da x0 x1 x2 x3 x4 x5 x6 x7) := by kernel_rfl
theorem q_dy (x0 : Int) (x1 : Int) (x2 : LL) (x3 : Int) (x4 : Int) (x5 : LL) : φ_dy [C.int .i64 x0, C.int .i64 x1, C.list x2, C.int .i64 x3, C.int .i64 x4, C.list x5] = retOf (F_dy x0 x1 x2 x3 x4 x5) := by kernel_rfl
theorem q_bj (x0 : Bool) (x1 : LL) (x2 : Int) (x3 : LL) (x4 : Bool) : φ_bj [C.bool x0, C.list x1, C.int .i64 x2, C.list x3, C.bool x4] = retOf (F_bj x0 x1 x2 x3 x4) := by kernel_rfl
theorem q_bg (x0 : Bool) (x1 : LL) (x2 : Int) (x3 : LL) : φ_bg [C.bool x0, C.list x1, C.int .i64 x2, C.list x3] = retOf (F_bg x0 x1 x2 x3) := by kernel_rfl
theorem q_ec (x0 : Int) (x1 : Int) (x2 : Int) : φ_ec [C.int .i64 x0, C.int .i64 x1, C.int .i64 x2] = retOf (F_ec x0 x1 x2) := by kernel_rfl
theorem q_ap (x0 : Bool) (x1 : LL) (x2 : Int) (x3 : LL) : φ_ap [C.bool x0, C.list x1, C.int .i64 x2, C.list x3] = retOf (F_ap x0 x1 x2 x3) := by kernel_rfl
theorem q_ab (x0 : LL) : φ_ab [C.list x0] = retOf (F_ab x0) := by kernel_rfl
theorem q_ae (x0 : LL) : φ_ae [C.list x0] = retOf (F_ae x0) := by kernel_rfl
theorem q_av (x0 : Int) : φ_av [C.int .i64 x0] = retOf (F_av x0) := by kernel_rfl
theorem q_au (x0 : Int) (x1 : Int) (x2 : LL) : φ_au [C.int .i64 x0, C.int .i64 x1, C.list x2] = retOf (F_au x0 x1 x2) := by kernel_rfl
theorem q_ci (x0 : Int) : φ_ci [C.int .i64 x0] = retOf (F_ci x0) := by kernel_rfl
theorem q_ay (x0 : Int) : φ_ay [C.int .i64 x0] = retOf (F_ay x0) := by kernel_rfl
end Dx
