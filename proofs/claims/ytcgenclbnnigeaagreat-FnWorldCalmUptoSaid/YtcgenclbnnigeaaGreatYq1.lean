/- The typed texts are the trees'. -/
import Derived.Test.YtcgenclbnnigeaaGreatYb
set_option linter.all false
set_option linter.unusedVariables false
set_option linter.unusedSimpArgs false
set_option linter.unnecessarySimpa false
namespace Dx
open Go
theorem q_ep (x0 : Bool) (x1 : LL) (x2 : Int) (x3 : LL) (x4 : LL) (x5 : LL) (x6 : Int) : φ_ep [C.bool x0, C.list x1, C.int .i64 x2, C.list x3, C.list x4, C.list x5, C.int .i64 x6] = retOf (F_ep x0 x1 x2 x3 x4 x5 x6) := by kernel_rfl
theorem q_aw (x0 : Int) (x1 : Bool) (x2 : Int) (x3 : LL) (x4 : Int) (x5 : Int) (x6 : Int) (x7 : Int) (x8 : Int) : φ_aw [C.int .i64 x0, C.bool x1, C.int .i64 x2, C.list x3, C.int .i64 x4, C.int .i64 x5, C.int .i64 x6, C.int .i64 x7, C.int .i64 x8] = retOf (F_aw x0 x1 x2 x3 x4 x5 x6 x7 x8) := by kernel_rfl
theorem q_cj (x0 : LL) (x1 : Int) (x2 : Int) : φ_cj [C.list x0, C.int .i64 x1, C.int .i64 x2] = retOf (F_cj x0 x1 x2) := by kernel_rfl
theorem q_cx (x0 : Int) (x1 : Bool) (x2 : Int) (x3 : LL) (x4 : Int) (x5 : Int) (x6 : Int) (x7 : Int) (x8 : Int) (x9 : Int) : φ_cx [C.int .i64 x0, C.bool x1, C.int .i64 x2, C.list x3, C.int .i64 x4, C.int .i64 x5, C.int .i64 x6, C.int .i64 x7, C.int .i64 x8, C.int .i64 x9] = retOf (F_cx x0 x1 x2 x3 x4 x5 x6 x7 x8 x9) := by kernel_rfl
theorem q_fm (x0 : Bool) (x1 : LL) (x2 : Int) (x3 : LL) : φ_fm [C.bool x0, C.list x1, C.int .i64 x2, C.list x3] = retOf (F_fm x0 x1 x2 x3) := by kernel_rfl
theorem q_spec_l12Do (x0 : LL) (x1 : Int) (x2 : Int) (x3 : LL) : φ_spec_l12Do [C.list x0, C.int .i64 x1, C.int .i64 x2, C.list x3] = retOf (F_spec_l12Do x0 x1 x2 x3) := by kernel_rfl
theorem q_cm (x0 : LL) (x1 : LL) : φ_cm [C.list x0, C.list x1] = retOf (F_cm x0 x1) := by kernel_rfl
theorem q_dy (x0 : Bool) (x1 : LL) (x2 : Int) (x3 : LL) (x4 : Int) (x5 : Int) (x6 : Int) (x7 : Int) : φ_dy [C.bool x0, C.list x1, C.int .i64 x2, C.list x3, C.int .i64 x4, C.int .i64 x5, C.int .i64 x6, C.int .i64 x7] = retOf (F_dy x0 x1 x2 x3 x4 x5 x6 x7) := by kernel_rfl
theorem q_gc (x0 : Int) (x1 : LL) : φ_gc [C.int .i64 x0, C.list x1] = retOf (F_gc x0 x1) := by kernel_rfl
theorem q_cd (x0 : Bool) (x1 : LL) (x2 : Int) (x3 : LL) (x4 : Int) (x5 : Int) (x6 : LL) : φ_cd [C.bool x0, C.list x1, C.int .i64 x2, C.list x3, C.int .i64 x4, C.int .i64 x5, C.list x6] = retOf (F_cd x0 x1 x2 x3 x4 x5 x6) := by kernel_rfl
theorem q_eb (x0 : Bool) (x1 : LL) (x2 : Int) (x3 : LL) (x4 : LL) (x5 : LL) (x6 : Int) (x7 : Int) (x8 : Int) (x9 : Int) : φ_eb [C.bool x0, C.list x1, C.int .i64 x2, C.list x3, C.list x4, C.list x5, C.int .i64 x6, C.int .i64 x7, C.int .i64 x8, C.int .i64 x9] = retOf (F_eb x0 x1 x2 x3 x4 x5 x6 x7 x8 x9) := by kernel_rfl
theorem q_az (x0 : Bool) (x1 : LL) (x2 : Int) (x3 : LL) (x4 : LL) (x5 : LL) (x6 : Int) (x7 : Int) (x8 : Int) (x9 : Int) : φ_az [C.bool x0, C.list x1, C.int .i64 x2, C.list x3, C.list x4, C.list x5, C.int .i64 x6, C.int .i64 x7, C.int .i64 x8, C.int .i64 x9] = retOf (F_az x0 x1 x2 x3 x4 x5 x6 x7 x8 x9) := by kernel_rfl
theorem q_fk (x0 : LL) (x1 : Int) (x2 : Int) (x3 : LL) : φ_fk [C.list x0, C.int .i64 x1, C.int .i64 x2, C.list x3] = retOf (F_fk x0 x1 x2 x3) := by kernel_rfl
theorem q_ab (x0 : Bool) (x1 : LL) (x2 : Int) (x3 : LL) (x4 : LL) (x5 : LL) (x6 : Int) : φ_ab [C.bool x0, C.list x1, C.int .i64 x2, C.list x3, C.list x4, C.list x5, C.int .i64 x6] = retOf (F_ab x0 x1 x2 x3 x4 x5 x6) := by kernel_rfl
theorem q_ba (x0 : Bool) (x1 : LL) (x2 : Int) (x3 : LL) (x4 : LL) (x5 : LL) : φ_ba [C.bool x0, C.list x1, C.int .i64 x2, C.list x3, C.list x4, C.list x5] = retOf (F_ba x0 x1 x2 x3 x4 x5) := by kernel_rfl
theorem q_ez (x0 : Int) (x1 : LL) : φ_ez [C.int .i64 x0, C.list x1] = retOf (F_ez x0 x1) := by kernel_rfl
theorem q_fr (x0 : Int) (x1 : Int) (x2 : LL) : φ_fr [C.int .i64 x0, C.int .i64 x1, C.list x2] = retOf (F_fr x0 x1 x2) := by kernel_rfl
theorem q_fq (x0 : LL) : φ_fq [C.list x0] = retOf (F_fq x0) := by kernel_rfl
theorem q_fj (x0 : Bool) (x1 : LL) (x2 : Int) (x3 : LL) (x4 : Int) (x5 : LL) (x6 : Int) : φ_fj [C.bool x0, C.list x1, C.int .i64 x2, C.list x3, C.int .i64 x4, C.list x5, C.int .i64 x6] = retOf (F_fj x0 x1 x2 x3 x4 x5 x6) := by kernel_rfl
theorem q_fc (x0 : Bool) (x1 : LL) (x2 : Int) (x3 : LL) (x4 : Int) (x5 : LL) (x6 : Int) : φ_fc [C.bool x0, C.list x1, C.int .i64 x2, C.list x3, C.int .i64 x4, C.list x5, C.int .i64 x6] = retOf (F_fc x0 x1 x2 x3 x4 x5 x6) := by kernel_rfl
theorem q_ek (x0 : Int) (x1 : Int) : φ_ek [C.int .i64 x0, C.int .i64 x1] = retOf (F_ek x0 x1) := by kernel_rfl
theorem q_dt (x0 : Bool) (x1 : LL) (x2 : Int) (x3 : LL) (x4 : Int) (x5 : Int) (x6 : LL) : φ_dt [C.bool x0, C.list x1, C.int .i64 x2, C.list x3, C.int .i64 x4, C.int .i64 x5, C.list x6] = retOf (F_dt x0 x1 x2 x3 x4 x5 x6) := by kernel_rfl
theorem q_bx (x0 : Int) (x1 : Bool) (x2 : Int) (x3 : LL) (x4 : Int) : φ_bx [C.int .i64 x0, C.bool x1, C.int .i64 x2, C.list x3, C.int .i64 x4] = retOf (F_bx x0 x1 x2 x3 x4) := by kernel_rfl
theorem q_eo (x0 : LL) (x1 : Int) (x2 : Int) (x3 : Int) (x4 : Int) : φ_eo [C.list x0, C.int .i64 x1, C.int .i64 x2, C.int .i64 x3, C.int .i64 x4] = retOf (F_eo x0 x1 x2 x3 x4) := by kernel_rfl
theorem q_as (x0 : LL) (x1 : Int) (x2 : Int) (x3 : Int) (x4 : Int) : φ_as [C.list x0, C.int .i64 x1, C.int .i64 x2, C.int .i64 x3, C.int .i64 x4] = retOf (F_as x0 x1 x2 x3 x4) := by kernel_rfl
theorem q_ah (x0 : LL) : φ_ah [C.list x0] = retOf (F_ah x0) := by kernel_rfl
theorem q_ai (x0 : LL) : φ_ai [C.list x0] = retOf (F_ai x0) := by kernel_rfl
theorem q_an (x0 : LL) : φ_an [C.list x0] = retOf (F_an x0) := by kernel_rfl
theorem q_dj (x0 : Int) (x1 : Bool) (x2 : Int) (x3 : LL) (x4 : Int) (x5 : Bool) : φ_dj [C.int .i64 x0, C.bool x1, C.int .i64 x2, C.list x3, C.int .i64 x4, C.bool x5] = retOf (F_dj x0 x1 x2 x3 x4 x5) := by kernel_rfl
theorem q_de (x0 : Bool) (x1 : LL) (x2 : Int) (x3 : LL) : φ_de [C.bool x0, C.list x1, C.int .i64 x2, C.list x3] = retOf (F_de x0 x1 x2 x3) := by kernel_rfl
theorem q_dq (x0 : Bool) (x1 : LL) (x2 : Int) (x3 : LL) (x4 : Bool) : φ_dq [C.bool x0, C.list x1, C.int .i64 x2, C.list x3, C.bool x4] = retOf (F_dq x0 x1 x2 x3 x4) := by kernel_rfl
theorem q_du (x0 : Bool) (x1 : LL) (x2 : Int) (x3 : LL) (x4 : Int) : φ_du [C.bool x0, C.list x1, C.int .i64 x2, C.list x3, C.int .i64 x4] = retOf (F_du x0 x1 x2 x3 x4) := by kernel_rfl
theorem q_fh (x0 : Bool) (x1 : LL) (x2 : Int) (x3 : LL) (x4 : Bool) (x5 : LL) (x6 : Int) (x7 : LL) : φ_fh [C.bool x0, C.list x1, C.int .i64 x2, C.list x3, C.bool x4, C.list x5, C.int .i64 x6, C.list x7] = retOf (F_fh x0 x1 x2 x3 x4 x5 x6 x7) := by kernel_rfl
theorem q_dl (x0 : Int) : φ_dl [C.int .i64 x0] = retOf (F_dl x0) := by kernel_rfl
theorem q_by (x0 : Int) (x1 : Bool) (x2 : Int) (x3 : LL) (x4 : Int) (x5 : Bool) : φ_by [C.int .i64 x0, C.bool x1, C.int .i64 x2, C.list x3, C.int .i64 x4, C.bool x5] = retOf (F_by x0 x1 x2 x3 x4 x5) := by kernel_rfl
theorem q_cs (x0 : Bool) (x1 : LL) (x2 : Int) (x3 : LL) (x4 : Bool) : φ_cs [C.bool x0, C.list x1, C.int .i64 x2, C.list x3, C.bool x4] = retOf (F_cs x0 x1 x2 x3 x4) := by kernel_rfl
theorem q_cy (x0 : Bool) (x1 : LL) (x2 : Int) (x3 : LL) : φ_cy [C.bool x0, C.list x1, C.int .i64 x2, C.list x3] = retOf (F_cy x0 x1 x2 x3) := by kernel_rfl
theorem q_gb (x0 : Int) (x1 : Int) (x2 : Int) : φ_gb [C.int .i64 x0, C.int .i64 x1, C.int .i64 x2] = retOf (F_gb x0 x1 x2) := by kernel_rfl
theorem q_bv (x0 : Bool) (x1 : LL) (x2 : Int) (x3 : LL) (x4 : Int) (x5 : Int) (x6 : Int) (x7 : LL) : φ_bv [C.bool x0, C.list x1, C.int .i64 x2, C.list x3, C.int .i64 x4, C.int .i64 x5, C.int .i64 x6, C.list x7] = retOf (F_bv x0 x1 x2 x3 x4 x5 x6 x7) := by kernel_rfl
theorem q_ap (x0 : LL) (x1 : Int) (x2 : Int) (x3 : Int) (x4 : Int) : φ_ap [C.list x0, C.int .i64 x1, C.int .i64 x2, C.int .i64 x3, C.int .i64 x4] = retOf (F_ap x0 x1 x2 x3 x4) := by kernel_rfl
theorem q_ad (x0 : LL) : φ_ad [C.list x0] = retOf (F_ad x0) := by kernel_rfl
theorem q_aj (x0 : LL) : φ_aj [C.list x0] = retOf (F_aj x0) := by kernel_rfl
theorem q_ak (x0 : LL) : φ_ak [C.list x0] = retOf (F_ak x0) := by kernel_rfl
theorem q_bb (x0 : Int) (x1 : Bool) (x2 : Int) (x3 : LL) (x4 : Int) : φ_bb [C.int .i64 x0, C.bool x1, C.int .i64 x2, C.list x3, C.int .i64 x4] = retOf (F_bb x0 x1 x2 x3 x4) := by kernel_rfl
theorem q_cp (x0 : Int) (x1 : Int) : φ_cp [C.int .i64 x0, C.int .i64 x1] = retOf (F_cp x0 x1) := by kernel_rfl
theorem q_eq : φ_eq [] = retOf (F_eq) := by kernel_rfl
theorem q_bo (x0 : Int) (x1 : Int) (x2 : Int) (x3 : Int) : φ_bo [C.int .i64 x0, C.int .i64 x1, C.int .i64 x2, C.int .i64 x3] = retOf (F_bo x0 x1 x2 x3) := by kernel_rfl
theorem q_cf (x0 : Int) : φ_cf [C.int .i64 x0] = retOf (F_cf x0) := by kernel_rfl
end Dx
