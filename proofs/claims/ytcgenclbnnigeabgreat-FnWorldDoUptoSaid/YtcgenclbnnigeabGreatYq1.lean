/- The typed texts are the trees'. -/
import Derived.Test.YtcgenclbnnigeabGreatYb
set_option linter.all false
set_option linter.unusedVariables false
set_option linter.unusedSimpArgs false
set_option linter.unnecessarySimpa false
namespace Dx
open Go
theorem q_dm (x0 : Bool) (x1 : LL) (x2 : Int) (x3 : LL) (x4 : LL) (x5 : LL) (x6 : Int) : φ_dm [C.bool x0, C.list x1, C.int .i64 x2, C.list x3, C.list x4, C.list x5, C.int .i64 x6] = retOf (F_dm x0 x1 x2 x3 x4 x5 x6) := by kernel_rfl
theorem q_au (x0 : Int) (x1 : Bool) (x2 : Int) (x3 : LL) (x4 : Int) (x5 : Int) (x6 : Int) (x7 : Int) (x8 : Int) : φ_au [C.int .i64 x0, C.bool x1, C.int .i64 x2, C.list x3, C.int .i64 x4, C.int .i64 x5, C.int .i64 x6, C.int .i64 x7, C.int .i64 x8] = retOf (F_au x0 x1 x2 x3 x4 x5 x6 x7 x8) := by kernel_rfl
theorem q_ed (x0 : Bool) (x1 : LL) (x2 : Int) (x3 : LL) (x4 : LL) (x5 : LL) (x6 : Int) (x7 : Int) (x8 : Int) (x9 : LL) : φ_ed [C.bool x0, C.list x1, C.int .i64 x2, C.list x3, C.list x4, C.list x5, C.int .i64 x6, C.int .i64 x7, C.int .i64 x8, C.list x9] = retOf (F_ed x0 x1 x2 x3 x4 x5 x6 x7 x8 x9) := by kernel_rfl
theorem q_dj (x0 : Bool) (x1 : LL) (x2 : Int) (x3 : LL) (x4 : LL) (x5 : LL) : φ_dj [C.bool x0, C.list x1, C.int .i64 x2, C.list x3, C.list x4, C.list x5] = retOf (F_dj x0 x1 x2 x3 x4 x5) := by kernel_rfl
theorem q_ez (x0 : Bool) (x1 : LL) (x2 : Int) (x3 : LL) : φ_ez [C.bool x0, C.list x1, C.int .i64 x2, C.list x3] = retOf (F_ez x0 x1 x2 x3) := by kernel_rfl
theorem q_fs (x0 : Int) (x1 : Int) (x2 : LL) : φ_fs [C.int .i64 x0, C.int .i64 x1, C.list x2] = retOf (F_fs x0 x1 x2) := by kernel_rfl
theorem q_bz (x0 : Bool) (x1 : LL) (x2 : Int) (x3 : LL) (x4 : Int) (x5 : Int) (x6 : Int) (x7 : Int) : φ_bz [C.bool x0, C.list x1, C.int .i64 x2, C.list x3, C.int .i64 x4, C.int .i64 x5, C.int .i64 x6, C.int .i64 x7] = retOf (F_bz x0 x1 x2 x3 x4 x5 x6 x7) := by kernel_rfl
theorem q_em (x0 : Bool) (x1 : LL) (x2 : Int) (x3 : LL) (x4 : LL) (x5 : LL) : φ_em [C.bool x0, C.list x1, C.int .i64 x2, C.list x3, C.list x4, C.list x5] = retOf (F_em x0 x1 x2 x3 x4 x5) := by kernel_rfl
theorem q_cx (x0 : Int) (x1 : LL) (x2 : Int) (x3 : Int) (x4 : LL) : φ_cx [C.int .i64 x0, C.list x1, C.int .i64 x2, C.int .i64 x3, C.list x4] = retOf (F_cx x0 x1 x2 x3 x4) := by kernel_rfl
theorem q_spec_l2Do (x0 : Int) (x1 : LL) (x2 : Int) (x3 : Int) (x4 : LL) : φ_spec_l2Do [C.int .i64 x0, C.list x1, C.int .i64 x2, C.int .i64 x3, C.list x4] = retOf (F_spec_l2Do x0 x1 x2 x3 x4) := by kernel_rfl
theorem q_do (x0 : Int) (x1 : LL) (x2 : Int) (x3 : Int) (x4 : LL) : φ_do [C.int .i64 x0, C.list x1, C.int .i64 x2, C.int .i64 x3, C.list x4] = retOf (F_do x0 x1 x2 x3 x4) := by kernel_rfl
theorem q_ff (x0 : LL) (x1 : Int) (x2 : Int) (x3 : LL) : φ_ff [C.list x0, C.int .i64 x1, C.int .i64 x2, C.list x3] = retOf (F_ff x0 x1 x2 x3) := by kernel_rfl
theorem q_cl (x0 : Bool) (x1 : LL) (x2 : Int) (x3 : LL) (x4 : LL) : φ_cl [C.bool x0, C.list x1, C.int .i64 x2, C.list x3, C.list x4] = retOf (F_cl x0 x1 x2 x3 x4) := by kernel_rfl
theorem q_dl (x0 : LL) (x1 : LL) : φ_dl [C.list x0, C.list x1] = retOf (F_dl x0 x1) := by kernel_rfl
theorem q_fc (x0 : Int) (x1 : Int) (x2 : Int) (x3 : Int) : φ_fc [C.int .i64 x0, C.int .i64 x1, C.int .i64 x2, C.int .i64 x3] = retOf (F_fc x0 x1 x2 x3) := by kernel_rfl
theorem q_cr (x0 : Bool) (x1 : LL) (x2 : Int) (x3 : LL) (x4 : Int) : φ_cr [C.bool x0, C.list x1, C.int .i64 x2, C.list x3, C.int .i64 x4] = retOf (F_cr x0 x1 x2 x3 x4) := by kernel_rfl
theorem q_fg (x0 : LL) (x1 : LL) : φ_fg [C.list x0, C.list x1] = retOf (F_fg x0 x1) := by kernel_rfl
theorem q_bm (x0 : Int) (x1 : LL) : φ_bm [C.int .i64 x0, C.list x1] = retOf (F_bm x0 x1) := by kernel_rfl
theorem q_dn (x0 : Bool) (x1 : LL) (x2 : Int) (x3 : LL) (x4 : LL) (x5 : LL) (x6 : Int) (x7 : Int) (x8 : Int) (x9 : LL) : φ_dn [C.bool x0, C.list x1, C.int .i64 x2, C.list x3, C.list x4, C.list x5, C.int .i64 x6, C.int .i64 x7, C.int .i64 x8, C.list x9] = retOf (F_dn x0 x1 x2 x3 x4 x5 x6 x7 x8 x9) := by kernel_rfl
theorem q_bu (x0 : LL) (x1 : Int) (x2 : Int) (x3 : Int) : φ_bu [C.list x0, C.int .i64 x1, C.int .i64 x2, C.int .i64 x3] = retOf (F_bu x0 x1 x2 x3) := by kernel_rfl
theorem q_er (x0 : Int) (x1 : Int) : φ_er [C.int .i64 x0, C.int .i64 x1] = retOf (F_er x0 x1) := by kernel_rfl
theorem q_cz (x0 : Bool) (x1 : LL) (x2 : Int) (x3 : LL) (x4 : Int) (x5 : Int) (x6 : LL) : φ_cz [C.bool x0, C.list x1, C.int .i64 x2, C.list x3, C.int .i64 x4, C.int .i64 x5, C.list x6] = retOf (F_cz x0 x1 x2 x3 x4 x5 x6) := by kernel_rfl
theorem q_en (x0 : Int) (x1 : LL) : φ_en [C.int .i64 x0, C.list x1] = retOf (F_en x0 x1) := by kernel_rfl
theorem q_cb (x0 : Bool) (x1 : LL) (x2 : Int) (x3 : LL) : φ_cb [C.bool x0, C.list x1, C.int .i64 x2, C.list x3] = retOf (F_cb x0 x1 x2 x3) := by kernel_rfl
theorem q_dt (x0 : LL) (x1 : Int) (x2 : Int) : φ_dt [C.list x0, C.int .i64 x1, C.int .i64 x2] = retOf (F_dt x0 x1 x2) := by kernel_rfl
theorem q_am (x0 : LL) : φ_am [C.list x0] = retOf (F_am x0) := by kernel_rfl
theorem q_ag (x0 : LL) : φ_ag [C.list x0] = retOf (F_ag x0) := by kernel_rfl
theorem q_ao (x0 : LL) : φ_ao [C.list x0] = retOf (F_ao x0) := by kernel_rfl
theorem q_cq (x0 : Int) (x1 : Bool) (x2 : Int) (x3 : LL) (x4 : Int) (x5 : Bool) : φ_cq [C.int .i64 x0, C.bool x1, C.int .i64 x2, C.list x3, C.int .i64 x4, C.bool x5] = retOf (F_cq x0 x1 x2 x3 x4 x5) := by kernel_rfl
theorem q_ct (x0 : Bool) (x1 : LL) (x2 : Int) (x3 : LL) : φ_ct [C.bool x0, C.list x1, C.int .i64 x2, C.list x3] = retOf (F_ct x0 x1 x2 x3) := by kernel_rfl
theorem q_eq (x0 : Int) (x1 : Bool) (x2 : Int) (x3 : LL) (x4 : Int) : φ_eq [C.int .i64 x0, C.bool x1, C.int .i64 x2, C.list x3, C.int .i64 x4] = retOf (F_eq x0 x1 x2 x3 x4) := by kernel_rfl
theorem q_ft (x0 : LL) (x1 : Int) (x2 : Int) (x3 : Int) (x4 : LL) : φ_ft [C.list x0, C.int .i64 x1, C.int .i64 x2, C.int .i64 x3, C.list x4] = retOf (F_ft x0 x1 x2 x3 x4) := by kernel_rfl
theorem q_cv (x0 : LL) : φ_cv [C.list x0] = retOf (F_cv x0) := by kernel_rfl
theorem q_cu (x0 : Int) : φ_cu [C.int .i64 x0] = retOf (F_cu x0) := by kernel_rfl
theorem q_fq (x0 : Int) (x1 : Int) (x2 : LL) (x3 : Int) (x4 : Int) (x5 : LL) : φ_fq [C.int .i64 x0, C.int .i64 x1, C.list x2, C.int .i64 x3, C.int .i64 x4, C.list x5] = retOf (F_fq x0 x1 x2 x3 x4 x5) := by kernel_rfl
theorem q_ca (x0 : Bool) (x1 : LL) (x2 : Int) (x3 : LL) (x4 : Bool) : φ_ca [C.bool x0, C.list x1, C.int .i64 x2, C.list x3, C.bool x4] = retOf (F_ca x0 x1 x2 x3 x4) := by kernel_rfl
theorem q_ce (x0 : Bool) (x1 : LL) (x2 : Int) (x3 : LL) : φ_ce [C.bool x0, C.list x1, C.int .i64 x2, C.list x3] = retOf (F_ce x0 x1 x2 x3) := by kernel_rfl
theorem q_bs (x0 : Int) (x1 : Bool) (x2 : Int) (x3 : LL) (x4 : Int) (x5 : Int) (x6 : Int) (x7 : Int) (x8 : LL) : φ_bs [C.int .i64 x0, C.bool x1, C.int .i64 x2, C.list x3, C.int .i64 x4, C.int .i64 x5, C.int .i64 x6, C.int .i64 x7, C.list x8] = retOf (F_bs x0 x1 x2 x3 x4 x5 x6 x7 x8) := by kernel_rfl
theorem q_fw (x0 : Int) (x1 : Int) (x2 : Int) : φ_fw [C.int .i64 x0, C.int .i64 x1, C.int .i64 x2] = retOf (F_fw x0 x1 x2) := by kernel_rfl
theorem q_ap (x0 : LL) (x1 : Int) (x2 : Int) (x3 : Int) (x4 : Int) : φ_ap [C.list x0, C.int .i64 x1, C.int .i64 x2, C.int .i64 x3, C.int .i64 x4] = retOf (F_ap x0 x1 x2 x3 x4) := by kernel_rfl
theorem q_az (x0 : Bool) (x1 : LL) (x2 : Int) (x3 : LL) : φ_az [C.bool x0, C.list x1, C.int .i64 x2, C.list x3] = retOf (F_az x0 x1 x2 x3) := by kernel_rfl
theorem q_ah (x0 : LL) : φ_ah [C.list x0] = retOf (F_ah x0) := by kernel_rfl
theorem q_bj (x0 : LL) (x1 : Int) : φ_bj [C.list x0, C.int .i64 x1] = retOf (F_bj x0 x1) := by kernel_rfl
theorem q_bl (x0 : Bool) (x1 : LL) (x2 : Int) (x3 : LL) (x4 : Bool) : φ_bl [C.bool x0, C.list x1, C.int .i64 x2, C.list x3, C.bool x4] = retOf (F_bl x0 x1 x2 x3 x4) := by kernel_rfl
theorem q_du (x0 : Int) (x1 : Int) (x2 : LL) : φ_du [C.int .i64 x0, C.int .i64 x1, C.list x2] = retOf (F_du x0 x1 x2) := by kernel_rfl
theorem q_eo : φ_eo [] = retOf (F_eo) := by kernel_rfl
theorem q_bk (x0 : Int) (x1 : Int) (x2 : LL) : φ_bk [C.int .i64 x0, C.int .i64 x1, C.list x2] = retOf (F_bk x0 x1 x2) := by kernel_rfl
end Dx
