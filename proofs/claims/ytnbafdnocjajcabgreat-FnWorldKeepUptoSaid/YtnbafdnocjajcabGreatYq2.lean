/- The typed texts are the trees'. -/
import Derived.Test.YtnbafdnocjajcabGreatYb
set_option linter.all false
set_option linter.unusedVariables false
set_option linter.unusedSimpArgs false
set_option linter.unnecessarySimpa false
namespace Dx
open Go
theorem q_dl (x0 : LL) (x1 : Int) (x2 : Bool) (x3 : LL) (x4 : Int) (x5 : LL) (x6 : LL) (x7 : LL) : φ_dl [C.list x0, C.int .i64 x1, C.bool x2, C.list x3, C.int .i64 x4, C.list x5, C.list x6, C.list x7] = retOf (F_dl x0 x1 x2 x3 x4 x5 x6 x7) := by kernel_rfl
theorem q_dt (x0 : LL) (x1 : Int) : φ_dt [C.list x0, C.int .i64 x1] = retOf (F_dt x0 x1) := by kernel_rfl
theorem q_df (x0 : Bool) (x1 : LL) (x2 : Int) (x3 : LL) : φ_df [C.bool x0, C.list x1, C.int .i64 x2, C.list x3] = retOf (F_df x0 x1 x2 x3) := by kernel_rfl
theorem q_av (x0 : Int) (x1 : Bool) (x2 : Int) (x3 : LL) (x4 : Int) (x5 : Int) (x6 : Int) (x7 : Int) (x8 : Int) : φ_av [C.int .i64 x0, C.bool x1, C.int .i64 x2, C.list x3, C.int .i64 x4, C.int .i64 x5, C.int .i64 x6, C.int .i64 x7, C.int .i64 x8] = retOf (F_av x0 x1 x2 x3 x4 x5 x6 x7 x8) := by kernel_rfl
theorem q_bz (x0 : Int) (x1 : Bool) (x2 : Int) (x3 : LL) (x4 : Int) (x5 : Int) (x6 : Int) (x7 : Int) (x8 : Int) : φ_bz [C.int .i64 x0, C.bool x1, C.int .i64 x2, C.list x3, C.int .i64 x4, C.int .i64 x5, C.int .i64 x6, C.int .i64 x7, C.int .i64 x8] = retOf (F_bz x0 x1 x2 x3 x4 x5 x6 x7 x8) := by kernel_rfl
theorem q_dm (x0 : Bool) (x1 : LL) (x2 : Int) (x3 : LL) (x4 : LL) (x5 : LL) (x6 : Int) (x7 : Int) (x8 : Int) (x9 : LL) : φ_dm [C.bool x0, C.list x1, C.int .i64 x2, C.list x3, C.list x4, C.list x5, C.int .i64 x6, C.int .i64 x7, C.int .i64 x8, C.list x9] = retOf (F_dm x0 x1 x2 x3 x4 x5 x6 x7 x8 x9) := by kernel_rfl
theorem q_cl (x0 : Int) (x1 : Bool) (x2 : Int) (x3 : LL) (x4 : Int) (x5 : Int) (x6 : Int) (x7 : Int) (x8 : Int) (x9 : Int) : φ_cl [C.int .i64 x0, C.bool x1, C.int .i64 x2, C.list x3, C.int .i64 x4, C.int .i64 x5, C.int .i64 x6, C.int .i64 x7, C.int .i64 x8, C.int .i64 x9] = retOf (F_cl x0 x1 x2 x3 x4 x5 x6 x7 x8 x9) := by kernel_rfl
theorem q_ev (x0 : Bool) (x1 : LL) (x2 : Int) (x3 : LL) : φ_ev [C.bool x0, C.list x1, C.int .i64 x2, C.list x3] = retOf (F_ev x0 x1 x2 x3) := by kernel_rfl
theorem q_dc (x0 : Bool) (x1 : LL) (x2 : Int) (x3 : LL) (x4 : LL) (x5 : LL) (x6 : Int) : φ_dc [C.bool x0, C.list x1, C.int .i64 x2, C.list x3, C.list x4, C.list x5, C.int .i64 x6] = retOf (F_dc x0 x1 x2 x3 x4 x5 x6) := by kernel_rfl
theorem q_de (x0 : LL) : φ_de [C.list x0] = retOf (F_de x0) := by kernel_rfl
theorem q_ce (x0 : LL) (x1 : LL) : φ_ce [C.list x0, C.list x1] = retOf (F_ce x0 x1) := by kernel_rfl
theorem q_fq (x0 : Int) (x1 : LL) : φ_fq [C.int .i64 x0, C.list x1] = retOf (F_fq x0 x1) := by kernel_rfl
theorem q_cr (x0 : Int) (x1 : LL) (x2 : Int) (x3 : Int) (x4 : LL) : φ_cr [C.int .i64 x0, C.list x1, C.int .i64 x2, C.int .i64 x3, C.list x4] = retOf (F_cr x0 x1 x2 x3 x4) := by kernel_rfl
theorem q_ej (x0 : Bool) (x1 : LL) (x2 : Int) (x3 : LL) (x4 : LL) (x5 : LL) (x6 : Int) (x7 : Int) (x8 : Int) (x9 : Int) : φ_ej [C.bool x0, C.list x1, C.int .i64 x2, C.list x3, C.list x4, C.list x5, C.int .i64 x6, C.int .i64 x7, C.int .i64 x8, C.int .i64 x9] = retOf (F_ej x0 x1 x2 x3 x4 x5 x6 x7 x8 x9) := by kernel_rfl
theorem q_bg (x0 : Bool) (x1 : LL) (x2 : Int) (x3 : LL) (x4 : LL) (x5 : LL) (x6 : Int) (x7 : Int) (x8 : Int) (x9 : Int) : φ_bg [C.bool x0, C.list x1, C.int .i64 x2, C.list x3, C.list x4, C.list x5, C.int .i64 x6, C.int .i64 x7, C.int .i64 x8, C.int .i64 x9] = retOf (F_bg x0 x1 x2 x3 x4 x5 x6 x7 x8 x9) := by kernel_rfl
theorem q_ff (x0 : Int) (x1 : Int) (x2 : Int) (x3 : Int) : φ_ff [C.int .i64 x0, C.int .i64 x1, C.int .i64 x2, C.int .i64 x3] = retOf (F_ff x0 x1 x2 x3) := by kernel_rfl
theorem q_bx (x0 : Bool) (x1 : LL) (x2 : Int) (x3 : LL) (x4 : LL) : φ_bx [C.bool x0, C.list x1, C.int .i64 x2, C.list x3, C.list x4] = retOf (F_bx x0 x1 x2 x3 x4) := by kernel_rfl
theorem q_eu (x0 : Int) (x1 : LL) : φ_eu [C.int .i64 x0, C.list x1] = retOf (F_eu x0 x1) := by kernel_rfl
theorem q_es (x0 : LL) (x1 : Int) (x2 : Int) (x3 : Int) (x4 : LL) : φ_es [C.list x0, C.int .i64 x1, C.int .i64 x2, C.int .i64 x3, C.list x4] = retOf (F_es x0 x1 x2 x3 x4) := by kernel_rfl
theorem q_ew (x0 : LL) : φ_ew [C.list x0] = retOf (F_ew x0) := by kernel_rfl
theorem q_ep (x0 : Bool) (x1 : LL) (x2 : Int) (x3 : LL) (x4 : Int) (x5 : LL) (x6 : Int) : φ_ep [C.bool x0, C.list x1, C.int .i64 x2, C.list x3, C.int .i64 x4, C.list x5, C.int .i64 x6] = retOf (F_ep x0 x1 x2 x3 x4 x5 x6) := by kernel_rfl
theorem q_ea (x0 : Bool) (x1 : LL) (x2 : Int) (x3 : LL) (x4 : LL) (x5 : LL) (x6 : Int) (x7 : Int) (x8 : Int) (x9 : LL) : φ_ea [C.bool x0, C.list x1, C.int .i64 x2, C.list x3, C.list x4, C.list x5, C.int .i64 x6, C.int .i64 x7, C.int .i64 x8, C.list x9] = retOf (F_ea x0 x1 x2 x3 x4 x5 x6 x7 x8 x9) := by kernel_rfl
theorem q_fd (x0 : LL) (x1 : LL) : φ_fd [C.list x0, C.list x1] = retOf (F_fd x0 x1) := by kernel_rfl
theorem q_ed (x0 : Int) (x1 : Int) : φ_ed [C.int .i64 x0, C.int .i64 x1] = retOf (F_ed x0 x1) := by kernel_rfl
theorem q_ef (x0 : Int) (x1 : LL) : φ_ef [C.int .i64 x0, C.list x1] = retOf (F_ef x0 x1) := by kernel_rfl
theorem q_dx (x0 : LL) : φ_dx [C.list x0] = retOf (F_dx x0) := by kernel_rfl
theorem q_by (x0 : Bool) (x1 : LL) (x2 : Int) (x3 : LL) : φ_by [C.bool x0, C.list x1, C.int .i64 x2, C.list x3] = retOf (F_by x0 x1 x2 x3) := by kernel_rfl
theorem q_ah (x0 : LL) : φ_ah [C.list x0] = retOf (F_ah x0) := by kernel_rfl
theorem q_am (x0 : LL) : φ_am [C.list x0] = retOf (F_am x0) := by kernel_rfl
theorem q_ag (x0 : LL) : φ_ag [C.list x0] = retOf (F_ag x0) := by kernel_rfl
theorem q_ao (x0 : LL) : φ_ao [C.list x0] = retOf (F_ao x0) := by kernel_rfl
theorem q_bi (x0 : Bool) (x1 : LL) (x2 : Int) (x3 : LL) (x4 : LL) (x5 : LL) (x6 : Int) (x7 : Int) (x8 : Int) (x9 : Int) : φ_bi [C.bool x0, C.list x1, C.int .i64 x2, C.list x3, C.list x4, C.list x5, C.int .i64 x6, C.int .i64 x7, C.int .i64 x8, C.int .i64 x9] = retOf (F_bi x0 x1 x2 x3 x4 x5 x6 x7 x8 x9) := by kernel_rfl
theorem q_ex (x0 : Bool) (x1 : LL) (x2 : Int) (x3 : LL) (x4 : LL) (x5 : LL) (x6 : Int) (x7 : Int) (x8 : Int) (x9 : Int) : φ_ex [C.bool x0, C.list x1, C.int .i64 x2, C.list x3, C.list x4, C.list x5, C.int .i64 x6, C.int .i64 x7, C.int .i64 x8, C.int .i64 x9] = retOf (F_ex x0 x1 x2 x3 x4 x5 x6 x7 x8 x9) := by kernel_rfl
theorem q_ct (x0 : LL) : φ_ct [C.list x0] = retOf (F_ct x0) := by kernel_rfl
theorem q_cs (x0 : LL) (x1 : Int) : φ_cs [C.list x0, C.int .i64 x1] = retOf (F_cs x0 x1) := by kernel_rfl
theorem q_cv (x0 : LL) (x1 : Int) : φ_cv [C.list x0, C.int .i64 x1] = retOf (F_cv x0 x1) := by kernel_rfl
theorem q_dh (x0 : Int) : φ_dh [C.int .i64 x0] = retOf (F_dh x0) := by kernel_rfl
theorem q_bh (x0 : Int) (x1 : Bool) (x2 : Int) (x3 : LL) (x4 : Int) (x5 : Bool) : φ_bh [C.int .i64 x0, C.bool x1, C.int .i64 x2, C.list x3, C.int .i64 x4, C.bool x5] = retOf (F_bh x0 x1 x2 x3 x4 x5) := by kernel_rfl
theorem q_cf (x0 : Bool) (x1 : LL) (x2 : Int) (x3 : LL) : φ_cf [C.bool x0, C.list x1, C.int .i64 x2, C.list x3] = retOf (F_cf x0 x1 x2 x3) := by kernel_rfl
theorem q_ck (x0 : Int) (x1 : LL) : φ_ck [C.int .i64 x0, C.list x1] = retOf (F_ck x0 x1) := by kernel_rfl
theorem q_fr (x0 : Int) (x1 : Int) (x2 : Int) : φ_fr [C.int .i64 x0, C.int .i64 x1, C.int .i64 x2] = retOf (F_fr x0 x1 x2) := by kernel_rfl
theorem q_bd (x0 : Int) (x1 : Bool) (x2 : Int) (x3 : LL) (x4 : Int) (x5 : Bool) : φ_bd [C.int .i64 x0, C.bool x1, C.int .i64 x2, C.list x3, C.int .i64 x4, C.bool x5] = retOf (F_bd x0 x1 x2 x3 x4 x5) := by kernel_rfl
theorem q_bb (x0 : Bool) (x1 : LL) (x2 : Int) (x3 : LL) : φ_bb [C.bool x0, C.list x1, C.int .i64 x2, C.list x3] = retOf (F_bb x0 x1 x2 x3) := by kernel_rfl
theorem q_ac (x0 : LL) : φ_ac [C.list x0] = retOf (F_ac x0) := by kernel_rfl
theorem q_br (x0 : LL) (x1 : Int) : φ_br [C.list x0, C.int .i64 x1] = retOf (F_br x0 x1) := by kernel_rfl
theorem q_bj (x0 : Bool) (x1 : LL) (x2 : Int) (x3 : LL) (x4 : Bool) : φ_bj [C.bool x0, C.list x1, C.int .i64 x2, C.list x3, C.bool x4] = retOf (F_bj x0 x1 x2 x3 x4) := by kernel_rfl
theorem q_eb (x0 : Int) (x1 : Int) (x2 : LL) : φ_eb [C.int .i64 x0, C.int .i64 x1, C.list x2] = retOf (F_eb x0 x1 x2) := by kernel_rfl
theorem q_bw (x0 : Bool) (x1 : LL) (x2 : Int) (x3 : LL) (x4 : Int) (x5 : Int) (x6 : Int) : φ_bw [C.bool x0, C.list x1, C.int .i64 x2, C.list x3, C.int .i64 x4, C.int .i64 x5, C.int .i64 x6] = retOf (F_bw x0 x1 x2 x3 x4 x5 x6) := by kernel_rfl
theorem q_bq (x0 : Int) (x1 : Int) (x2 : LL) : φ_bq [C.int .i64 x0, C.int .i64 x1, C.list x2] = retOf (F_bq x0 x1 x2) := by kernel_rfl
theorem q_er (x0 : Int) : φ_er [C.int .i64 x0] = retOf (F_er x0) := by kernel_rfl
end Dx
