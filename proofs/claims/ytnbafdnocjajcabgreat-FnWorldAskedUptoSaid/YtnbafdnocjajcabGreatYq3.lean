/- The typed texts are the trees'. -/
import Derived.Test.YtnbafdnocjajcabGreatYb
set_option linter.all false
set_option linter.unusedVariables false
set_option linter.unusedSimpArgs false
set_option linter.unnecessarySimpa false
namespace Dx
open Go
theorem q_by (x0 : Bool) (x1 : LL) (x2 : Int) (x3 : LL) (x4 : Int) : φ_by [C.bool x0, C.list x1, C.int .i64 x2, C.list x3, C.int .i64 x4] = retOf (F_by x0 x1 x2 x3 x4) := by kernel_rfl
theorem q_cp (x0 : Bool) (x1 : LL) (x2 : Int) (x3 : LL) (x4 : LL) (x5 : LL) (x6 : Int) (x7 : Int) (x8 : Int) (x9 : LL) : φ_cp [C.bool x0, C.list x1, C.int .i64 x2, C.list x3, C.list x4, C.list x5, C.int .i64 x6, C.int .i64 x7, C.int .i64 x8, C.list x9] = retOf (F_cp x0 x1 x2 x3 x4 x5 x6 x7 x8 x9) := by kernel_rfl
theorem q_dp (x0 : Int) (x1 : Bool) (x2 : Int) (x3 : LL) (x4 : Int) (x5 : Int) (x6 : Int) (x7 : Int) (x8 : Int) : φ_dp [C.int .i64 x0, C.bool x1, C.int .i64 x2, C.list x3, C.int .i64 x4, C.int .i64 x5, C.int .i64 x6, C.int .i64 x7, C.int .i64 x8] = retOf (F_dp x0 x1 x2 x3 x4 x5 x6 x7 x8) := by kernel_rfl
theorem q_fk (x0 : Bool) (x1 : LL) (x2 : Int) (x3 : LL) (x4 : LL) (x5 : LL) (x6 : Int) (x7 : Int) (x8 : Int) (x9 : LL) : φ_fk [C.bool x0, C.list x1, C.int .i64 x2, C.list x3, C.list x4, C.list x5, C.int .i64 x6, C.int .i64 x7, C.int .i64 x8, C.list x9] = retOf (F_fk x0 x1 x2 x3 x4 x5 x6 x7 x8 x9) := by kernel_rfl
theorem q_dn (x0 : Bool) (x1 : LL) (x2 : Int) (x3 : LL) (x4 : LL) (x5 : LL) (x6 : Int) (x7 : Int) (x8 : Int) (x9 : LL) : φ_dn [C.bool x0, C.list x1, C.int .i64 x2, C.list x3, C.list x4, C.list x5, C.int .i64 x6, C.int .i64 x7, C.int .i64 x8, C.list x9] = retOf (F_dn x0 x1 x2 x3 x4 x5 x6 x7 x8 x9) := by kernel_rfl
theorem q_bg (x0 : Bool) (x1 : LL) (x2 : Int) (x3 : LL) : φ_bg [C.bool x0, C.list x1, C.int .i64 x2, C.list x3] = retOf (F_bg x0 x1 x2 x3) := by kernel_rfl
theorem q_cm (x0 : LL) (x1 : Int) (x2 : Int) : φ_cm [C.list x0, C.int .i64 x1, C.int .i64 x2] = retOf (F_cm x0 x1 x2) := by kernel_rfl
theorem q_en (x0 : Bool) (x1 : LL) (x2 : Int) (x3 : LL) (x4 : LL) (x5 : LL) (x6 : Int) (x7 : Int) (x8 : Int) (x9 : LL) : φ_en [C.bool x0, C.list x1, C.int .i64 x2, C.list x3, C.list x4, C.list x5, C.int .i64 x6, C.int .i64 x7, C.int .i64 x8, C.list x9] = retOf (F_en x0 x1 x2 x3 x4 x5 x6 x7 x8 x9) := by kernel_rfl
theorem q_bz (x0 : Bool) (x1 : LL) (x2 : Int) (x3 : LL) (x4 : LL) (x5 : LL) (x6 : Int) (x7 : Int) (x8 : Int) (x9 : LL) : φ_bz [C.bool x0, C.list x1, C.int .i64 x2, C.list x3, C.list x4, C.list x5, C.int .i64 x6, C.int .i64 x7, C.int .i64 x8, C.list x9] = retOf (F_bz x0 x1 x2 x3 x4 x5 x6 x7 x8 x9) := by kernel_rfl
theorem q_bv (x0 : Bool) (x1 : LL) (x2 : Int) (x3 : LL) (x4 : Int) (x5 : Int) (x6 : Int) (x7 : Int) : φ_bv [C.bool x0, C.list x1, C.int .i64 x2, C.list x3, C.int .i64 x4, C.int .i64 x5, C.int .i64 x6, C.int .i64 x7] = retOf (F_bv x0 x1 x2 x3 x4 x5 x6 x7) := by kernel_rfl
theorem q_ca (x0 : LL) (x1 : LL) : φ_ca [C.list x0, C.list x1] = retOf (F_ca x0 x1) := by kernel_rfl
theorem q_eh (x0 : Bool) (x1 : LL) (x2 : Int) (x3 : LL) (x4 : Int) (x5 : Int) (x6 : Int) (x7 : Int) : φ_eh [C.bool x0, C.list x1, C.int .i64 x2, C.list x3, C.int .i64 x4, C.int .i64 x5, C.int .i64 x6, C.int .i64 x7] = retOf (F_eh x0 x1 x2 x3 x4 x5 x6 x7) := by kernel_rfl
theorem q_br (x0 : Bool) (x1 : LL) (x2 : Int) (x3 : LL) (x4 : Int) (x5 : Int) (x6 : LL) : φ_br [C.bool x0, C.list x1, C.int .i64 x2, C.list x3, C.int .i64 x4, C.int .i64 x5, C.list x6] = retOf (F_br x0 x1 x2 x3 x4 x5 x6) := by kernel_rfl
theorem q_cx (x0 : LL) (x1 : Int) (x2 : Int) (x3 : LL) : φ_cx [C.list x0, C.int .i64 x1, C.int .i64 x2, C.list x3] = retOf (F_cx x0 x1 x2 x3) := by kernel_rfl
theorem q_dj (x0 : Int) (x1 : LL) (x2 : Int) (x3 : Int) (x4 : LL) : φ_dj [C.int .i64 x0, C.list x1, C.int .i64 x2, C.int .i64 x3, C.list x4] = retOf (F_dj x0 x1 x2 x3 x4) := by kernel_rfl
theorem q_bo (x0 : Bool) (x1 : LL) (x2 : Int) (x3 : LL) (x4 : LL) (x5 : LL) (x6 : Int) : φ_bo [C.bool x0, C.list x1, C.int .i64 x2, C.list x3, C.list x4, C.list x5, C.int .i64 x6] = retOf (F_bo x0 x1 x2 x3 x4 x5 x6) := by kernel_rfl
theorem q_fc (x0 : LL) : φ_fc [C.list x0] = retOf (F_fc x0) := by kernel_rfl
theorem q_cd (x0 : Bool) (x1 : LL) (x2 : Int) (x3 : LL) (x4 : LL) : φ_cd [C.bool x0, C.list x1, C.int .i64 x2, C.list x3, C.list x4] = retOf (F_cd x0 x1 x2 x3 x4) := by kernel_rfl
theorem q_fg (x0 : Int) (x1 : LL) (x2 : Int) (x3 : Int) (x4 : LL) : φ_fg [C.int .i64 x0, C.list x1, C.int .i64 x2, C.int .i64 x3, C.list x4] = retOf (F_fg x0 x1 x2 x3 x4) := by kernel_rfl
theorem q_er (x0 : LL) : φ_er [C.list x0] = retOf (F_er x0) := by kernel_rfl
theorem q_bl (x0 : Int) (x1 : LL) : φ_bl [C.int .i64 x0, C.list x1] = retOf (F_bl x0 x1) := by kernel_rfl
theorem q_et (x0 : LL) (x1 : LL) : φ_et [C.list x0, C.list x1] = retOf (F_et x0 x1) := by kernel_rfl
theorem q_cj (x0 : LL) (x1 : Int) (x2 : Int) (x3 : Int) : φ_cj [C.list x0, C.int .i64 x1, C.int .i64 x2, C.int .i64 x3] = retOf (F_cj x0 x1 x2 x3) := by kernel_rfl
theorem q_bm (x0 : Bool) (x1 : LL) (x2 : Int) (x3 : LL) (x4 : Int) (x5 : Int) (x6 : LL) : φ_bm [C.bool x0, C.list x1, C.int .i64 x2, C.list x3, C.int .i64 x4, C.int .i64 x5, C.list x6] = retOf (F_bm x0 x1 x2 x3 x4 x5 x6) := by kernel_rfl
theorem q_dg (x0 : Int) (x1 : Int) : φ_dg [C.int .i64 x0, C.int .i64 x1] = retOf (F_dg x0 x1) := by kernel_rfl
theorem q_ee (x0 : LL) (x1 : Int) (x2 : Int) (x3 : Int) (x4 : Int) : φ_ee [C.list x0, C.int .i64 x1, C.int .i64 x2, C.int .i64 x3, C.int .i64 x4] = retOf (F_ee x0 x1 x2 x3 x4) := by kernel_rfl
theorem q_cc (x0 : Bool) (x1 : LL) (x2 : Int) (x3 : LL) : φ_cc [C.bool x0, C.list x1, C.int .i64 x2, C.list x3] = retOf (F_cc x0 x1 x2 x3) := by kernel_rfl
theorem q_do (x0 : LL) (x1 : Int) (x2 : Int) : φ_do [C.list x0, C.int .i64 x1, C.int .i64 x2] = retOf (F_do x0 x1 x2) := by kernel_rfl
theorem q_am (x0 : LL) : φ_am [C.list x0] = retOf (F_am x0) := by kernel_rfl
theorem q_an (x0 : LL) : φ_an [C.list x0] = retOf (F_an x0) := by kernel_rfl
theorem q_ao (x0 : LL) : φ_ao [C.list x0] = retOf (F_ao x0) := by kernel_rfl
theorem q_ej (x0 : Bool) (x1 : LL) (x2 : Int) (x3 : LL) (x4 : LL) (x5 : LL) (x6 : Int) (x7 : Int) (x8 : Int) (x9 : Int) : φ_ej [C.bool x0, C.list x1, C.int .i64 x2, C.list x3, C.list x4, C.list x5, C.int .i64 x6, C.int .i64 x7, C.int .i64 x8, C.int .i64 x9] = retOf (F_ej x0 x1 x2 x3 x4 x5 x6 x7 x8 x9) := by kernel_rfl
theorem q_de (x0 : Bool) (x1 : LL) (x2 : Int) (x3 : LL) : φ_de [C.bool x0, C.list x1, C.int .i64 x2, C.list x3] = retOf (F_de x0 x1 x2 x3) := by kernel_rfl
theorem q_ck (x0 : Int) (x1 : Bool) (x2 : Int) (x3 : LL) (x4 : Int) (x5 : Int) : φ_ck [C.int .i64 x0, C.bool x1, C.int .i64 x2, C.list x3, C.int .i64 x4, C.int .i64 x5] = retOf (F_ck x0 x1 x2 x3 x4 x5) := by kernel_rfl
theorem q_ev (x0 : Bool) (x1 : LL) (x2 : Int) (x3 : LL) (x4 : Bool) (x5 : LL) (x6 : Int) (x7 : LL) : φ_ev [C.bool x0, C.list x1, C.int .i64 x2, C.list x3, C.bool x4, C.list x5, C.int .i64 x6, C.list x7] = retOf (F_ev x0 x1 x2 x3 x4 x5 x6 x7) := by kernel_rfl
theorem q_cr (x0 : LL) (x1 : Int) : φ_cr [C.list x0, C.int .i64 x1] = retOf (F_cr x0 x1) := by kernel_rfl
theorem q_cu (x0 : Int) : φ_cu [C.int .i64 x0] = retOf (F_cu x0) := by kernel_rfl
theorem q_dx (x0 : LL) (x1 : Int) : φ_dx [C.list x0, C.int .i64 x1] = retOf (F_dx x0 x1) := by kernel_rfl
theorem q_bi (x0 : Int) (x1 : Bool) (x2 : Int) (x3 : LL) (x4 : Int) (x5 : Int) (x6 : Int) (x7 : Int) (x8 : LL) : φ_bi [C.int .i64 x0, C.bool x1, C.int .i64 x2, C.list x3, C.int .i64 x4, C.int .i64 x5, C.int .i64 x6, C.int .i64 x7, C.list x8] = retOf (F_bi x0 x1 x2 x3 x4 x5 x6 x7 x8) := by kernel_rfl
theorem q_fe (x0 : LL) (x1 : Int) (x2 : LL) (x3 : Int) : φ_fe [C.list x0, C.int .i64 x1, C.list x2, C.int .i64 x3] = retOf (F_fe x0 x1 x2 x3) := by kernel_rfl
theorem q_cb (x0 : LL) (x1 : Int) (x2 : Bool) : φ_cb [C.list x0, C.int .i64 x1, C.bool x2] = retOf (F_cb x0 x1 x2) := by kernel_rfl
theorem q_ap (x0 : LL) (x1 : Int) (x2 : Int) (x3 : Int) (x4 : Int) : φ_ap [C.list x0, C.int .i64 x1, C.int .i64 x2, C.int .i64 x3, C.int .i64 x4] = retOf (F_ap x0 x1 x2 x3 x4) := by kernel_rfl
theorem q_ac (x0 : LL) : φ_ac [C.list x0] = retOf (F_ac x0) := by kernel_rfl
theorem q_ah (x0 : LL) : φ_ah [C.list x0] = retOf (F_ah x0) := by kernel_rfl
theorem q_al (x0 : LL) : φ_al [C.list x0] = retOf (F_al x0) := by kernel_rfl
theorem q_aw (x0 : Int) (x1 : Bool) (x2 : Int) (x3 : LL) (x4 : Int) : φ_aw [C.int .i64 x0, C.bool x1, C.int .i64 x2, C.list x3, C.int .i64 x4] = retOf (F_aw x0 x1 x2 x3 x4) := by kernel_rfl
theorem q_cg (x0 : Int) (x1 : Int) : φ_cg [C.int .i64 x0, C.int .i64 x1] = retOf (F_cg x0 x1) := by kernel_rfl
theorem q_ef : φ_ef [] = retOf (F_ef) := by kernel_rfl
theorem q_ey (x0 : Int) : φ_ey [C.int .i64 x0] = retOf (F_ey x0) := by kernel_rfl
end Dx
