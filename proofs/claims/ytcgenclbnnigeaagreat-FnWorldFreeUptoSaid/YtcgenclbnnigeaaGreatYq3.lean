/- The typed texts are the trees'. -/
import Derived.Test.YtcgenclbnnigeaaGreatYb
set_option linter.all false
set_option linter.unusedVariables false
set_option linter.unusedSimpArgs false
set_option linter.unnecessarySimpa false
namespace Dx
open Go
theorem q_dh (x0 : LL) (x1 : Int) (x2 : Bool) (x3 : LL) (x4 : Int) (x5 : LL) (x6 : LL) (x7 : LL) : φ_dh [C.list x0, C.int .i64 x1, C.bool x2, C.list x3, C.int .i64 x4, C.list x5, C.list x6, C.list x7] = retOf (F_dh x0 x1 x2 x3 x4 x5 x6 x7) := by kernel_rfl
theorem q_ci (x0 : Bool) (x1 : LL) (x2 : Int) (x3 : LL) (x4 : Int) : φ_ci [C.bool x0, C.list x1, C.int .i64 x2, C.list x3, C.int .i64 x4] = retOf (F_ci x0 x1 x2 x3 x4) := by kernel_rfl
theorem q_ea (x0 : LL) (x1 : Int) : φ_ea [C.list x0, C.int .i64 x1] = retOf (F_ea x0 x1) := by kernel_rfl
theorem q_ft (x0 : Bool) (x1 : LL) (x2 : Int) (x3 : LL) (x4 : LL) (x5 : LL) (x6 : Int) (x7 : Int) (x8 : Int) (x9 : LL) : φ_ft [C.bool x0, C.list x1, C.int .i64 x2, C.list x3, C.list x4, C.list x5, C.int .i64 x6, C.int .i64 x7, C.int .i64 x8, C.list x9] = retOf (F_ft x0 x1 x2 x3 x4 x5 x6 x7 x8 x9) := by kernel_rfl
theorem q_ct (x0 : Int) (x1 : Bool) (x2 : Int) (x3 : LL) (x4 : Int) (x5 : Int) (x6 : Int) (x7 : Int) (x8 : Int) : φ_ct [C.int .i64 x0, C.bool x1, C.int .i64 x2, C.list x3, C.int .i64 x4, C.int .i64 x5, C.int .i64 x6, C.int .i64 x7, C.int .i64 x8] = retOf (F_ct x0 x1 x2 x3 x4 x5 x6 x7 x8) := by kernel_rfl
theorem q_bz (x0 : Bool) (x1 : LL) (x2 : Int) (x3 : LL) : φ_bz [C.bool x0, C.list x1, C.int .i64 x2, C.list x3] = retOf (F_bz x0 x1 x2 x3) := by kernel_rfl
theorem q_ey (x0 : Bool) (x1 : LL) (x2 : Int) (x3 : LL) (x4 : LL) (x5 : LL) (x6 : Int) (x7 : Int) (x8 : Int) (x9 : LL) : φ_ey [C.bool x0, C.list x1, C.int .i64 x2, C.list x3, C.list x4, C.list x5, C.int .i64 x6, C.int .i64 x7, C.int .i64 x8, C.list x9] = retOf (F_ey x0 x1 x2 x3 x4 x5 x6 x7 x8 x9) := by kernel_rfl
theorem q_fg (x0 : Bool) (x1 : LL) (x2 : Int) (x3 : LL) (x4 : LL) (x5 : LL) (x6 : Int) (x7 : Int) (x8 : Int) (x9 : LL) : φ_fg [C.bool x0, C.list x1, C.int .i64 x2, C.list x3, C.list x4, C.list x5, C.int .i64 x6, C.int .i64 x7, C.int .i64 x8, C.list x9] = retOf (F_fg x0 x1 x2 x3 x4 x5 x6 x7 x8 x9) := by kernel_rfl
theorem q_fu (x0 : Int) (x1 : Int) (x2 : LL) : φ_fu [C.int .i64 x0, C.int .i64 x1, C.list x2] = retOf (F_fu x0 x1 x2) := by kernel_rfl
theorem q_cq (x0 : Bool) (x1 : LL) (x2 : Int) (x3 : LL) (x4 : Int) (x5 : Int) (x6 : Int) (x7 : Int) : φ_cq [C.bool x0, C.list x1, C.int .i64 x2, C.list x3, C.int .i64 x4, C.int .i64 x5, C.int .i64 x6, C.int .i64 x7] = retOf (F_cq x0 x1 x2 x3 x4 x5 x6 x7) := by kernel_rfl
theorem q_dk (x0 : LL) : φ_dk [C.list x0] = retOf (F_dk x0) := by kernel_rfl
theorem q_dx (x0 : Bool) (x1 : LL) (x2 : Int) (x3 : LL) (x4 : LL) (x5 : LL) : φ_dx [C.bool x0, C.list x1, C.int .i64 x2, C.list x3, C.list x4, C.list x5] = retOf (F_dx x0 x1 x2 x3 x4 x5) := by kernel_rfl
theorem q_cu (x0 : Bool) (x1 : LL) (x2 : Int) (x3 : LL) (x4 : LL) (x5 : LL) (x6 : Int) : φ_cu [C.bool x0, C.list x1, C.int .i64 x2, C.list x3, C.list x4, C.list x5, C.int .i64 x6] = retOf (F_cu x0 x1 x2 x3 x4 x5 x6) := by kernel_rfl
theorem q_spec_l2Do (x0 : Int) (x1 : LL) (x2 : Int) (x3 : Int) (x4 : LL) : φ_spec_l2Do [C.int .i64 x0, C.list x1, C.int .i64 x2, C.int .i64 x3, C.list x4] = retOf (F_spec_l2Do x0 x1 x2 x3 x4) := by kernel_rfl
theorem q_eg (x0 : Int) (x1 : LL) (x2 : Int) (x3 : Int) (x4 : LL) : φ_eg [C.int .i64 x0, C.list x1, C.int .i64 x2, C.int .i64 x3, C.list x4] = retOf (F_eg x0 x1 x2 x3 x4) := by kernel_rfl
theorem q_bf (x0 : Bool) (x1 : LL) (x2 : Int) (x3 : LL) (x4 : LL) (x5 : LL) (x6 : Int) (x7 : Int) (x8 : Int) (x9 : Int) : φ_bf [C.bool x0, C.list x1, C.int .i64 x2, C.list x3, C.list x4, C.list x5, C.int .i64 x6, C.int .i64 x7, C.int .i64 x8, C.int .i64 x9] = retOf (F_bf x0 x1 x2 x3 x4 x5 x6 x7 x8 x9) := by kernel_rfl
theorem q_cl (x0 : Bool) (x1 : LL) (x2 : Int) (x3 : LL) (x4 : LL) : φ_cl [C.bool x0, C.list x1, C.int .i64 x2, C.list x3, C.list x4] = retOf (F_cl x0 x1 x2 x3 x4) := by kernel_rfl
theorem q_ax (x0 : LL) : φ_ax [C.list x0] = retOf (F_ax x0) := by kernel_rfl
theorem q_fs (x0 : LL) : φ_fs [C.list x0] = retOf (F_fs x0) := by kernel_rfl
theorem q_fb (x0 : LL) (x1 : Int) (x2 : Int) (x3 : Int) (x4 : LL) : φ_fb [C.list x0, C.int .i64 x1, C.int .i64 x2, C.int .i64 x3, C.list x4] = retOf (F_fb x0 x1 x2 x3 x4) := by kernel_rfl
theorem q_dp (x0 : Bool) (x1 : LL) (x2 : Int) (x3 : LL) (x4 : Int) : φ_dp [C.bool x0, C.list x1, C.int .i64 x2, C.list x3, C.int .i64 x4] = retOf (F_dp x0 x1 x2 x3 x4) := by kernel_rfl
theorem q_em (x0 : LL) (x1 : LL) : φ_em [C.list x0, C.list x1] = retOf (F_em x0 x1) := by kernel_rfl
theorem q_ew (x0 : Bool) (x1 : LL) (x2 : Int) (x3 : LL) (x4 : LL) (x5 : LL) (x6 : Int) (x7 : Int) (x8 : Int) (x9 : LL) : φ_ew [C.bool x0, C.list x1, C.int .i64 x2, C.list x3, C.list x4, C.list x5, C.int .i64 x6, C.int .i64 x7, C.int .i64 x8, C.list x9] = retOf (F_ew x0 x1 x2 x3 x4 x5 x6 x7 x8 x9) := by kernel_rfl
theorem q_ck (x0 : LL) (x1 : Int) (x2 : Int) (x3 : Int) : φ_ck [C.list x0, C.int .i64 x1, C.int .i64 x2, C.int .i64 x3] = retOf (F_ck x0 x1 x2 x3) := by kernel_rfl
theorem q_er (x0 : Int) (x1 : LL) : φ_er [C.int .i64 x0, C.list x1] = retOf (F_er x0 x1) := by kernel_rfl
theorem q_dr (x0 : Int) (x1 : Int) : φ_dr [C.int .i64 x0, C.int .i64 x1] = retOf (F_dr x0 x1) := by kernel_rfl
theorem q_ej (x0 : Int) (x1 : LL) : φ_ej [C.int .i64 x0, C.list x1] = retOf (F_ej x0 x1) := by kernel_rfl
theorem q_at (x0 : LL) : φ_at [C.list x0] = retOf (F_at x0) := by kernel_rfl
theorem q_fn (x0 : LL) (x1 : Int) (x2 : Int) : φ_fn [C.list x0, C.int .i64 x1, C.int .i64 x2] = retOf (F_fn x0 x1 x2) := by kernel_rfl
theorem q_au (x0 : LL) : φ_au [C.list x0] = retOf (F_au x0) := by kernel_rfl
theorem q_ag (x0 : LL) : φ_ag [C.list x0] = retOf (F_ag x0) := by kernel_rfl
theorem q_ao (x0 : LL) : φ_ao [C.list x0] = retOf (F_ao x0) := by kernel_rfl
theorem q_cw (x0 : Int) (x1 : Bool) (x2 : Int) (x3 : LL) (x4 : Int) : φ_cw [C.int .i64 x0, C.bool x1, C.int .i64 x2, C.list x3, C.int .i64 x4] = retOf (F_cw x0 x1 x2 x3 x4) := by kernel_rfl
theorem q_fo (x0 : Bool) (x1 : LL) (x2 : Int) (x3 : LL) (x4 : LL) (x5 : LL) (x6 : Int) (x7 : Int) (x8 : Int) (x9 : Int) : φ_fo [C.bool x0, C.list x1, C.int .i64 x2, C.list x3, C.list x4, C.list x5, C.int .i64 x6, C.int .i64 x7, C.int .i64 x8, C.int .i64 x9] = retOf (F_fo x0 x1 x2 x3 x4 x5 x6 x7 x8 x9) := by kernel_rfl
theorem q_co (x0 : Int) (x1 : Bool) (x2 : Int) (x3 : LL) (x4 : Int) (x5 : Int) : φ_co [C.int .i64 x0, C.bool x1, C.int .i64 x2, C.list x3, C.int .i64 x4, C.int .i64 x5] = retOf (F_co x0 x1 x2 x3 x4 x5) := by kernel_rfl
theorem q_do (x0 : LL) (x1 : Int) : φ_do [C.list x0, C.int .i64 x1] = retOf (F_do x0 x1) := by kernel_rfl
theorem q_di (x0 : LL) (x1 : Int) : φ_di [C.list x0, C.int .i64 x1] = retOf (F_di x0 x1) := by kernel_rfl
theorem q_fi (x0 : Int) (x1 : Int) (x2 : Int) (x3 : Int) : φ_fi [C.int .i64 x0, C.int .i64 x1, C.int .i64 x2, C.int .i64 x3] = retOf (F_fi x0 x1 x2 x3) := by kernel_rfl
theorem q_en (x0 : LL) (x1 : Int) : φ_en [C.list x0, C.int .i64 x1] = retOf (F_en x0 x1) := by kernel_rfl
theorem q_fe (x0 : LL) : φ_fe [C.list x0] = retOf (F_fe x0) := by kernel_rfl
theorem q_ed (x0 : LL) : φ_ed [C.list x0] = retOf (F_ed x0) := by kernel_rfl
theorem q_fx (x0 : LL) (x1 : Int) (x2 : LL) (x3 : Int) : φ_fx [C.list x0, C.int .i64 x1, C.list x2, C.int .i64 x3] = retOf (F_fx x0 x1 x2 x3) := by kernel_rfl
theorem q_bi (x0 : Int) (x1 : Bool) (x2 : Int) (x3 : LL) (x4 : Int) (x5 : Bool) : φ_bi [C.int .i64 x0, C.bool x1, C.int .i64 x2, C.list x3, C.int .i64 x4, C.bool x5] = retOf (F_bi x0 x1 x2 x3 x4 x5) := by kernel_rfl
theorem q_da (x0 : LL) (x1 : Int) (x2 : Bool) : φ_da [C.list x0, C.int .i64 x1, C.bool x2] = retOf (F_da x0 x1 x2) := by kernel_rfl
theorem q_af (x0 : LL) : φ_af [C.list x0] = retOf (F_af x0) := by kernel_rfl
theorem q_br (x0 : LL) (x1 : Int) : φ_br [C.list x0, C.int .i64 x1] = retOf (F_br x0 x1) := by kernel_rfl
theorem q_al (x0 : LL) : φ_al [C.list x0] = retOf (F_al x0) := by kernel_rfl
theorem q_bw (x0 : Int) : φ_bw [C.int .i64 x0] = retOf (F_bw x0) := by kernel_rfl
theorem q_ef (x0 : Int) (x1 : Int) (x2 : LL) : φ_ef [C.int .i64 x0, C.int .i64 x1, C.list x2] = retOf (F_ef x0 x1 x2) := by kernel_rfl
theorem q_bt (x0 : Int) (x1 : Int) (x2 : LL) : φ_bt [C.int .i64 x0, C.int .i64 x1, C.list x2] = retOf (F_bt x0 x1 x2) := by kernel_rfl
theorem q_ec (x0 : Int) : φ_ec [C.int .i64 x0] = retOf (F_ec x0) := by kernel_rfl
end Dx
