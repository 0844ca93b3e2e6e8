import Derived.Test.YtahfbeiobndhkaaGreatYb
set_option linter.all false
namespace Dx
open Go
theorem q_fd(x0:Bool)(x1:LL)(x2:Int)(x3:LL)(x4:LL)(x5:LL)(x6:Int):tu [.bool x0,.list x1,.int .i64 x2,.list x3,.list x4,.list x5,.int .i64 x6]=aj (F_fd x0 x1 x2 x3 x4 x5 x6):=by kernel_rfl
theorem q_au(x0:Int)(x1:Bool)(x2:Int)(x3:LL)(x4:Int)(x5:Int)(x6:Int)(x7:Int)(x8:Int):xk [.int .i64 x0,.bool x1,.int .i64 x2,.list x3,.int .i64 x4,.int .i64 x5,.int .i64 x6,.int .i64 x7,.int .i64 x8]=aj (F_au x0 x1 x2 x3 x4 x5 x6 x7 x8):=by kernel_rfl
theorem q_cm(x0:LL)(x1:Int)(x2:Int):aL [.list x0,.int .i64 x1,.int .i64 x2]=aj (F_cm x0 x1 x2):=by kernel_rfl
theorem q_ff(x0:LL)(x1:Int):qQ [.list x0,.int .i64 x1]=aj (F_ff x0 x1):=by kernel_rfl
theorem q_cj(x0:Int)(x1:Bool)(x2:Int)(x3:LL)(x4:Int)(x5:Int)(x6:Int)(x7:Int)(x8:Int)(x9:Int):tD [.int .i64 x0,.bool x1,.int .i64 x2,.list x3,.int .i64 x4,.int .i64 x5,.int .i64 x6,.int .i64 x7,.int .i64 x8,.int .i64 x9]=aj (E4 x0 x1 x2 x3 x4 x5 x6 x7 x8 x9):=by kernel_rfl
theorem q_fw(x0:Bool)(x1:LL)(x2:Int)(x3:LL)(x4:LL)(x5:LL)(x6:Int)(x7:Int)(x8:Int)(x9:LL):qp [.bool x0,.list x1,.int .i64 x2,.list x3,.list x4,.list x5,.int .i64 x6,.int .i64 x7,.int .i64 x8,.list x9]=aj (C8 x0 x1 x2 x3 x4 x5 x6 x7 x8 x9):=by kernel_rfl
theorem q_gf(x0:Int)(x1:Int)(x2:LL):gZ [.int .i64 x0,.int .i64 x1,.list x2]=aj (F_gf x0 x1 x2):=by kernel_rfl
theorem q_cq(x0:Bool)(x1:LL)(x2:Int)(x3:LL)(x4:Int)(x5:Int)(x6:Int)(x7:Int):qH [.bool x0,.list x1,.int .i64 x2,.list x3,.int .i64 x4,.int .i64 x5,.int .i64 x6,.int .i64 x7]=aj (F_cq x0 x1 x2 x3 x4 x5 x6 x7):=by kernel_rfl
theorem q_es(x0:Bool)(x1:LL)(x2:Int)(x3:LL)(x4:Int)(x5:Int)(x6:Int)(x7:Int):qm [.bool x0,.list x1,.int .i64 x2,.list x3,.int .i64 x4,.int .i64 x5,.int .i64 x6,.int .i64 x7]=aj (F_es x0 x1 x2 x3 x4 x5 x6 x7):=by kernel_rfl
theorem q_gq(x0:Int)(x1:LL):mh [.int .i64 x0,.list x1]=aj (F_gq x0 x1):=by kernel_rfl
theorem uD(x0:Int)(x1:LL)(x2:Int)(x3:Int)(x4:LL):di [.int .i64 x0,.list x1,.int .i64 x2,.int .i64 x3,.list x4]=aj (lH x0 x1 x2 x3 x4):=by kernel_rfl
theorem q_et(x0:Bool)(x1:LL)(x2:Int)(x3:LL)(x4:LL)(x5:LL):xD [.bool x0,.list x1,.int .i64 x2,.list x3,.list x4,.list x5]=aj (F_et x0 x1 x2 x3 x4 x5):=by kernel_rfl
theorem q_ev(x0:Int)(x1:LL)(x2:Int)(x3:Int)(x4:LL):xe [.int .i64 x0,.list x1,.int .i64 x2,.int .i64 x3,.list x4]=aj (F_ev x0 x1 x2 x3 x4):=by kernel_rfl
theorem q_ab(x0:Bool)(x1:LL)(x2:Int)(x3:LL)(x4:LL)(x5:LL)(x6:Int):xr [.bool x0,.list x1,.int .i64 x2,.list x3,.list x4,.list x5,.int .i64 x6]=aj (Hx x0 x1 x2 x3 x4 x5 x6):=by kernel_rfl
theorem q_ad(x0:Bool)(x1:LL)(x2:Int)(x3:LL)(x4:LL)(x5:LL)(x6:Int):xz [.bool x0,.list x1,.int .i64 x2,.list x3,.list x4,.list x5,.int .i64 x6]=aj (HI x0 x1 x2 x3 x4 x5 x6):=by kernel_rfl
theorem q_ga(x0:Int)(x1:Int)(x2:Int)(x3:Int):hD [.int .i64 x0,.int .i64 x1,.int .i64 x2,.int .i64 x3]=aj (F_ga x0 x1 x2 x3):=by kernel_rfl
theorem q_gn(x0:Int)(x1:LL)(x2:Int)(x3:Int)(x4:LL):qn [.int .i64 x0,.list x1,.int .i64 x2,.int .i64 x3,.list x4]=aj (F_gn x0 x1 x2 x3 x4):=by kernel_rfl
theorem q_fs(x0:LL)(x1:LL):jp [.list x0,.list x1]=aj (F_fs x0 x1):=by kernel_rfl
theorem q_em(x0:LL)(x1:LL):iN [.list x0,.list x1]=aj (F_em x0 x1):=by kernel_rfl
theorem q_gj(x0:LL)(x1:Int)(x2:LL)(x3:Int):qR [.list x0,.int .i64 x1,.list x2,.int .i64 x3]=aj (F_gj x0 x1 x2 x3):=by kernel_rfl
theorem q_fo(x0:Bool)(x1:LL)(x2:Int)(x3:LL)(x4:Int)(x5:LL)(x6:Int):wC [.bool x0,.list x1,.int .i64 x2,.list x3,.int .i64 x4,.list x5,.int .i64 x6]=aj (F_fo x0 x1 x2 x3 x4 x5 x6):=by kernel_rfl
theorem q_ew(x0:Int)(x1:Int):w8 [.int .i64 x0,.int .i64 x1]=aj (F_ew x0 x1):=by kernel_rfl
theorem q_eh(x0:Int)(x1:LL):qA [.int .i64 x0,.list x1]=aj (F_eh x0 x1):=by kernel_rfl
theorem q_fq(x0:LL)(x1:Int):qM [.list x0,.int .i64 x1]=aj (F_fq x0 x1):=by kernel_rfl
theorem q_ed(x0:LL):qx [.list x0]=aj (F_ed x0):=by kernel_rfl
theorem q_dl(x0:Bool)(x1:LL)(x2:Int)(x3:LL)(x4:Int)(x5:Int)(x6:Int)(x7:Int):gF [.bool x0,.list x1,.int .i64 x2,.list x3,.int .i64 x4,.int .i64 x5,.int .i64 x6,.int .i64 x7]=aj (F_dl x0 x1 x2 x3 x4 x5 x6 x7):=by kernel_rfl
theorem q_cd(x0:Bool)(x1:LL)(x2:Int)(x3:LL):xp [.bool x0,.list x1,.int .i64 x2,.list x3]=aj (F_cd x0 x1 x2 x3):=by kernel_rfl
theorem q_eb(x0:LL)(x1:Int)(x2:Int):qJ [.list x0,.int .i64 x1,.int .i64 x2]=aj (F_eb x0 x1 x2):=by kernel_rfl
theorem q_at(x0:LL):xd [.list x0]=aj (F_at x0):=by kernel_rfl
theorem q_ee(x0:Int)(x1:Bool)(x2:Int)(x3:LL)(x4:Int)(x5:Int)(x6:Bool)(x7:Int)(x8:LL)(x9:Int):qO [.int .i64 x0,.bool x1,.int .i64 x2,.list x3,.int .i64 x4,.int .i64 x5,.bool x6,.int .i64 x7,.list x8,.int .i64 x9]=aj (F_ee x0 x1 x2 x3 x4 x5 x6 x7 x8 x9):=by kernel_rfl
theorem q_ao(x0:LL):wL [.list x0]=aj (F_ao x0):=by kernel_rfl
theorem q_ch(x0:Int)(x1:Bool)(x2:Int)(x3:LL)(x4:Int):xy [.int .i64 x0,.bool x1,.int .i64 x2,.list x3,.int .i64 x4]=aj (F_ch x0 x1 x2 x3 x4):=by kernel_rfl
theorem q_el(x0:Int)(x1:Bool)(x2:Int)(x3:LL)(x4:Int):hP [.int .i64 x0,.bool x1,.int .i64 x2,.list x3,.int .i64 x4]=aj (F_el x0 x1 x2 x3 x4):=by kernel_rfl
theorem q_cz(x0:Int)(x1:Bool)(x2:Int)(x3:LL)(x4:Int)(x5:Int):xu [.int .i64 x0,.bool x1,.int .i64 x2,.list x3,.int .i64 x4,.int .i64 x5]=aj (F_cz x0 x1 x2 x3 x4 x5):=by kernel_rfl
theorem q_dj(x0:LL):qu [.list x0]=aj (F_dj x0):=by kernel_rfl
theorem q_ef(x0:Int)(x1:Bool)(x2:Int)(x3:LL)(x4:Int):xA [.int .i64 x0,.bool x1,.int .i64 x2,.list x3,.int .i64 x4]=aj (F_ef x0 x1 x2 x3 x4):=by kernel_rfl
theorem q_fx(x0:Int)(x1:Int)(x2:Int)(x3:Int):wE [.int .i64 x0,.int .i64 x1,.int .i64 x2,.int .i64 x3]=aj (F_fx x0 x1 x2 x3):=by kernel_rfl
theorem q_ex(x0:LL)(x1:Int):qv [.list x0,.int .i64 x1]=aj (F_ex x0 x1):=by kernel_rfl
theorem q_en(x0:Bool)(x1:LL)(x2:Int)(x3:LL):mo [.bool x0,.list x1,.int .i64 x2,.list x3]=aj (F_en x0 x1 x2 x3):=by kernel_rfl
theorem q_co(x0:Bool)(x1:LL)(x2:Int)(x3:LL):jq [.bool x0,.list x1,.int .i64 x2,.list x3]=aj (F_co x0 x1 x2 x3):=by kernel_rfl
theorem q_ca(x0:Int)(x1:Int)(x2:LL):xB [.int .i64 x0,.int .i64 x1,.list x2]=aj (F_ca x0 x1 x2):=by kernel_rfl
theorem q_br(x0:Int)(x1:Bool)(x2:Int)(x3:LL)(x4:Int)(x5:Int)(x6:Int)(x7:Int)(x8:LL):xv [.int .i64 x0,.bool x1,.int .i64 x2,.list x3,.int .i64 x4,.int .i64 x5,.int .i64 x6,.int .i64 x7,.list x8]=aj (F_br x0 x1 x2 x3 x4 x5 x6 x7 x8):=by kernel_rfl
theorem q_gs(x0:Int)(x1:Int)(x2:Int):bE [.int .i64 x0,.int .i64 x1,.int .i64 x2]=aj (F_gs x0 x1 x2):=by kernel_rfl
theorem q_cv(x0:LL)(x1:Int)(x2:Bool):qD [.list x0,.int .i64 x1,.bool x2]=aj (F_cv x0 x1 x2):=by kernel_rfl
theorem q_ey(x0:Bool)(x1:LL)(x2:Int)(x3:LL)(x4:Int):wI [.bool x0,.list x1,.int .i64 x2,.list x3,.int .i64 x4]=aj (F_ey x0 x1 x2 x3 x4):=by kernel_rfl
theorem q_ac(x0:LL):xh [.list x0]=aj (F_ac x0):=by kernel_rfl
theorem q_al(x0:LL):wM [.list x0]=aj (F_al x0):=by kernel_rfl
theorem q_cp(x0:Int)(x1:Int)(x2:Int)(x3:Int):xf [.int .i64 x0,.int .i64 x1,.int .i64 x2,.int .i64 x3]=aj (F_cp x0 x1 x2 x3):=by kernel_rfl
theorem q_eg(x0:Int)(x1:Bool)(x2:Int)(x3:LL)(x4:Int):xC [.int .i64 x0,.bool x1,.int .i64 x2,.list x3,.int .i64 x4]=aj (F_eg x0 x1 x2 x3 x4):=by kernel_rfl
theorem q_cl(x0:Bool)(x1:LL)(x2:Int)(x3:LL)(x4:Int)(x5:Int)(x6:Int):qF [.bool x0,.list x1,.int .i64 x2,.list x3,.int .i64 x4,.int .i64 x5,.int .i64 x6]=aj (F_cl x0 x1 x2 x3 x4 x5 x6):=by kernel_rfl
theorem q_bu(x0:Int)(x1:Int)(x2:LL):qB [.int .i64 x0,.int .i64 x1,.list x2]=aj (F_bu x0 x1 x2):=by kernel_rfl
theorem q_bg(x0:Int)(x1:Int)(x2:Int)(x3:Int):jl [.int .i64 x0,.int .i64 x1,.int .i64 x2,.int .i64 x3]=aj (F_bg x0 x1 x2 x3):=by kernel_rfl
end Dx
