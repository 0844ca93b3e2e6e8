import Derived.Test.YtkpnlbinfagpcaaGreatYb
set_option linter.all false
namespace Dx
open Go
theorem q_eb(x0:Bool)(x1:LL)(x2:Int)(x3:LL)(x4:LL)(x5:LL)(x6:Int)(x7:Int)(x8:Int)(x9:LL):mm [.bool x0,.list x1,.int .i64 x2,.list x3,.list x4,.list x5,.int .i64 x6,.int .i64 x7,.int .i64 x8,.list x9]=ah (F_eb x0 x1 x2 x3 x4 x5 x6 x7 x8 x9):=by kernel_rfl
theorem q_ek(x0:Int)(x1:Bool)(x2:Int)(x3:LL)(x4:Int)(x5:Int)(x6:Int)(x7:Int)(x8:Int):vU [.int .i64 x0,.bool x1,.int .i64 x2,.list x3,.int .i64 x4,.int .i64 x5,.int .i64 x6,.int .i64 x7,.int .i64 x8]=ah (F_ek x0 x1 x2 x3 x4 x5 x6 x7 x8):=by kernel_rfl
theorem q_ej(x0:Bool)(x1:LL)(x2:Int)(x3:LL)(x4:LL)(x5:LL):xb [.bool x0,.list x1,.int .i64 x2,.list x3,.list x4,.list x5]=ah (F_ej x0 x1 x2 x3 x4 x5):=by kernel_rfl
theorem q_ct(x0:Int)(x1:Bool)(x2:Int)(x3:LL)(x4:Int)(x5:Int)(x6:Int)(x7:Int)(x8:Int):pU [.int .i64 x0,.bool x1,.int .i64 x2,.list x3,.int .i64 x4,.int .i64 x5,.int .i64 x6,.int .i64 x7,.int .i64 x8]=ah (F_ct x0 x1 x2 x3 x4 x5 x6 x7 x8):=by kernel_rfl
theorem q_ay(x0:Int)(x1:Bool)(x2:Int)(x3:LL)(x4:Int)(x5:Int)(x6:Int)(x7:Int)(x8:Int):wE [.int .i64 x0,.bool x1,.int .i64 x2,.list x3,.int .i64 x4,.int .i64 x5,.int .i64 x6,.int .i64 x7,.int .i64 x8]=ah (F_ay x0 x1 x2 x3 x4 x5 x6 x7 x8):=by kernel_rfl
theorem q_bk(x0:Bool)(x1:LL)(x2:Int)(x3:LL)(x4:LL)(x5:LL):xf [.bool x0,.list x1,.int .i64 x2,.list x3,.list x4,.list x5]=ah (F_bk x0 x1 x2 x3 x4 x5):=by kernel_rfl
theorem q_fc(x0:LL)(x1:Int)(x2:Int)(x3:LL):wi [.list x0,.int .i64 x1,.int .i64 x2,.list x3]=ah (F_fc x0 x1 x2 x3):=by kernel_rfl
theorem q_cl(x0:Int)(x1:Bool)(x2:Int)(x3:LL)(x4:Int)(x5:Int)(x6:Int)(x7:Int)(x8:Int)(x9:Int):sC [.int .i64 x0,.bool x1,.int .i64 x2,.list x3,.int .i64 x4,.int .i64 x5,.int .i64 x6,.int .i64 x7,.int .i64 x8,.int .i64 x9]=ah (Fy x0 x1 x2 x3 x4 x5 x6 x7 x8 x9):=by kernel_rfl
theorem q_bx(x0:LL)(x1:Int):xa [.list x0,.int .i64 x1]=ah (F_bx x0 x1):=by kernel_rfl
theorem q_gr(x0:Bool)(x1:LL)(x2:Int)(x3:LL):vJ [.bool x0,.list x1,.int .i64 x2,.list x3]=ah (F_gr x0 x1 x2 x3):=by kernel_rfl
theorem q_cx(x0:Bool)(x1:LL)(x2:Int)(x3:LL)(x4:Int)(x5:Int)(x6:Int)(x7:Int):lz [.bool x0,.list x1,.int .i64 x2,.list x3,.int .i64 x4,.int .i64 x5,.int .i64 x6,.int .i64 x7]=ah (F_cx x0 x1 x2 x3 x4 x5 x6 x7):=by kernel_rfl
theorem q_bd(x0:Bool)(x1:LL)(x2:Int)(x3:LL)(x4:LL)(x5:LL)(x6:Int)(x7:Int)(x8:Int)(x9:Int):sO [.bool x0,.list x1,.int .i64 x2,.list x3,.list x4,.list x5,.int .i64 x6,.int .i64 x7,.int .i64 x8,.int .i64 x9]=ah (F_bd x0 x1 x2 x3 x4 x5 x6 x7 x8 x9):=by kernel_rfl
theorem q_cz(x0:LL):xo [.list x0]=ah (F_cz x0):=by kernel_rfl
theorem q_bt(x0:LL)(x1:Int):wX [.list x0,.int .i64 x1]=ah (F_bt x0 x1):=by kernel_rfl
theorem q_ac(x0:Bool)(x1:LL)(x2:Int)(x3:LL)(x4:LL)(x5:LL)(x6:Int):pY [.bool x0,.list x1,.int .i64 x2,.list x3,.list x4,.list x5,.int .i64 x6]=ah (IF x0 x1 x2 x3 x4 x5 x6):=by kernel_rfl
theorem q_co(x0:Bool)(x1:LL)(x2:Int)(x3:LL)(x4:LL)(x5:LL)(x6:Int):xc [.bool x0,.list x1,.int .i64 x2,.list x3,.list x4,.list x5,.int .i64 x6]=ah (F_co x0 x1 x2 x3 x4 x5 x6):=by kernel_rfl
theorem q_by(x0:Bool)(x1:LL)(x2:Int)(x3:LL)(x4:Int)(x5:Int)(x6:LL):mj [.bool x0,.list x1,.int .i64 x2,.list x3,.int .i64 x4,.int .i64 x5,.list x6]=ah (F_by x0 x1 x2 x3 x4 x5 x6):=by kernel_rfl
theorem q_em(x0:Bool)(x1:LL)(x2:Int)(x3:LL)(x4:LL)(x5:LL)(x6:Int)(x7:Int)(x8:Int)(x9:Int):mf [.bool x0,.list x1,.int .i64 x2,.list x3,.list x4,.list x5,.int .i64 x6,.int .i64 x7,.int .i64 x8,.int .i64 x9]=ah (F_em x0 x1 x2 x3 x4 x5 x6 x7 x8 x9):=by kernel_rfl
theorem q_go(x0:LL)(x1:Int)(x2:Int)(x3:LL):pr [.list x0,.int .i64 x1,.int .i64 x2,.list x3]=ah (F_go x0 x1 x2 x3):=by kernel_rfl
theorem q_ar(x0:LL):xd [.list x0]=ah (F_ar x0):=by kernel_rfl
theorem q_hk(x0:LL):lr [.list x0]=ah (F_hk x0):=by kernel_rfl
theorem q_ce(x0:LL)(x1:Int):qb [.list x0,.int .i64 x1]=ah (F_ce x0 x1):=by kernel_rfl
theorem q_gy(x0:Int)(x1:LL)(x2:Int)(x3:Int)(x4:LL):pw [.int .i64 x0,.list x1,.int .i64 x2,.int .i64 x3,.list x4]=ah (F_gy x0 x1 x2 x3 x4):=by kernel_rfl
theorem q_do(x0:LL):xh [.list x0]=ah (F_do x0):=by kernel_rfl
theorem q_dp(x0:Bool)(x1:LL)(x2:Int)(x3:LL)(x4:Int):wD [.bool x0,.list x1,.int .i64 x2,.list x3,.int .i64 x4]=ah (F_dp x0 x1 x2 x3 x4):=by kernel_rfl
theorem q_dt(x0:LL)(x1:Int):vz [.list x0,.int .i64 x1]=ah (F_dt x0 x1):=by kernel_rfl
theorem q_bs(x0:Int)(x1:LL):pK [.int .i64 x0,.list x1]=ah (F_bs x0 x1):=by kernel_rfl
theorem q_gb(x0:Int)(x1:Int)(x2:Int)(x3:Int):iK [.int .i64 x0,.int .i64 x1,.int .i64 x2,.int .i64 x3]=ah (F_gb x0 x1 x2 x3):=by kernel_rfl
theorem q_fi(x0:Bool)(x1:LL)(x2:Int)(x3:LL)(x4:LL)(x5:LL)(x6:Int)(x7:Int)(x8:Int)(x9:LL):vW [.bool x0,.list x1,.int .i64 x2,.list x3,.list x4,.list x5,.int .i64 x6,.int .i64 x7,.int .i64 x8,.list x9]=ah (F_fi x0 x1 x2 x3 x4 x5 x6 x7 x8 x9):=by kernel_rfl
theorem q_gq(x0:Bool)(x1:LL)(x2:Int)(x3:LL)(x4:Int)(x5:LL)(x6:Int):vR [.bool x0,.list x1,.int .i64 x2,.list x3,.int .i64 x4,.list x5,.int .i64 x6]=ah (F_gq x0 x1 x2 x3 x4 x5 x6):=by kernel_rfl
theorem q_bw(x0:Bool)(x1:LL)(x2:Int)(x3:LL)(x4:Int)(x5:Int)(x6:LL):gb [.bool x0,.list x1,.int .i64 x2,.list x3,.int .i64 x4,.int .i64 x5,.list x6]=ah (F_bw x0 x1 x2 x3 x4 x5 x6):=by kernel_rfl
theorem q_db(x0:Int)(x1:Int):xj [.int .i64 x0,.int .i64 x1]=ah (F_db x0 x1):=by kernel_rfl
theorem q_gp(x0:LL)(x1:Int):py [.list x0,.int .i64 x1]=ah (F_gp x0 x1):=by kernel_rfl
theorem q_gg(x0:LL):lq [.list x0]=ah (F_gg x0):=by kernel_rfl
theorem q_fo(x0:LL):pJ [.list x0]=ah (F_fo x0):=by kernel_rfl
theorem q_ca(x0:Bool)(x1:LL)(x2:Int)(x3:LL)(x4:LL)(x5:LL)(x6:Int):jC [.bool x0,.list x1,.int .i64 x2,.list x3,.list x4,.list x5,.int .i64 x6]=ah (F_ca x0 x1 x2 x3 x4 x5 x6):=by kernel_rfl
theorem q_at(x0:LL)(x1:Int)(x2:Int)(x3:Int)(x4:Int):wj [.list x0,.int .i64 x1,.int .i64 x2,.int .i64 x3,.int .i64 x4]=ah (F_at x0 x1 x2 x3 x4):=by kernel_rfl
theorem q_aj(x0:LL):wA [.list x0]=ah (F_aj x0):=by kernel_rfl
theorem q_gl(x0:Bool)(x1:LL)(x2:Int)(x3:LL)(x4:Bool)(x5:LL)(x6:Int)(x7:LL):wS [.bool x0,.list x1,.int .i64 x2,.list x3,.bool x4,.list x5,.int .i64 x6,.list x7]=ah (F_gl x0 x1 x2 x3 x4 x5 x6 x7):=by kernel_rfl
theorem q_bi(x0:LL):mh [.list x0]=ah (F_bi x0):=by kernel_rfl
theorem q_di(x0:LL)(x1:Int):iO [.list x0,.int .i64 x1]=ah (F_di x0 x1):=by kernel_rfl
theorem q_ao(x0:LL):v7 [.list x0]=ah (F_ao x0):=by kernel_rfl
theorem q_hh(x0:LL)(x1:Int):gz [.list x0,.int .i64 x1]=ah (F_hh x0 x1):=by kernel_rfl
theorem q_fz(x0:Bool)(x1:LL)(x2:Int)(x3:LL)(x4:LL)(x5:LL)(x6:Int)(x7:Int)(x8:Int)(x9:Int):me [.bool x0,.list x1,.int .i64 x2,.list x3,.list x4,.list x5,.int .i64 x6,.int .i64 x7,.int .i64 x8,.int .i64 x9]=ah (F_fz x0 x1 x2 x3 x4 x5 x6 x7 x8 x9):=by kernel_rfl
theorem q_da(x0:Bool)(x1:LL)(x2:Int)(x3:LL)(x4:Int):wI [.bool x0,.list x1,.int .i64 x2,.list x3,.int .i64 x4]=ah (F_da x0 x1 x2 x3 x4):=by kernel_rfl
theorem q_hg(x0:LL)(x1:Int)(x2:Int)(x3:Int)(x4:LL):pA [.list x0,.int .i64 x1,.int .i64 x2,.int .i64 x3,.list x4]=ah (F_hg x0 x1 x2 x3 x4):=by kernel_rfl
theorem q_dv(x0:LL)(x1:Int):pV [.list x0,.int .i64 x1]=ah (F_dv x0 x1):=by kernel_rfl
theorem q_cn(x0:Bool)(x1:LL)(x2:Int)(x3:LL)(x4:LL)(x5:LL)(x6:Int):lD [.bool x0,.list x1,.int .i64 x2,.list x3,.list x4,.list x5,.int .i64 x6]=ah (F_cn x0 x1 x2 x3 x4 x5 x6):=by kernel_rfl
theorem q_es(x0:LL)(x1:Int):pH [.list x0,.int .i64 x1]=ah (F_es x0 x1):=by kernel_rfl
theorem q_ew(x0:Bool)(x1:LL)(x2:Int)(x3:LL):vO [.bool x0,.list x1,.int .i64 x2,.list x3]=ah (F_ew x0 x1 x2 x3):=by kernel_rfl
theorem q_ge(x0:LL)(x1:Int):pg [.list x0,.int .i64 x1]=ah (F_ge x0 x1):=by kernel_rfl
theorem q_dy(x0:Bool)(x1:LL)(x2:Int)(x3:LL)(x4:Int):wW [.bool x0,.list x1,.int .i64 x2,.list x3,.int .i64 x4]=ah (F_dy x0 x1 x2 x3 x4):=by kernel_rfl
theorem q_ft(x0:Int)(x1:Int)(x2:Int)(x3:LL)(x4:Int):pm [.int .i64 x0,.int .i64 x1,.int .i64 x2,.list x3,.int .i64 x4]=ah (F_ft x0 x1 x2 x3 x4):=by kernel_rfl
theorem q_ev(x0:LL)(x1:Int)(x2:Int):w8 [.list x0,.int .i64 x1,.int .i64 x2]=ah (F_ev x0 x1 x2):=by kernel_rfl
theorem q_ho(x0:Int)(x1:Int)(x2:Int):bv [.int .i64 x0,.int .i64 x1,.int .i64 x2]=ah (F_ho x0 x1 x2):=by kernel_rfl
theorem q_ap(x0:LL)(x1:Int)(x2:Int)(x3:Int)(x4:Int):lw [.list x0,.int .i64 x1,.int .i64 x2,.int .i64 x3,.int .i64 x4]=ah (F_ap x0 x1 x2 x3 x4):=by kernel_rfl
theorem q_ae(x0:LL):wu [.list x0]=ah (F_ae x0):=by kernel_rfl
theorem q_ah(x0:LL):wc [.list x0]=ah (F_ah x0):=by kernel_rfl
theorem q_al(x0:LL):vZ [.list x0]=ah (F_al x0):=by kernel_rfl
theorem q_bp(x0:Bool)(x1:LL)(x2:Int)(x3:LL)(x4:Bool):eU [.bool x0,.list x1,.int .i64 x2,.list x3,.bool x4]=ah (F_bp x0 x1 x2 x3 x4):=by kernel_rfl
theorem q_et(x0:Int)(x1:Bool)(x2:Int)(x3:LL)(x4:Int):vF [.int .i64 x0,.bool x1,.int .i64 x2,.list x3,.int .i64 x4]=ah (F_et x0 x1 x2 x3 x4):=by kernel_rfl
theorem q_cw(x0:Int)(x1:Int):wo [.int .i64 x0,.int .i64 x1]=ah (F_cw x0 x1):=by kernel_rfl
theorem q_fq:xi []=ah (F_fq):=by kernel_rfl
theorem q_ey:xm []=ah (F_ey):=by kernel_rfl
theorem q_hj(x0:Int)(x1:Int)(x2:LL):vA [.int .i64 x0,.int .i64 x1,.list x2]=ah (F_hj x0 x1 x2):=by kernel_rfl
theorem q_bg(x0:Int)(x1:Int)(x2:Int)(x3:Int):gA [.int .i64 x0,.int .i64 x1,.int .i64 x2,.int .i64 x3]=ah (F_bg x0 x1 x2 x3):=by kernel_rfl
end Dx
