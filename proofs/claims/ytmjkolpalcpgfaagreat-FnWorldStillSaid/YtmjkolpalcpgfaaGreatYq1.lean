import Derived.Test.YtmjkolpalcpgfaaGreatYb
set_option linter.all false
namespace Dx
open Go
theorem q_fo(x0:Bool)(x1:LL)(x2:Int)(x3:LL)(x4:LL)(x5:LL)(x6:Int):t7 [.bool x0,.list x1,.int .i64 x2,.list x3,.list x4,.list x5,.int .i64 x6]=ah (F_fo x0 x1 x2 x3 x4 x5 x6):=by kernel_rfl
theorem q_dp(x0:LL)(x1:Int):nH [.list x0,.int .i64 x1]=ah (F_dp x0 x1):=by kernel_rfl
theorem q_co(x0:Int)(x1:Bool)(x2:Int)(x3:LL)(x4:Int)(x5:Int)(x6:Int)(x7:Int)(x8:Int):rn [.int .i64 x0,.bool x1,.int .i64 x2,.list x3,.int .i64 x4,.int .i64 x5,.int .i64 x6,.int .i64 x7,.int .i64 x8]=ah (F_co x0 x1 x2 x3 x4 x5 x6 x7 x8):=by kernel_rfl
theorem q_bw(x0:Bool)(x1:LL)(x2:Int)(x3:LL):mM [.bool x0,.list x1,.int .i64 x2,.list x3]=ah (F_bw x0 x1 x2 x3):=by kernel_rfl
theorem q_ep(x0:Bool)(x1:LL)(x2:Int)(x3:LL)(x4:LL)(x5:LL)(x6:Int)(x7:Int)(x8:Int)(x9:LL):w9 [.bool x0,.list x1,.int .i64 x2,.list x3,.list x4,.list x5,.int .i64 x6,.int .i64 x7,.int .i64 x8,.list x9]=ah (CB x0 x1 x2 x3 x4 x5 x6 x7 x8 x9):=by kernel_rfl
theorem q_gc(x0:Bool)(x1:LL)(x2:Int)(x3:LL)(x4:LL)(x5:LL)(x6:Int)(x7:Int)(x8:Int)(x9:LL):qO [.bool x0,.list x1,.int .i64 x2,.list x3,.list x4,.list x5,.int .i64 x6,.int .i64 x7,.int .i64 x8,.list x9]=ah (DJ x0 x1 x2 x3 x4 x5 x6 x7 x8 x9):=by kernel_rfl
theorem q_bm(x0:LL):rB [.list x0]=ah (F_bm x0):=by kernel_rfl
theorem q_dq(x0:Bool)(x1:LL)(x2:Int)(x3:LL)(x4:LL)(x5:LL)(x6:Int):qP [.bool x0,.list x1,.int .i64 x2,.list x3,.list x4,.list x5,.int .i64 x6]=ah (F_dq x0 x1 x2 x3 x4 x5 x6):=by kernel_rfl
theorem q_ay(x0:LL):xg [.list x0]=ah (F_ay x0):=by kernel_rfl
theorem q_cy(x0:LL)(x1:LL):g0 [.list x0,.list x1]=ah (F_cy x0 x1):=by kernel_rfl
theorem q_dv(x0:LL):qJ [.list x0]=ah (F_dv x0):=by kernel_rfl
theorem q_fp(x0:Bool)(x1:LL)(x2:Int)(x3:LL)(x4:LL)(x5:LL)(x6:Bool)(x7:LL)(x8:Int)(x9:LL)(x10:LL)(x11:LL):cY [.bool x0,.list x1,.int .i64 x2,.list x3,.list x4,.list x5,.bool x6,.list x7,.int .i64 x8,.list x9,.list x10,.list x11]=ah (F_fp x0 x1 x2 x3 x4 x5 x6 x7 x8 x9 x10 x11):=by kernel_rfl
theorem q_cu(x0:Bool)(x1:LL)(x2:Int)(x3:LL)(x4:LL)(x5:LL)(x6:Int):ru [.bool x0,.list x1,.int .i64 x2,.list x3,.list x4,.list x5,.int .i64 x6]=ah (F_cu x0 x1 x2 x3 x4 x5 x6):=by kernel_rfl
theorem q_et(x0:Bool)(x1:LL)(x2:Int)(x3:LL)(x4:LL)(x5:LL)(x6:Int)(x7:Int)(x8:Int)(x9:Int):nF [.bool x0,.list x1,.int .i64 x2,.list x3,.list x4,.list x5,.int .i64 x6,.int .i64 x7,.int .i64 x8,.int .i64 x9]=ah (F_et x0 x1 x2 x3 x4 x5 x6 x7 x8 x9):=by kernel_rfl
theorem q_fb(x0:Bool)(x1:LL)(x2:Int)(x3:LL)(x4:LL)(x5:LL):rt [.bool x0,.list x1,.int .i64 x2,.list x3,.list x4,.list x5]=ah (F_fb x0 x1 x2 x3 x4 x5):=by kernel_rfl
theorem q_ba(x0:Bool)(x1:LL)(x2:Int)(x3:LL)(x4:LL)(x5:LL)(x6:Int)(x7:Int)(x8:Int)(x9:Int):xN [.bool x0,.list x1,.int .i64 x2,.list x3,.list x4,.list x5,.int .i64 x6,.int .i64 x7,.int .i64 x8,.int .i64 x9]=ah (F_ba x0 x1 x2 x3 x4 x5 x6 x7 x8 x9):=by kernel_rfl
theorem q_ga(x0:LL)(x1:Int)(x2:Int)(x3:LL):qK [.list x0,.int .i64 x1,.int .i64 x2,.list x3]=ah (F_ga x0 x1 x2 x3):=by kernel_rfl
theorem q_ax(x0:LL):gZ [.list x0]=ah (F_ax x0):=by kernel_rfl
theorem q_ge(x0:Int)(x1:Int)(x2:Int)(x3:Int):jS [.int .i64 x0,.int .i64 x1,.int .i64 x2,.int .i64 x3]=ah (F_ge x0 x1 x2 x3):=by kernel_rfl
theorem q_gh(x0:Int)(x1:LL):xc [.int .i64 x0,.list x1]=ah (F_gh x0 x1):=by kernel_rfl
theorem q_gm(x0:Int)(x1:Int)(x2:LL):jP [.int .i64 x0,.int .i64 x1,.list x2]=ah (F_gm x0 x1 x2):=by kernel_rfl
theorem q_cj(x0:Int)(x1:LL):mJ [.int .i64 x0,.list x1]=ah (F_cj x0 x1):=by kernel_rfl
theorem q_fv(x0:Int)(x1:Int)(x2:Int)(x3:Int):jQ [.int .i64 x0,.int .i64 x1,.int .i64 x2,.int .i64 x3]=ah (F_fv x0 x1 x2 x3):=by kernel_rfl
theorem q_gd(x0:Bool)(x1:LL)(x2:Int)(x3:LL)(x4:Int)(x5:LL)(x6:Int):xa [.bool x0,.list x1,.int .i64 x2,.list x3,.int .i64 x4,.list x5,.int .i64 x6]=ah (F_gd x0 x1 x2 x3 x4 x5 x6):=by kernel_rfl
theorem q_fe(x0:Int)(x1:Int):xy [.int .i64 x0,.int .i64 x1]=ah (F_fe x0 x1):=by kernel_rfl
theorem q_dm(x0:Bool)(x1:LL)(x2:Int)(x3:LL)(x4:Int)(x5:Int)(x6:LL):ec [.bool x0,.list x1,.int .i64 x2,.list x3,.int .i64 x4,.int .i64 x5,.list x6]=ah (F_dm x0 x1 x2 x3 x4 x5 x6):=by kernel_rfl
theorem q_fx(x0:LL)(x1:Int):rq [.list x0,.int .i64 x1]=ah (F_fx x0 x1):=by kernel_rfl
theorem q_ci(x0:Int)(x1:Bool)(x2:Int)(x3:LL)(x4:Int):xI [.int .i64 x0,.bool x1,.int .i64 x2,.list x3,.int .i64 x4]=ah (F_ci x0 x1 x2 x3 x4):=by kernel_rfl
theorem q_eo(x0:LL)(x1:Int)(x2:Int)(x3:Int)(x4:Int):iB [.list x0,.int .i64 x1,.int .i64 x2,.int .i64 x3,.int .i64 x4]=ah (F_eo x0 x1 x2 x3 x4):=by kernel_rfl
theorem q_as(x0:LL)(x1:Int)(x2:Int)(x3:Int)(x4:Int):xw [.list x0,.int .i64 x1,.int .i64 x2,.int .i64 x3,.int .i64 x4]=ah (F_as x0 x1 x2 x3 x4):=by kernel_rfl
theorem q_ah(x0:LL):xF [.list x0]=ah (F_ah x0):=by kernel_rfl
theorem q_ag(x0:LL):xr [.list x0]=ah (F_ag x0):=by kernel_rfl
theorem q_ao(x0:LL):xi [.list x0]=ah (F_ao x0):=by kernel_rfl
theorem q_dt(x0:Int)(x1:Bool)(x2:Int)(x3:LL)(x4:Int)(x5:Bool):qN [.int .i64 x0,.bool x1,.int .i64 x2,.list x3,.int .i64 x4,.bool x5]=ah (F_dt x0 x1 x2 x3 x4 x5):=by kernel_rfl
theorem q_dj(x0:Bool)(x1:LL)(x2:Int)(x3:LL):xJ [.bool x0,.list x1,.int .i64 x2,.list x3]=ah (F_dj x0 x1 x2 x3):=by kernel_rfl
theorem q_ea(x0:Bool)(x1:LL)(x2:Int)(x3:LL)(x4:Bool):ff [.bool x0,.list x1,.int .i64 x2,.list x3,.bool x4]=ah (F_ea x0 x1 x2 x3 x4):=by kernel_rfl
theorem q_du(x0:LL)(x1:Int):wY [.list x0,.int .i64 x1]=ah (F_du x0 x1):=by kernel_rfl
theorem q_es(x0:Int)(x1:Bool)(x2:Int)(x3:LL)(x4:Int):xQ [.int .i64 x0,.bool x1,.int .i64 x2,.list x3,.int .i64 x4]=ah (F_es x0 x1 x2 x3 x4):=by kernel_rfl
theorem q_fw(x0:Int)(x1:Int)(x2:Int)(x3:Int):xd [.int .i64 x0,.int .i64 x1,.int .i64 x2,.int .i64 x3]=ah (F_fw x0 x1 x2 x3):=by kernel_rfl
theorem q_ca(x0:Int)(x1:Bool)(x2:Int)(x3:LL)(x4:Int)(x5:Bool):mO [.int .i64 x0,.bool x1,.int .i64 x2,.list x3,.int .i64 x4,.bool x5]=ah (F_ca x0 x1 x2 x3 x4 x5):=by kernel_rfl
theorem q_fu(x0:LL):mD [.list x0]=ah (F_fu x0):=by kernel_rfl
theorem q_df(x0:Bool)(x1:LL)(x2:Int)(x3:LL)(x4:Bool):dH [.bool x0,.list x1,.int .i64 x2,.list x3,.bool x4]=ah (F_df x0 x1 x2 x3 x4):=by kernel_rfl
theorem q_fk(x0:LL):xu [.list x0]=ah (F_fk x0):=by kernel_rfl
theorem q_gw(x0:Int)(x1:Int)(x2:Int):cv [.int .i64 x0,.int .i64 x1,.int .i64 x2]=ah (F_gw x0 x1 x2):=by kernel_rfl
theorem q_bx(x0:Bool)(x1:LL)(x2:Int)(x3:LL)(x4:Int)(x5:Int)(x6:Int)(x7:LL):ye [.bool x0,.list x1,.int .i64 x2,.list x3,.int .i64 x4,.int .i64 x5,.int .i64 x6,.list x7]=ah (F_bx x0 x1 x2 x3 x4 x5 x6 x7):=by kernel_rfl
theorem q_bu(x0:Bool)(x1:LL)(x2:Int)(x3:LL):iF [.bool x0,.list x1,.int .i64 x2,.list x3]=ah (F_bu x0 x1 x2 x3):=by kernel_rfl
theorem q_ae(x0:LL):xB [.list x0]=ah (F_ae x0):=by kernel_rfl
theorem q_cb(x0:LL)(x1:Int):mL [.list x0,.int .i64 x1]=ah (F_cb x0 x1):=by kernel_rfl
theorem q_ck(x0:Bool)(x1:LL)(x2:Int)(x3:LL)(x4:Bool):fg [.bool x0,.list x1,.int .i64 x2,.list x3,.bool x4]=ah (F_ck x0 x1 x2 x3 x4):=by kernel_rfl
theorem q_cv(x0:Int)(x1:Int)(x2:Int)(x3:Int):xE [.int .i64 x0,.int .i64 x1,.int .i64 x2,.int .i64 x3]=ah (F_cv x0 x1 x2 x3):=by kernel_rfl
theorem q_cm(x0:Int)(x1:Int):xz [.int .i64 x0,.int .i64 x1]=ah (F_cm x0 x1):=by kernel_rfl
theorem q_db(x0:Bool)(x1:LL)(x2:Int)(x3:LL)(x4:Int)(x5:Int)(x6:Int):rj [.bool x0,.list x1,.int .i64 x2,.list x3,.int .i64 x4,.int .i64 x5,.int .i64 x6]=ah (F_db x0 x1 x2 x3 x4 x5 x6):=by kernel_rfl
theorem q_fy(x0:Int):gr [.int .i64 x0]=ah (F_fy x0):=by kernel_rfl
theorem q_bz(x0:Int):xk [.int .i64 x0]=ah (F_bz x0):=by kernel_rfl
end Dx
