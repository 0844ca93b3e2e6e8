import Derived.Test.YtahfbeiobndhkaaGreatYb
set_option linter.all false
namespace Dx
open Go
theorem q_fg(x0:LL)(x1:Int):mj [.list x0,.int .i64 x1]=aj (F_fg x0 x1):=by kernel_rfl
theorem q_da(x0:Bool)(x1:LL)(x2:Int)(x3:LL)(x4:Int):tz [.bool x0,.list x1,.int .i64 x2,.list x3,.int .i64 x4]=aj (F_da x0 x1 x2 x3 x4):=by kernel_rfl
theorem q_fh(x0:Int)(x1:Bool)(x2:Int)(x3:LL)(x4:Int)(x5:Int)(x6:Int)(x7:Int)(x8:Int):wF [.int .i64 x0,.bool x1,.int .i64 x2,.list x3,.int .i64 x4,.int .i64 x5,.int .i64 x6,.int .i64 x7,.int .i64 x8]=aj (F_fh x0 x1 x2 x3 x4 x5 x6 x7 x8):=by kernel_rfl
theorem q_dm(x0:LL)(x1:Int):wJ [.list x0,.int .i64 x1]=aj (F_dm x0 x1):=by kernel_rfl
theorem q_cf(x0:Int)(x1:Bool)(x2:Int)(x3:LL)(x4:Int)(x5:Int)(x6:Int)(x7:Int)(x8:Int):xm [.int .i64 x0,.bool x1,.int .i64 x2,.list x3,.int .i64 x4,.int .i64 x5,.int .i64 x6,.int .i64 x7,.int .i64 x8]=aj (F_cf x0 x1 x2 x3 x4 x5 x6 x7 x8):=by kernel_rfl
theorem q_ay(x0:LL):mp [.list x0]=aj (F_ay x0):=by kernel_rfl
theorem q_eo(x0:Bool)(x1:LL)(x2:Int)(x3:LL)(x4:LL)(x5:LL)(x6:Int)(x7:Int)(x8:Int)(x9:LL):wB [.bool x0,.list x1,.int .i64 x2,.list x3,.list x4,.list x5,.int .i64 x6,.int .i64 x7,.int .i64 x8,.list x9]=aj (BY x0 x1 x2 x3 x4 x5 x6 x7 x8 x9):=by kernel_rfl
theorem q_dy(x0:LL)(x1:Int)(x2:Int)(x3:LL):wX [.list x0,.int .i64 x1,.int .i64 x2,.list x3]=aj (F_dy x0 x1 x2 x3):=by kernel_rfl
theorem q_fb(x0:LL)(x1:Int):ku [.list x0,.int .i64 x1]=aj (F_fb x0 x1):=by kernel_rfl
theorem q_fm(x0:Bool)(x1:LL)(x2:Int)(x3:LL):cu [.bool x0,.list x1,.int .i64 x2,.list x3]=aj (F_fm x0 x1 x2 x3):=by kernel_rfl
theorem q_fk(x0:Bool)(x1:LL)(x2:Int)(x3:LL):dU [.bool x0,.list x1,.int .i64 x2,.list x3]=aj (F_fk x0 x1 x2 x3):=by kernel_rfl
theorem q_dw(x0:Bool)(x1:LL)(x2:Int)(x3:LL)(x4:LL)(x5:LL)(x6:Int):wH [.bool x0,.list x1,.int .i64 x2,.list x3,.list x4,.list x5,.int .i64 x6]=aj (F_dw x0 x1 x2 x3 x4 x5 x6):=by kernel_rfl
theorem q_ec(x0:Bool)(x1:LL)(x2:Int)(x3:LL)(x4:LL)(x5:LL):m7 [.bool x0,.list x1,.int .i64 x2,.list x3,.list x4,.list x5]=aj (F_ec x0 x1 x2 x3 x4 x5):=by kernel_rfl
theorem q_er(x0:Bool)(x1:LL)(x2:Int)(x3:LL)(x4:LL)(x5:LL)(x6:Bool)(x7:LL)(x8:Int)(x9:LL)(x10:LL)(x11:LL):fW [.bool x0,.list x1,.int .i64 x2,.list x3,.list x4,.list x5,.bool x6,.list x7,.int .i64 x8,.list x9,.list x10,.list x11]=aj (F_er x0 x1 x2 x3 x4 x5 x6 x7 x8 x9 x10 x11):=by kernel_rfl
theorem q_dp(x0:LL)(x1:Int)(x2:Int)(x3:LL):qw [.list x0,.int .i64 x1,.int .i64 x2,.list x3]=aj (F_dp x0 x1 x2 x3):=by kernel_rfl
theorem q_ci(x0:Bool)(x1:LL)(x2:Int)(x3:LL)(x4:LL):kA [.bool x0,.list x1,.int .i64 x2,.list x3,.list x4]=aj (H8 x0 x1 x2 x3 x4):=by kernel_rfl
theorem q_bk(x0:Bool)(x1:LL)(x2:Int)(x3:LL)(x4:LL)(x5:LL)(x6:Int)(x7:Int)(x8:Int)(x9:Int):xn [.bool x0,.list x1,.int .i64 x2,.list x3,.list x4,.list x5,.int .i64 x6,.int .i64 x7,.int .i64 x8,.int .i64 x9]=aj (F_bk x0 x1 x2 x3 x4 x5 x6 x7 x8 x9):=by kernel_rfl
theorem q_fy(x0:LL)(x1:Int)(x2:Int)(x3:LL):qk [.list x0,.int .i64 x1,.int .i64 x2,.list x3]=aj (F_fy x0 x1 x2 x3):=by kernel_rfl
theorem q_gk(x0:LL):mf [.list x0]=aj (F_gk x0):=by kernel_rfl
theorem q_fv(x0:Int)(x1:LL):wD [.int .i64 x0,.list x1]=aj (F_fv x0 x1):=by kernel_rfl
theorem q_fz(x0:LL)(x1:Int)(x2:Int)(x3:Int)(x4:LL):qE [.list x0,.int .i64 x1,.int .i64 x2,.int .i64 x3,.list x4]=aj (F_fz x0 x1 x2 x3 x4):=by kernel_rfl
theorem q_dn(x0:Bool)(x1:LL)(x2:Int)(x3:LL)(x4:Int):xj [.bool x0,.list x1,.int .i64 x2,.list x3,.int .i64 x4]=aj (F_dn x0 x1 x2 x3 x4):=by kernel_rfl
theorem q_gg(x0:LL)(x1:Int):qL [.list x0,.int .i64 x1]=aj (F_gg x0 x1):=by kernel_rfl
theorem q_ge(x0:Bool)(x1:LL)(x2:Int)(x3:LL)(x4:Int)(x5:LL)(x6:Int):mg [.bool x0,.list x1,.int .i64 x2,.list x3,.int .i64 x4,.list x5,.int .i64 x6]=aj (F_ge x0 x1 x2 x3 x4 x5 x6):=by kernel_rfl
theorem q_fc(x0:Bool)(x1:LL)(x2:Int)(x3:LL)(x4:LL)(x5:LL)(x6:Int)(x7:Int)(x8:Int)(x9:LL):ia [.bool x0,.list x1,.int .i64 x2,.list x3,.list x4,.list x5,.int .i64 x6,.int .i64 x7,.int .i64 x8,.list x9]=aj (F_fc x0 x1 x2 x3 x4 x5 x6 x7 x8 x9):=by kernel_rfl
theorem q_cs(x0:LL)(x1:Int)(x2:Int)(x3:Int):mm [.list x0,.int .i64 x1,.int .i64 x2,.int .i64 x3]=aj (F_cs x0 x1 x2 x3):=by kernel_rfl
theorem q_bz(x0:Bool)(x1:LL)(x2:Int)(x3:LL)(x4:Int)(x5:Int)(x6:LL):gD [.bool x0,.list x1,.int .i64 x2,.list x3,.int .i64 x4,.int .i64 x5,.list x6]=aj (F_bz x0 x1 x2 x3 x4 x5 x6):=by kernel_rfl
theorem q_db(x0:Int)(x1:Int):wy [.int .i64 x0,.int .i64 x1]=aj (F_db x0 x1):=by kernel_rfl
theorem q_ej(x0:LL)(x1:Int)(x2:Int)(x3:Int)(x4:Int):gX [.list x0,.int .i64 x1,.int .i64 x2,.int .i64 x3,.int .i64 x4]=aj (F_ej x0 x1 x2 x3 x4):=by kernel_rfl
theorem q_dk(x0:Bool)(x1:LL)(x2:Int)(x3:LL)(x4:Int)(x5:Int)(x6:Int)(x7:Int):mq [.bool x0,.list x1,.int .i64 x2,.list x3,.int .i64 x4,.int .i64 x5,.int .i64 x6,.int .i64 x7]=aj (F_dk x0 x1 x2 x3 x4 x5 x6 x7):=by kernel_rfl
theorem q_ar(x0:LL)(x1:Int)(x2:Int)(x3:Int)(x4:Int):wY [.list x0,.int .i64 x1,.int .i64 x2,.int .i64 x3,.int .i64 x4]=aj (F_ar x0 x1 x2 x3 x4):=by kernel_rfl
theorem q_aj(x0:LL):xg [.list x0]=aj (F_aj x0):=by kernel_rfl
theorem q_bc(x0:LL):m6 [.list x0]=aj (F_bc x0):=by kernel_rfl
theorem q_ag(x0:LL):xa [.list x0]=aj (F_ag x0):=by kernel_rfl
theorem q_dt(x0:Int)(x1:Bool)(x2:Int)(x3:LL)(x4:Int)(x5:Bool):qo [.int .i64 x0,.bool x1,.int .i64 x2,.list x3,.int .i64 x4,.bool x5]=aj (F_dt x0 x1 x2 x3 x4 x5):=by kernel_rfl
theorem q_gh(x0:LL)(x1:Int):g0 [.list x0,.int .i64 x1]=aj (F_gh x0 x1):=by kernel_rfl
theorem q_fu(x0:Bool)(x1:LL)(x2:Int)(x3:LL)(x4:LL)(x5:LL)(x6:Int)(x7:Int)(x8:Int)(x9:Int):mY [.bool x0,.list x1,.int .i64 x2,.list x3,.list x4,.list x5,.int .i64 x6,.int .i64 x7,.int .i64 x8,.int .i64 x9]=aj (F_fu x0 x1 x2 x3 x4 x5 x6 x7 x8 x9):=by kernel_rfl
theorem q_di(x0:Bool)(x1:LL)(x2:Int)(x3:LL)(x4:Int):qK [.bool x0,.list x1,.int .i64 x2,.list x3,.int .i64 x4]=aj (F_di x0 x1 x2 x3 x4):=by kernel_rfl
theorem q_do(x0:LL)(x1:Int):wv [.list x0,.int .i64 x1]=aj (F_do x0 x1):=by kernel_rfl
theorem q_gc(x0:Bool)(x1:LL)(x2:Int)(x3:LL)(x4:Bool)(x5:LL)(x6:Int)(x7:LL):cW [.bool x0,.list x1,.int .i64 x2,.list x3,.bool x4,.list x5,.int .i64 x6,.list x7]=aj (F_gc x0 x1 x2 x3 x4 x5 x6 x7):=by kernel_rfl
theorem q_dc(x0:LL)(x1:Int):qI [.list x0,.int .i64 x1]=aj (F_dc x0 x1):=by kernel_rfl
theorem q_gi(x0:Int)(x1:Int)(x2:LL)(x3:Int)(x4:Int)(x5:LL):xE [.int .i64 x0,.int .i64 x1,.list x2,.int .i64 x3,.int .i64 x4,.list x5]=aj (F_gi x0 x1 x2 x3 x4 x5):=by kernel_rfl
theorem q_gb(x0:LL):me [.list x0]=aj (F_gb x0):=by kernel_rfl
theorem q_cu(x0:LL)(x1:Int):wT [.list x0,.int .i64 x1]=aj (F_cu x0 x1):=by kernel_rfl
theorem q_cn(x0:Bool)(x1:LL)(x2:Int)(x3:LL):xH [.bool x0,.list x1,.int .i64 x2,.list x3]=aj (F_cn x0 x1 x2 x3):=by kernel_rfl
theorem q_gr(x0:Int)(x1:Int)(x2:Int):ce [.int .i64 x0,.int .i64 x1,.int .i64 x2]=aj (F_gr x0 x1 x2):=by kernel_rfl
theorem q_be(x0:Int)(x1:Bool)(x2:Int)(x3:LL)(x4:Int)(x5:Bool):m9 [.int .i64 x0,.bool x1,.int .i64 x2,.list x3,.int .i64 x4,.bool x5]=aj (F_be x0 x1 x2 x3 x4 x5):=by kernel_rfl
theorem q_ap(x0:LL)(x1:Int)(x2:Int)(x3:Int)(x4:Int):ml [.list x0,.int .i64 x1,.int .i64 x2,.int .i64 x3,.int .i64 x4]=aj (F_ap x0 x1 x2 x3 x4):=by kernel_rfl
theorem q_af(x0:LL):xb [.list x0]=aj (F_af x0):=by kernel_rfl
theorem q_bt(x0:LL)(x1:Int):mn [.list x0,.int .i64 x1]=aj (F_bt x0 x1):=by kernel_rfl
theorem q_bv(x0:Bool)(x1:LL)(x2:Int)(x3:LL)(x4:Bool):eu [.bool x0,.list x1,.int .i64 x2,.list x3,.bool x4]=aj (F_bv x0 x1 x2 x3 x4):=by kernel_rfl
theorem q_ax(x0:Int)(x1:Bool)(x2:Int)(x3:LL)(x4:Int):jm [.int .i64 x0,.bool x1,.int .i64 x2,.list x3,.int .i64 x4]=aj (F_ax x0 x1 x2 x3 x4):=by kernel_rfl
theorem q_cx(x0:Int)(x1:Int):w9 [.int .i64 x0,.int .i64 x1]=aj (F_cx x0 x1):=by kernel_rfl
theorem q_eu:ww []=aj (F_eu):=by kernel_rfl
theorem q_ea(x0:Int):gC [.int .i64 x0]=aj (F_ea x0):=by kernel_rfl
theorem q_bo(x0:Int):wN [.int .i64 x0]=aj (F_bo x0):=by kernel_rfl
end Dx
