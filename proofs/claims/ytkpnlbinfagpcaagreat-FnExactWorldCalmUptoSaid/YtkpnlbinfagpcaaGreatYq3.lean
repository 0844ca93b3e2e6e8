import Derived.Test.YtkpnlbinfagpcaaGreatYb
set_option linter.all false
namespace Dx
open Go
theorem q_da(x0:Bool)(x1:LL)(x2:Int)(x3:LL)(x4:LL)(x5:LL)(x6:Int)(x7:Int)(x8:Int)(x9:LL):mj [.bool x0,.list x1,.int .i64 x2,.list x3,.list x4,.list x5,.int .i64 x6,.int .i64 x7,.int .i64 x8,.list x9]=ah (F_da x0 x1 x2 x3 x4 x5 x6 x7 x8 x9):=by kernel_rfl
theorem q_fp(x0:Int)(x1:Bool)(x2:Int)(x3:LL)(x4:Int)(x5:Int)(x6:Int)(x7:Int)(x8:Int):vS [.int .i64 x0,.bool x1,.int .i64 x2,.list x3,.int .i64 x4,.int .i64 x5,.int .i64 x6,.int .i64 x7,.int .i64 x8]=ah (F_fp x0 x1 x2 x3 x4 x5 x6 x7 x8):=by kernel_rfl
theorem q_fj(x0:Bool)(x1:LL)(x2:Int)(x3:LL)(x4:LL)(x5:LL):w9 [.bool x0,.list x1,.int .i64 x2,.list x3,.list x4,.list x5]=ah (F_fj x0 x1 x2 x3 x4 x5):=by kernel_rfl
theorem q_cb(x0:Int)(x1:Bool)(x2:Int)(x3:LL)(x4:Int)(x5:Int)(x6:Int)(x7:Int)(x8:Int):pS [.int .i64 x0,.bool x1,.int .i64 x2,.list x3,.int .i64 x4,.int .i64 x5,.int .i64 x6,.int .i64 x7,.int .i64 x8]=ah (F_cb x0 x1 x2 x3 x4 x5 x6 x7 x8):=by kernel_rfl
theorem q_ay(x0:Int)(x1:Bool)(x2:Int)(x3:LL)(x4:Int)(x5:Int)(x6:Int)(x7:Int)(x8:Int):wC [.int .i64 x0,.bool x1,.int .i64 x2,.list x3,.int .i64 x4,.int .i64 x5,.int .i64 x6,.int .i64 x7,.int .i64 x8]=ah (F_ay x0 x1 x2 x3 x4 x5 x6 x7 x8):=by kernel_rfl
theorem q_bx(x0:Bool)(x1:LL)(x2:Int)(x3:LL)(x4:LL)(x5:LL):xd [.bool x0,.list x1,.int .i64 x2,.list x3,.list x4,.list x5]=ah (F_bx x0 x1 x2 x3 x4 x5):=by kernel_rfl
theorem q_eg(x0:LL)(x1:Int)(x2:Int)(x3:LL):wg [.list x0,.int .i64 x1,.int .i64 x2,.list x3]=ah (F_eg x0 x1 x2 x3):=by kernel_rfl
theorem q_co(x0:Int)(x1:Bool)(x2:Int)(x3:LL)(x4:Int)(x5:Int)(x6:Int)(x7:Int)(x8:Int)(x9:Int):sy [.int .i64 x0,.bool x1,.int .i64 x2,.list x3,.int .i64 x4,.int .i64 x5,.int .i64 x6,.int .i64 x7,.int .i64 x8,.int .i64 x9]=ah (Ft x0 x1 x2 x3 x4 x5 x6 x7 x8 x9):=by kernel_rfl
theorem q_bv(x0:LL)(x1:Int):w8 [.list x0,.int .i64 x1]=ah (F_bv x0 x1):=by kernel_rfl
theorem q_gi(x0:Bool)(x1:LL)(x2:Int)(x3:LL):vG [.bool x0,.list x1,.int .i64 x2,.list x3]=ah (F_gi x0 x1 x2 x3):=by kernel_rfl
theorem q_cv(x0:Bool)(x1:LL)(x2:Int)(x3:LL)(x4:Int)(x5:Int)(x6:Int)(x7:Int):lx [.bool x0,.list x1,.int .i64 x2,.list x3,.int .i64 x4,.int .i64 x5,.int .i64 x6,.int .i64 x7]=ah (F_cv x0 x1 x2 x3 x4 x5 x6 x7):=by kernel_rfl
theorem q_bi(x0:Bool)(x1:LL)(x2:Int)(x3:LL)(x4:LL)(x5:LL)(x6:Int)(x7:Int)(x8:Int)(x9:Int):sM [.bool x0,.list x1,.int .i64 x2,.list x3,.list x4,.list x5,.int .i64 x6,.int .i64 x7,.int .i64 x8,.int .i64 x9]=ah (F_bi x0 x1 x2 x3 x4 x5 x6 x7 x8 x9):=by kernel_rfl
theorem q_dy(x0:LL):xm [.list x0]=ah (F_dy x0):=by kernel_rfl
theorem q_bn(x0:LL)(x1:Int):wV [.list x0,.int .i64 x1]=ah (F_bn x0 x1):=by kernel_rfl
theorem q_af(x0:Bool)(x1:LL)(x2:Int)(x3:LL)(x4:LL)(x5:LL)(x6:Int):pW [.bool x0,.list x1,.int .i64 x2,.list x3,.list x4,.list x5,.int .i64 x6]=ah (IA x0 x1 x2 x3 x4 x5 x6):=by kernel_rfl
theorem q_cn(x0:Bool)(x1:LL)(x2:Int)(x3:LL)(x4:LL)(x5:LL)(x6:Int):xa [.bool x0,.list x1,.int .i64 x2,.list x3,.list x4,.list x5,.int .i64 x6]=ah (F_cn x0 x1 x2 x3 x4 x5 x6):=by kernel_rfl
theorem q_bj(x0:Bool)(x1:LL)(x2:Int)(x3:LL)(x4:Int)(x5:Int)(x6:LL):mh [.bool x0,.list x1,.int .i64 x2,.list x3,.int .i64 x4,.int .i64 x5,.list x6]=ah (F_bj x0 x1 x2 x3 x4 x5 x6):=by kernel_rfl
theorem q_ek(x0:Bool)(x1:LL)(x2:Int)(x3:LL)(x4:LL)(x5:LL)(x6:Int)(x7:Int)(x8:Int)(x9:Int):mb [.bool x0,.list x1,.int .i64 x2,.list x3,.list x4,.list x5,.int .i64 x6,.int .i64 x7,.int .i64 x8,.int .i64 x9]=ah (F_ek x0 x1 x2 x3 x4 x5 x6 x7 x8 x9):=by kernel_rfl
theorem q_gg(x0:LL)(x1:Int)(x2:Int)(x3:LL):pp [.list x0,.int .i64 x1,.int .i64 x2,.list x3]=ah (F_gg x0 x1 x2 x3):=by kernel_rfl
theorem q_aq(x0:LL):xb [.list x0]=ah (F_aq x0):=by kernel_rfl
theorem q_hf(x0:LL):lp [.list x0]=ah (F_hf x0):=by kernel_rfl
theorem q_cw(x0:LL)(x1:Int):p9 [.list x0,.int .i64 x1]=ah (F_cw x0 x1):=by kernel_rfl
theorem q_hj(x0:Int)(x1:LL)(x2:Int)(x3:Int)(x4:LL):pu [.int .i64 x0,.list x1,.int .i64 x2,.int .i64 x3,.list x4]=ah (F_hj x0 x1 x2 x3 x4):=by kernel_rfl
theorem q_dn(x0:LL):xf [.list x0]=ah (F_dn x0):=by kernel_rfl
theorem q_ed(x0:Bool)(x1:LL)(x2:Int)(x3:LL)(x4:Int):wB [.bool x0,.list x1,.int .i64 x2,.list x3,.int .i64 x4]=ah (F_ed x0 x1 x2 x3 x4):=by kernel_rfl
theorem q_eb(x0:LL)(x1:Int):vx [.list x0,.int .i64 x1]=ah (F_eb x0 x1):=by kernel_rfl
theorem q_bo(x0:Int)(x1:LL):pI [.int .i64 x0,.list x1]=ah (F_bo x0 x1):=by kernel_rfl
theorem q_fy(x0:Int)(x1:Int)(x2:Int)(x3:Int):iJ [.int .i64 x0,.int .i64 x1,.int .i64 x2,.int .i64 x3]=ah (F_fy x0 x1 x2 x3):=by kernel_rfl
theorem q_fc(x0:Bool)(x1:LL)(x2:Int)(x3:LL)(x4:LL)(x5:LL)(x6:Int)(x7:Int)(x8:Int)(x9:LL):vU [.bool x0,.list x1,.int .i64 x2,.list x3,.list x4,.list x5,.int .i64 x6,.int .i64 x7,.int .i64 x8,.list x9]=ah (F_fc x0 x1 x2 x3 x4 x5 x6 x7 x8 x9):=by kernel_rfl
theorem q_ge(x0:Bool)(x1:LL)(x2:Int)(x3:LL)(x4:Int)(x5:LL)(x6:Int):vP [.bool x0,.list x1,.int .i64 x2,.list x3,.int .i64 x4,.list x5,.int .i64 x6]=ah (F_ge x0 x1 x2 x3 x4 x5 x6):=by kernel_rfl
theorem q_bm(x0:Bool)(x1:LL)(x2:Int)(x3:LL)(x4:Int)(x5:Int)(x6:LL):ga [.bool x0,.list x1,.int .i64 x2,.list x3,.int .i64 x4,.int .i64 x5,.list x6]=ah (F_bm x0 x1 x2 x3 x4 x5 x6):=by kernel_rfl
theorem q_dp(x0:Int)(x1:Int):xh [.int .i64 x0,.int .i64 x1]=ah (F_dp x0 x1):=by kernel_rfl
theorem q_gu(x0:LL)(x1:Int):pw [.list x0,.int .i64 x1]=ah (F_gu x0 x1):=by kernel_rfl
theorem q_gs(x0:LL):ln [.list x0]=ah (F_gs x0):=by kernel_rfl
theorem q_eo(x0:LL):pH [.list x0]=ah (F_eo x0):=by kernel_rfl
theorem q_cj(x0:Bool)(x1:LL)(x2:Int)(x3:LL)(x4:LL)(x5:LL)(x6:Int):jA [.bool x0,.list x1,.int .i64 x2,.list x3,.list x4,.list x5,.int .i64 x6]=ah (F_cj x0 x1 x2 x3 x4 x5 x6):=by kernel_rfl
theorem q_au(x0:LL)(x1:Int)(x2:Int)(x3:Int)(x4:Int):wh [.list x0,.int .i64 x1,.int .i64 x2,.int .i64 x3,.int .i64 x4]=ah (F_au x0 x1 x2 x3 x4):=by kernel_rfl
theorem q_aj(x0:LL):wy [.list x0]=ah (F_aj x0):=by kernel_rfl
theorem q_gq(x0:Bool)(x1:LL)(x2:Int)(x3:LL)(x4:Bool)(x5:LL)(x6:Int)(x7:LL):wQ [.bool x0,.list x1,.int .i64 x2,.list x3,.bool x4,.list x5,.int .i64 x6,.list x7]=ah (F_gq x0 x1 x2 x3 x4 x5 x6 x7):=by kernel_rfl
theorem q_bf(x0:LL):mf [.list x0]=ah (F_bf x0):=by kernel_rfl
theorem q_ds(x0:LL)(x1:Int):iN [.list x0,.int .i64 x1]=ah (F_ds x0 x1):=by kernel_rfl
theorem q_an(x0:LL):vZ [.list x0]=ah (F_an x0):=by kernel_rfl
theorem q_hi(x0:LL)(x1:Int):gy [.list x0,.int .i64 x1]=ah (F_hi x0 x1):=by kernel_rfl
theorem q_gr(x0:Bool)(x1:LL)(x2:Int)(x3:LL)(x4:LL)(x5:LL)(x6:Int)(x7:Int)(x8:Int)(x9:Int):ma [.bool x0,.list x1,.int .i64 x2,.list x3,.list x4,.list x5,.int .i64 x6,.int .i64 x7,.int .i64 x8,.int .i64 x9]=ah (F_gr x0 x1 x2 x3 x4 x5 x6 x7 x8 x9):=by kernel_rfl
theorem q_dm(x0:Bool)(x1:LL)(x2:Int)(x3:LL)(x4:Int):wG [.bool x0,.list x1,.int .i64 x2,.list x3,.int .i64 x4]=ah (F_dm x0 x1 x2 x3 x4):=by kernel_rfl
theorem q_gz(x0:LL)(x1:Int)(x2:Int)(x3:Int)(x4:LL):py [.list x0,.int .i64 x1,.int .i64 x2,.int .i64 x3,.list x4]=ah (F_gz x0 x1 x2 x3 x4):=by kernel_rfl
theorem q_dw(x0:LL)(x1:Int):pT [.list x0,.int .i64 x1]=ah (F_dw x0 x1):=by kernel_rfl
theorem q_cm(x0:Bool)(x1:LL)(x2:Int)(x3:LL)(x4:LL)(x5:LL)(x6:Int):lB [.bool x0,.list x1,.int .i64 x2,.list x3,.list x4,.list x5,.int .i64 x6]=ah (F_cm x0 x1 x2 x3 x4 x5 x6):=by kernel_rfl
theorem q_eu(x0:LL)(x1:Int):pF [.list x0,.int .i64 x1]=ah (F_eu x0 x1):=by kernel_rfl
theorem q_ft(x0:Bool)(x1:LL)(x2:Int)(x3:LL):vM [.bool x0,.list x1,.int .i64 x2,.list x3]=ah (F_ft x0 x1 x2 x3):=by kernel_rfl
theorem q_gn(x0:LL)(x1:Int):pe [.list x0,.int .i64 x1]=ah (F_gn x0 x1):=by kernel_rfl
theorem q_di(x0:Bool)(x1:LL)(x2:Int)(x3:LL)(x4:Int):wU [.bool x0,.list x1,.int .i64 x2,.list x3,.int .i64 x4]=ah (F_di x0 x1 x2 x3 x4):=by kernel_rfl
theorem q_fi(x0:Int)(x1:Int)(x2:Int)(x3:LL)(x4:Int):pj [.int .i64 x0,.int .i64 x1,.int .i64 x2,.list x3,.int .i64 x4]=ah (F_fi x0 x1 x2 x3 x4):=by kernel_rfl
theorem q_ev(x0:LL)(x1:Int)(x2:Int):wY [.list x0,.int .i64 x1,.int .i64 x2]=ah (F_ev x0 x1 x2):=by kernel_rfl
theorem q_ho(x0:Int)(x1:Int)(x2:Int):bv [.int .i64 x0,.int .i64 x1,.int .i64 x2]=ah (F_ho x0 x1 x2):=by kernel_rfl
theorem q_ap(x0:LL)(x1:Int)(x2:Int)(x3:Int)(x4:Int):lu [.list x0,.int .i64 x1,.int .i64 x2,.int .i64 x3,.int .i64 x4]=ah (F_ap x0 x1 x2 x3 x4):=by kernel_rfl
theorem q_ae(x0:LL):wo [.list x0]=ah (F_ae x0):=by kernel_rfl
theorem q_ag(x0:LL):v9 [.list x0]=ah (F_ag x0):=by kernel_rfl
theorem q_al(x0:LL):vX [.list x0]=ah (F_al x0):=by kernel_rfl
theorem q_bp(x0:Bool)(x1:LL)(x2:Int)(x3:LL)(x4:Bool):eT [.bool x0,.list x1,.int .i64 x2,.list x3,.bool x4]=ah (F_bp x0 x1 x2 x3 x4):=by kernel_rfl
theorem q_ee(x0:Int)(x1:Bool)(x2:Int)(x3:LL)(x4:Int):vD [.int .i64 x0,.bool x1,.int .i64 x2,.list x3,.int .i64 x4]=ah (F_ee x0 x1 x2 x3 x4):=by kernel_rfl
theorem q_cg(x0:Int)(x1:Int):wl [.int .i64 x0,.int .i64 x1]=ah (F_cg x0 x1):=by kernel_rfl
theorem q_es:xg []=ah (F_es):=by kernel_rfl
theorem q_fh:xk []=ah (F_fh):=by kernel_rfl
theorem q_hd(x0:Int)(x1:Int)(x2:LL):vy [.int .i64 x0,.int .i64 x1,.list x2]=ah (F_hd x0 x1 x2):=by kernel_rfl
theorem q_bh(x0:Int)(x1:Int)(x2:Int)(x3:Int):gz [.int .i64 x0,.int .i64 x1,.int .i64 x2,.int .i64 x3]=ah (F_bh x0 x1 x2 x3):=by kernel_rfl
end Dx
