import Derived.Test.YtnbhinpnmgbbhaaGreatDoorYb
set_option linter.all false
namespace Dx
open Go
theorem q_dd(x0:Bool)(x1:LL)(x2:Int)(x3:LL)(x4:LL)(x5:LL):rO [.bool x0,.list x1,.int .i64 x2,.list x3,.list x4,.list x5]=ai (F_dd x0 x1 x2 x3 x4 x5):=by kernel_rfl
theorem q_co(x0:Bool)(x1:LL)(x2:Int)(x3:LL)(x4:Int):vf [.bool x0,.list x1,.int .i64 x2,.list x3,.int .i64 x4]=ai (F_co x0 x1 x2 x3 x4):=by kernel_rfl
theorem q_df(x0:Bool)(x1:LL)(x2:Int)(x3:LL)(x4:LL)(x5:LL)(x6:Int)(x7:Int)(x8:Int)(x9:LL):nw [.bool x0,.list x1,.int .i64 x2,.list x3,.list x4,.list x5,.int .i64 x6,.int .i64 x7,.int .i64 x8,.list x9]=ai (F_df x0 x1 x2 x3 x4 x5 x6 x7 x8 x9):=by kernel_rfl
theorem q_gs(x0:ByteArray)(x1:Int):ny [.str x0,.int .u8 x1]=ai (F_gs x0 x1):=by kernel_rfl
theorem q_gn(x0:Bool)(x1:LL)(x2:Int)(x3:LL)(x4:LL)(x5:LL)(x6:Int)(x7:Int)(x8:Int)(x9:LL):io [.bool x0,.list x1,.int .i64 x2,.list x3,.list x4,.list x5,.int .i64 x6,.int .i64 x7,.int .i64 x8,.list x9]=ai (F_gn x0 x1 x2 x3 x4 x5 x6 x7 x8 x9):=by kernel_rfl
theorem q_cl(x0:Int)(x1:Bool)(x2:Int)(x3:LL)(x4:Int)(x5:Int)(x6:Int)(x7:Int)(x8:Int):rI [.int .i64 x0,.bool x1,.int .i64 x2,.list x3,.int .i64 x4,.int .i64 x5,.int .i64 x6,.int .i64 x7,.int .i64 x8]=ai (F_cl x0 x1 x2 x3 x4 x5 x6 x7 x8):=by kernel_rfl
theorem q_bu(x0:Bool)(x1:LL)(x2:Int)(x3:LL):lm [.bool x0,.list x1,.int .i64 x2,.list x3]=ai (F_bu x0 x1 x2 x3):=by kernel_rfl
theorem q_cm(x0:LL)(x1:Int)(x2:Int):dv [.list x0,.int .i64 x1,.int .i64 x2]=ai (F_cm x0 x1 x2):=by kernel_rfl
theorem q_dw(x0:LL)(x1:ByteArray):bD [.list x0,.str x1]=ai (F_dw x0 x1):=by kernel_rfl
theorem q_cn(x0:Int)(x1:Bool)(x2:Int)(x3:LL)(x4:Int)(x5:Int)(x6:Int)(x7:Int)(x8:Int)(x9:Int):vg [.int .i64 x0,.bool x1,.int .i64 x2,.list x3,.int .i64 x4,.int .i64 x5,.int .i64 x6,.int .i64 x7,.int .i64 x8,.int .i64 x9]=ai (G1 x0 x1 x2 x3 x4 x5 x6 x7 x8 x9):=by kernel_rfl
theorem q_cp(x0:Bool)(x1:LL)(x2:Int)(x3:LL)(x4:LL)(x5:LL)(x6:Int)(x7:Int)(x8:Int)(x9:LL):yt [.bool x0,.list x1,.int .i64 x2,.list x3,.list x4,.list x5,.int .i64 x6,.int .i64 x7,.int .i64 x8,.list x9]=ai (F_cp x0 x1 x2 x3 x4 x5 x6 x7 x8 x9):=by kernel_rfl
theorem q_gh(x0:Bool)(x1:LL)(x2:Int)(x3:LL):yS [.bool x0,.list x1,.int .i64 x2,.list x3]=ai (F_gh x0 x1 x2 x3):=by kernel_rfl
theorem q_dy(x0:Bool)(x1:LL)(x2:Int)(x3:LL)(x4:LL)(x5:LL)(x6:Int):rW [.bool x0,.list x1,.int .i64 x2,.list x3,.list x4,.list x5,.int .i64 x6]=ai (F_dy x0 x1 x2 x3 x4 x5 x6):=by kernel_rfl
theorem q_dl(x0:LL):xQ [.list x0]=ai (F_dl x0):=by kernel_rfl
theorem q_el(x0:Bool)(x1:LL)(x2:Int)(x3:LL)(x4:LL)(x5:LL):rN [.bool x0,.list x1,.int .i64 x2,.list x3,.list x4,.list x5]=ai (F_el x0 x1 x2 x3 x4 x5):=by kernel_rfl
theorem q_gx(x0:Int)(x1:LL):nB [.int .i64 x0,.list x1]=ai (F_gx x0 x1):=by kernel_rfl
theorem q_ck(x0:Bool)(x1:LL)(x2:Int)(x3:LL)(x4:LL)(x5:LL)(x6:Int):vj [.bool x0,.list x1,.int .i64 x2,.list x3,.list x4,.list x5,.int .i64 x6]=ai (F_ck x0 x1 x2 x3 x4 x5 x6):=by kernel_rfl
theorem q_ec(x0:LL)(x1:Int)(x2:Int)(x3:LL):rz [.list x0,.int .i64 x1,.int .i64 x2,.list x3]=ai (F_ec x0 x1 x2 x3):=by kernel_rfl
theorem q_eu(x0:Bool)(x1:LL)(x2:Int)(x3:LL)(x4:LL)(x5:LL):yX [.bool x0,.list x1,.int .i64 x2,.list x3,.list x4,.list x5]=ai (F_eu x0 x1 x2 x3 x4 x5):=by kernel_rfl
theorem q_ay(x0:Bool)(x1:LL)(x2:Int)(x3:LL)(x4:LL)(x5:LL)(x6:Int)(x7:Int)(x8:Int)(x9:Int):yI [.bool x0,.list x1,.int .i64 x2,.list x3,.list x4,.list x5,.int .i64 x6,.int .i64 x7,.int .i64 x8,.int .i64 x9]=ai (F_ay x0 x1 x2 x3 x4 x5 x6 x7 x8 x9):=by kernel_rfl
theorem q_bz(x0:Bool)(x1:LL)(x2:Int)(x3:LL)(x4:LL)(x5:LL)(x6:Int):yK [.bool x0,.list x1,.int .i64 x2,.list x3,.list x4,.list x5,.int .i64 x6]=ai (F_bz x0 x1 x2 x3 x4 x5 x6):=by kernel_rfl
theorem q_ct(x0:Bool)(x1:LL)(x2:Int)(x3:LL)(x4:LL):yh [.bool x0,.list x1,.int .i64 x2,.list x3,.list x4]=ai (F_ct x0 x1 x2 x3 x4):=by kernel_rfl
theorem q_ad(x0:Bool)(x1:LL)(x2:Int)(x3:LL)(x4:LL)(x5:LL)(x6:Int):rM [.bool x0,.list x1,.int .i64 x2,.list x3,.list x4,.list x5,.int .i64 x6]=ai (Js x0 x1 x2 x3 x4 x5 x6):=by kernel_rfl
theorem q_gg(x0:Int)(x1:LL):rS [.int .i64 x0,.list x1]=ai (F_gg x0 x1):=by kernel_rfl
theorem q_fo(x0:LL)(x1:Int)(x2:Int)(x3:Int)(x4:LL):rE [.list x0,.int .i64 x1,.int .i64 x2,.int .i64 x3,.list x4]=ai (F_fo x0 x1 x2 x3 x4):=by kernel_rfl
theorem q_gt(x0:Int)(x1:Int)(x2:LL):jW [.int .i64 x0,.int .i64 x1,.list x2]=ai (F_gt x0 x1 x2):=by kernel_rfl
theorem q_cj(x0:Int)(x1:LL):nu [.int .i64 x0,.list x1]=ai (F_cj x0 x1):=by kernel_rfl
theorem q_fu(x0:Bool)(x1:LL)(x2:Int)(x3:LL)(x4:Int)(x5:LL)(x6:Int):nC [.bool x0,.list x1,.int .i64 x2,.list x3,.int .i64 x4,.list x5,.int .i64 x6]=ai (F_fu x0 x1 x2 x3 x4 x5 x6):=by kernel_rfl
theorem q_fc(x0:Int)(x1:Int):yk [.int .i64 x0,.int .i64 x1]=ai (F_fc x0 x1):=by kernel_rfl
theorem q_eh(x0:Int)(x1:LL):rH [.int .i64 x0,.list x1]=ai (F_eh x0 x1):=by kernel_rfl
theorem q_dp(x0:Int)(x1:Int):xP [.int .i64 x0,.int .i64 x1]=ai (F_dp x0 x1):=by kernel_rfl
theorem q_gb(x0:LL):y9 [.list x0]=ai (F_gb x0):=by kernel_rfl
theorem q_cv:ou []=ai (F_cv):=by kernel_rfl
theorem q_au(x0:LL):rC [.list x0]=ai (F_au x0):=by kernel_rfl
theorem q_fx(x0:LL)(x1:Int)(x2:Int):rZ [.list x0,.int .i64 x1,.int .i64 x2]=ai (F_fx x0 x1 x2):=by kernel_rfl
theorem q_as(x0:LL):yp [.list x0]=ai (F_as x0):=by kernel_rfl
theorem q_ah(x0:LL):ym [.list x0]=ai (F_ah x0):=by kernel_rfl
theorem q_an(x0:LL):xV [.list x0]=ai (F_an x0):=by kernel_rfl
theorem q_bs(x0:Bool)(x1:LL)(x2:Int)(x3:LL)(x4:LL)(x5:LL)(x6:Int)(x7:Int)(x8:Int)(x9:Int):jU [.bool x0,.list x1,.int .i64 x2,.list x3,.list x4,.list x5,.int .i64 x6,.int .i64 x7,.int .i64 x8,.int .i64 x9]=ai (F_bs x0 x1 x2 x3 x4 x5 x6 x7 x8 x9):=by kernel_rfl
theorem q_dj(x0:Bool)(x1:LL)(x2:Int)(x3:LL):yB [.bool x0,.list x1,.int .i64 x2,.list x3]=ai (F_dj x0 x1 x2 x3):=by kernel_rfl
theorem q_dn(x0:Bool)(x1:LL)(x2:Int)(x3:LL)(x4:Bool):fx [.bool x0,.list x1,.int .i64 x2,.list x3,.bool x4]=ai (F_dn x0 x1 x2 x3 x4):=by kernel_rfl
theorem q_gu(x0:LL)(x1:Int)(x2:Int)(x3:Int)(x4:LL):rV [.list x0,.int .i64 x1,.int .i64 x2,.int .i64 x3,.list x4]=ai (F_gu x0 x1 x2 x3 x4):=by kernel_rfl
theorem q_ek(x0:Int)(x1:Bool)(x2:Int)(x3:LL)(x4:Int):yT [.int .i64 x0,.bool x1,.int .i64 x2,.list x3,.int .i64 x4]=ai (F_ek x0 x1 x2 x3 x4):=by kernel_rfl
theorem q_eg(x0:LL)(x1:Int):ry [.list x0,.int .i64 x1]=ai (F_eg x0 x1):=by kernel_rfl
theorem q_cw(x0:LL)(x1:Int):ya [.list x0,.int .i64 x1]=ai (F_cw x0 x1):=by kernel_rfl
theorem q_em(x0:LL):yd [.list x0]=ai (F_em x0):=by kernel_rfl
theorem q_ca(x0:Int)(x1:Bool)(x2:Int)(x3:LL)(x4:Int)(x5:Int)(x6:Int)(x7:Int)(x8:LL):yz [.int .i64 x0,.bool x1,.int .i64 x2,.list x3,.int .i64 x4,.int .i64 x5,.int .i64 x6,.int .i64 x7,.list x8]=ai (F_ca x0 x1 x2 x3 x4 x5 x6 x7 x8):=by kernel_rfl
theorem q_ci(x0:Bool)(x1:LL)(x2:Int)(x3:LL)(x4:Int)(x5:Int)(x6:Int)(x7:LL):yx [.bool x0,.list x1,.int .i64 x2,.list x3,.int .i64 x4,.int .i64 x5,.int .i64 x6,.list x7]=ai (F_ci x0 x1 x2 x3 x4 x5 x6 x7):=by kernel_rfl
theorem q_bk(x0:Bool)(x1:LL)(x2:Int)(x3:LL):iK [.bool x0,.list x1,.int .i64 x2,.list x3]=ai (F_bk x0 x1 x2 x3):=by kernel_rfl
theorem q_ac(x0:LL):yF [.list x0]=ai (F_ac x0):=by kernel_rfl
theorem q_ce(x0:LL)(x1:Int):nr [.list x0,.int .i64 x1]=ai (F_ce x0 x1):=by kernel_rfl
theorem q_cf(x0:Bool)(x1:LL)(x2:Int)(x3:LL)(x4:Bool):fw [.bool x0,.list x1,.int .i64 x2,.list x3,.bool x4]=ai (F_cf x0 x1 x2 x3 x4):=by kernel_rfl
theorem q_bf(x0:Int)(x1:Bool)(x2:Int)(x3:LL)(x4:Int):jV [.int .i64 x0,.bool x1,.int .i64 x2,.list x3,.int .i64 x4]=ai (F_bf x0 x1 x2 x3 x4):=by kernel_rfl
theorem q_dc(x0:Int)(x1:Int):yl [.int .i64 x0,.int .i64 x1]=ai (F_dc x0 x1):=by kernel_rfl
theorem q_cu(x0:Bool)(x1:LL)(x2:Int)(x3:LL)(x4:Int)(x5:Int)(x6:Int):rF [.bool x0,.list x1,.int .i64 x2,.list x3,.int .i64 x4,.int .i64 x5,.int .i64 x6]=ai (F_cu x0 x1 x2 x3 x4 x5 x6):=by kernel_rfl
theorem q_fv(x0:Int):gB [.int .i64 x0]=ai (F_fv x0):=by kernel_rfl
theorem q_cg(x0:Int):xU [.int .i64 x0]=ai (F_cg x0):=by kernel_rfl
end Dx
