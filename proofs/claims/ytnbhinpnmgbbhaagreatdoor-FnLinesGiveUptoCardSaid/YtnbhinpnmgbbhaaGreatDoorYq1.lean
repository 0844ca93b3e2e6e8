import Derived.Test.YtnbhinpnmgbbhaaGreatDoorYb
set_option linter.all false
namespace Dx
open Go
theorem q_eu(x0:Bool)(x1:LL)(x2:Int)(x3:LL)(x4:LL)(x5:LL)(x6:Int):vg [.bool x0,.list x1,.int .i64 x2,.list x3,.list x4,.list x5,.int .i64 x6]=ai (F_eu x0 x1 x2 x3 x4 x5 x6):=by kernel_rfl
theorem q_ff(x0:Bool)(x1:LL)(x2:Int)(x3:LL)(x4:LL)(x5:LL)(x6:Int)(x7:Int)(x8:Int)(x9:LL):rS [.bool x0,.list x1,.int .i64 x2,.list x3,.list x4,.list x5,.int .i64 x6,.int .i64 x7,.int .i64 x8,.list x9]=ai (Bv x0 x1 x2 x3 x4 x5 x6 x7 x8 x9):=by kernel_rfl
theorem q_dj(x0:Bool)(x1:LL)(x2:Int)(x3:LL):jW [.bool x0,.list x1,.int .i64 x2,.list x3]=ai (F_dj x0 x1 x2 x3):=by kernel_rfl
theorem q_gg(x0:Bool)(x1:LL)(x2:Int)(x3:LL)(x4:LL)(x5:LL):rP [.bool x0,.list x1,.int .i64 x2,.list x3,.list x4,.list x5]=ai (F_gg x0 x1 x2 x3 x4 x5):=by kernel_rfl
theorem q_fi(x0:Bool)(x1:LL)(x2:Int)(x3:LL)(x4:LL)(x5:LL)(x6:Int)(x7:Int)(x8:Int)(x9:LL):yZ [.bool x0,.list x1,.int .i64 x2,.list x3,.list x4,.list x5,.int .i64 x6,.int .i64 x7,.int .i64 x8,.list x9]=ai (DS x0 x1 x2 x3 x4 x5 x6 x7 x8 x9):=by kernel_rfl
theorem q_es(x0:Bool)(x1:LL)(x2:Int)(x3:LL)(x4:LL)(x5:LL):ol [.bool x0,.list x1,.int .i64 x2,.list x3,.list x4,.list x5]=ai (F_es x0 x1 x2 x3 x4 x5):=by kernel_rfl
theorem q_gf(x0:Bool)(x1:LL)(x2:Int)(x3:LL)(x4:LL)(x5:LL)(x6:Int)(x7:Int)(x8:Int)(x9:LL):rQ [.bool x0,.list x1,.int .i64 x2,.list x3,.list x4,.list x5,.int .i64 x6,.int .i64 x7,.int .i64 x8,.list x9]=ai (Ff x0 x1 x2 x3 x4 x5 x6 x7 x8 x9):=by kernel_rfl
theorem q_go(x0:Int)(x1:Int)(x2:LL):iH [.int .i64 x0,.int .i64 x1,.list x2]=ai (F_go x0 x1 x2):=by kernel_rfl
theorem q_dw(x0:Int)(x1:Int)(x2:Int)(x3:Int):yY [.int .i64 x0,.int .i64 x1,.int .i64 x2,.int .i64 x3]=ai (F_dw x0 x1 x2 x3):=by kernel_rfl
theorem tw(x0:LL)(x1:Int)(x2:Int)(x3:LL):dC [.list x0,.int .i64 x1,.int .i64 x2,.list x3]=ai (hP x0 x1 x2 x3):=by kernel_rfl
theorem q_fa(x0:Bool)(x1:LL)(x2:Int)(x3:LL)(x4:Int)(x5:Int)(x6:Int)(x7:Int):yR [.bool x0,.list x1,.int .i64 x2,.list x3,.int .i64 x4,.int .i64 x5,.int .i64 x6,.int .i64 x7]=ai (F_fa x0 x1 x2 x3 x4 x5 x6 x7):=by kernel_rfl
theorem q_ec(x0:Int)(x1:Int)(x2:Int)(x3:Int):yD [.int .i64 x0,.int .i64 x1,.int .i64 x2,.int .i64 x3]=ai (F_ec x0 x1 x2 x3):=by kernel_rfl
theorem q_dk(x0:Int)(x1:LL)(x2:Int)(x3:Int)(x4:LL):ry [.int .i64 x0,.list x1,.int .i64 x2,.int .i64 x3,.list x4]=ai (F_dk x0 x1 x2 x3 x4):=by kernel_rfl
theorem vV(x0:Int)(x1:LL)(x2:Int)(x3:Int)(x4:LL):dW [.int .i64 x0,.list x1,.int .i64 x2,.int .i64 x3,.list x4]=ai (mH x0 x1 x2 x3 x4):=by kernel_rfl
theorem q_eh(x0:Int)(x1:LL)(x2:Int)(x3:Int)(x4:LL):yi [.int .i64 x0,.list x1,.int .i64 x2,.int .i64 x3,.list x4]=ai (F_eh x0 x1 x2 x3 x4):=by kernel_rfl
theorem q_cj(x0:Bool)(x1:LL)(x2:Int)(x3:LL)(x4:LL)(x5:LL)(x6:Int):yV [.bool x0,.list x1,.int .i64 x2,.list x3,.list x4,.list x5,.int .i64 x6]=ai (F_cj x0 x1 x2 x3 x4 x5 x6):=by kernel_rfl
theorem q_fw(x0:LL)(x1:Int)(x2:Int)(x3:LL):rI [.list x0,.int .i64 x1,.int .i64 x2,.list x3]=ai (F_fw x0 x1 x2 x3):=by kernel_rfl
theorem q_ar(x0:LL):yz [.list x0]=ai (F_ar x0):=by kernel_rfl
theorem q_ba(x0:Bool)(x1:LL)(x2:Int)(x3:LL)(x4:LL)(x5:LL):yy [.bool x0,.list x1,.int .i64 x2,.list x3,.list x4,.list x5]=ai (F_ba x0 x1 x2 x3 x4 x5):=by kernel_rfl
theorem q_gb(x0:Int)(x1:Int)(x2:Int)(x3:Int):iJ [.int .i64 x0,.int .i64 x1,.int .i64 x2,.int .i64 x3]=ai (F_gb x0 x1 x2 x3):=by kernel_rfl
theorem q_gt(x0:Int)(x1:LL)(x2:Int)(x3:Int)(x4:LL):rL [.int .i64 x0,.list x1,.int .i64 x2,.int .i64 x3,.list x4]=ai (F_gt x0 x1 x2 x3 x4):=by kernel_rfl
theorem q_gc(x0:LL)(x1:Int):im [.list x0,.int .i64 x1]=ai (GT x0 x1):=by kernel_rfl
theorem q_gn(x0:LL)(x1:Int):rJ [.list x0,.int .i64 x1]=ai (F_gn x0 x1):=by kernel_rfl
theorem q_fz(x0:Int)(x1:Int)(x2:Int)(x3:Int):iN [.int .i64 x0,.int .i64 x1,.int .i64 x2,.int .i64 x3]=ai (F_fz x0 x1 x2 x3):=by kernel_rfl
theorem q_fy(x0:LL)(x1:LL):y2 [.list x0,.list x1]=ai (F_fy x0 x1):=by kernel_rfl
theorem q_do(x0:Bool)(x1:LL)(x2:Int)(x3:LL)(x4:Int)(x5:Int)(x6:LL):ej [.bool x0,.list x1,.int .i64 x2,.list x3,.int .i64 x4,.int .i64 x5,.list x6]=ai (F_do x0 x1 x2 x3 x4 x5 x6):=by kernel_rfl
theorem q_fp(x0:LL)(x1:Int):rM [.list x0,.int .i64 x1]=ai (F_fp x0 x1):=by kernel_rfl
theorem q_bv(x0:Int)(x1:Bool)(x2:Int)(x3:LL)(x4:Int):ym [.int .i64 x0,.bool x1,.int .i64 x2,.list x3,.int .i64 x4]=ai (F_bv x0 x1 x2 x3 x4):=by kernel_rfl
theorem q_ej(x0:LL):rp [.list x0]=ai (F_ej x0):=by kernel_rfl
theorem q_ei(x0:LL)(x1:Int)(x2:Int)(x3:Int)(x4:Int):iO [.list x0,.int .i64 x1,.int .i64 x2,.int .i64 x3,.int .i64 x4]=ai (F_ei x0 x1 x2 x3 x4):=by kernel_rfl
theorem q_as(x0:LL)(x1:Int)(x2:Int)(x3:Int)(x4:Int):xX [.list x0,.int .i64 x1,.int .i64 x2,.int .i64 x3,.int .i64 x4]=ai (F_as x0 x1 x2 x3 x4):=by kernel_rfl
theorem q_aj(x0:LL):yw [.list x0]=ai (F_aj x0):=by kernel_rfl
theorem q_ag(x0:LL):xT [.list x0]=ai (F_ag x0):=by kernel_rfl
theorem q_dl(x0:Int)(x1:Bool)(x2:Int)(x3:LL)(x4:Int)(x5:Bool):jX [.int .i64 x0,.bool x1,.int .i64 x2,.list x3,.int .i64 x4,.bool x5]=ai (F_dl x0 x1 x2 x3 x4 x5):=by kernel_rfl
theorem q_cs(x0:Int)(x1:Bool)(x2:Int)(x3:LL)(x4:Int):yu [.int .i64 x0,.bool x1,.int .i64 x2,.list x3,.int .i64 x4]=ai (F_cs x0 x1 x2 x3 x4):=by kernel_rfl
theorem q_el(x0:Int)(x1:Bool)(x2:Int)(x3:LL)(x4:Int):iM [.int .i64 x0,.bool x1,.int .i64 x2,.list x3,.int .i64 x4]=ai (F_el x0 x1 x2 x3 x4):=by kernel_rfl
theorem q_co(x0:Int)(x1:Bool)(x2:Int)(x3:LL)(x4:Int)(x5:Int):yp [.int .i64 x0,.bool x1,.int .i64 x2,.list x3,.int .i64 x4,.int .i64 x5]=ai (F_co x0 x1 x2 x3 x4 x5):=by kernel_rfl
theorem q_dt(x0:LL):rj [.list x0]=ai (F_dt x0):=by kernel_rfl
theorem q_ea(x0:LL)(x1:Int):rB [.list x0,.int .i64 x1]=ai (F_ea x0 x1):=by kernel_rfl
theorem q_dr(x0:Int):rH [.int .i64 x0]=ai (F_dr x0):=by kernel_rfl
theorem q_fx(x0:LL):xD [.list x0]=ai (F_fx x0):=by kernel_rfl
theorem q_gu(x0:LL)(x1:Int):jq [.list x0,.int .i64 x1]=ai (F_gu x0 x1):=by kernel_rfl
theorem q_gx(x0:Int)(x1:Int)(x2:Int):b8 [.int .i64 x0,.int .i64 x1,.int .i64 x2]=ai (F_gx x0 x1 x2):=by kernel_rfl
theorem q_bk(x0:Int)(x1:Bool)(x2:Int)(x3:LL)(x4:Int)(x5:Bool):jo [.int .i64 x0,.bool x1,.int .i64 x2,.list x3,.int .i64 x4,.bool x5]=ai (F_bk x0 x1 x2 x3 x4 x5):=by kernel_rfl
theorem q_ap(x0:LL)(x1:Int)(x2:Int)(x3:Int)(x4:Int):ng [.list x0,.int .i64 x1,.int .i64 x2,.int .i64 x3,.int .i64 x4]=ai (F_ap x0 x1 x2 x3 x4):=by kernel_rfl
theorem q_ad(x0:LL):yf [.list x0]=ai (F_ad x0):=by kernel_rfl
theorem q_ai(x0:LL):xR [.list x0]=ai (F_ai x0):=by kernel_rfl
theorem q_al(x0:LL):xO [.list x0]=ai (F_al x0):=by kernel_rfl
theorem q_cd(x0:Int):xJ [.int .i64 x0]=ai (F_cd x0):=by kernel_rfl
theorem q_fk(x0:Int)(x1:Int)(x2:LL):xP [.int .i64 x0,.int .i64 x1,.list x2]=ai (F_fk x0 x1 x2):=by kernel_rfl
theorem q_ew:yF []=ai (F_ew):=by kernel_rfl
theorem q_ef(x0:Int):fZ [.int .i64 x0]=ai (F_ef x0):=by kernel_rfl
theorem q_bj(x0:Int)(x1:Int)(x2:Int)(x3:Int):iK [.int .i64 x0,.int .i64 x1,.int .i64 x2,.int .i64 x3]=ai (F_bj x0 x1 x2 x3):=by kernel_rfl
end Dx
