import Derived.Test.YtnbhinpnmgbbhaaGreatDoorYb
set_option linter.all false
namespace Dx
open Go
theorem q_eg(x0:Bool)(x1:LL)(x2:Int)(x3:LL)(x4:LL)(x5:LL)(x6:Int):vk [.bool x0,.list x1,.int .i64 x2,.list x3,.list x4,.list x5,.int .i64 x6]=ai (F_eg x0 x1 x2 x3 x4 x5 x6):=by kernel_rfl
theorem q_eq(x0:Bool)(x1:LL)(x2:Int)(x3:LL)(x4:LL)(x5:LL)(x6:Int)(x7:Int)(x8:Int)(x9:LL):rW [.bool x0,.list x1,.int .i64 x2,.list x3,.list x4,.list x5,.int .i64 x6,.int .i64 x7,.int .i64 x8,.list x9]=ai (Bz x0 x1 x2 x3 x4 x5 x6 x7 x8 x9):=by kernel_rfl
theorem q_dv(x0:Bool)(x1:LL)(x2:Int)(x3:LL):jW [.bool x0,.list x1,.int .i64 x2,.list x3]=ai (F_dv x0 x1 x2 x3):=by kernel_rfl
theorem q_fu(x0:Bool)(x1:LL)(x2:Int)(x3:LL)(x4:LL)(x5:LL):rT [.bool x0,.list x1,.int .i64 x2,.list x3,.list x4,.list x5]=ai (F_fu x0 x1 x2 x3 x4 x5):=by kernel_rfl
theorem q_er(x0:Bool)(x1:LL)(x2:Int)(x3:LL)(x4:LL)(x5:LL)(x6:Int)(x7:Int)(x8:Int)(x9:LL):y3 [.bool x0,.list x1,.int .i64 x2,.list x3,.list x4,.list x5,.int .i64 x6,.int .i64 x7,.int .i64 x8,.list x9]=ai (DW x0 x1 x2 x3 x4 x5 x6 x7 x8 x9):=by kernel_rfl
theorem q_es(x0:Bool)(x1:LL)(x2:Int)(x3:LL)(x4:LL)(x5:LL):oo [.bool x0,.list x1,.int .i64 x2,.list x3,.list x4,.list x5]=ai (F_es x0 x1 x2 x3 x4 x5):=by kernel_rfl
theorem q_fw(x0:Bool)(x1:LL)(x2:Int)(x3:LL)(x4:LL)(x5:LL)(x6:Int)(x7:Int)(x8:Int)(x9:LL):rU [.bool x0,.list x1,.int .i64 x2,.list x3,.list x4,.list x5,.int .i64 x6,.int .i64 x7,.int .i64 x8,.list x9]=ai (Fj x0 x1 x2 x3 x4 x5 x6 x7 x8 x9):=by kernel_rfl
theorem q_gr(x0:Int)(x1:Int)(x2:LL):iH [.int .i64 x0,.int .i64 x1,.list x2]=ai (F_gr x0 x1 x2):=by kernel_rfl
theorem q_ea(x0:Int)(x1:Int)(x2:Int)(x3:Int):y2 [.int .i64 x0,.int .i64 x1,.int .i64 x2,.int .i64 x3]=ai (F_ea x0 x1 x2 x3):=by kernel_rfl
theorem tC(x0:LL)(x1:Int)(x2:Int)(x3:LL):dC [.list x0,.int .i64 x1,.int .i64 x2,.list x3]=ai (hP x0 x1 x2 x3):=by kernel_rfl
theorem q_fl(x0:Bool)(x1:LL)(x2:Int)(x3:LL)(x4:Int)(x5:Int)(x6:Int)(x7:Int):yV [.bool x0,.list x1,.int .i64 x2,.list x3,.int .i64 x4,.int .i64 x5,.int .i64 x6,.int .i64 x7]=ai (F_fl x0 x1 x2 x3 x4 x5 x6 x7):=by kernel_rfl
theorem q_du(x0:Int)(x1:Int)(x2:Int)(x3:Int):yH [.int .i64 x0,.int .i64 x1,.int .i64 x2,.int .i64 x3]=ai (F_du x0 x1 x2 x3):=by kernel_rfl
theorem q_dj(x0:Int)(x1:LL)(x2:Int)(x3:Int)(x4:LL):rC [.int .i64 x0,.list x1,.int .i64 x2,.int .i64 x3,.list x4]=ai (F_dj x0 x1 x2 x3 x4):=by kernel_rfl
theorem vZ(x0:Int)(x1:LL)(x2:Int)(x3:Int)(x4:LL):dW [.int .i64 x0,.list x1,.int .i64 x2,.int .i64 x3,.list x4]=ai (mI x0 x1 x2 x3 x4):=by kernel_rfl
theorem q_en(x0:Int)(x1:LL)(x2:Int)(x3:Int)(x4:LL):ym [.int .i64 x0,.list x1,.int .i64 x2,.int .i64 x3,.list x4]=ai (F_en x0 x1 x2 x3 x4):=by kernel_rfl
theorem q_bx(x0:Bool)(x1:LL)(x2:Int)(x3:LL)(x4:LL)(x5:LL)(x6:Int):yZ [.bool x0,.list x1,.int .i64 x2,.list x3,.list x4,.list x5,.int .i64 x6]=ai (F_bx x0 x1 x2 x3 x4 x5 x6):=by kernel_rfl
theorem q_fz(x0:LL)(x1:Int)(x2:Int)(x3:LL):rM [.list x0,.int .i64 x1,.int .i64 x2,.list x3]=ai (F_fz x0 x1 x2 x3):=by kernel_rfl
theorem q_aq(x0:LL):yD [.list x0]=ai (F_aq x0):=by kernel_rfl
theorem q_bf(x0:Bool)(x1:LL)(x2:Int)(x3:LL)(x4:LL)(x5:LL):yC [.bool x0,.list x1,.int .i64 x2,.list x3,.list x4,.list x5]=ai (F_bf x0 x1 x2 x3 x4 x5):=by kernel_rfl
theorem q_gh(x0:Int)(x1:Int)(x2:Int)(x3:Int):iJ [.int .i64 x0,.int .i64 x1,.int .i64 x2,.int .i64 x3]=ai (F_gh x0 x1 x2 x3):=by kernel_rfl
theorem q_gt(x0:Int)(x1:LL)(x2:Int)(x3:Int)(x4:LL):rP [.int .i64 x0,.list x1,.int .i64 x2,.int .i64 x3,.list x4]=ai (F_gt x0 x1 x2 x3 x4):=by kernel_rfl
theorem q_fp(x0:LL)(x1:Int):im [.list x0,.int .i64 x1]=ai (GX x0 x1):=by kernel_rfl
theorem q_gu(x0:LL)(x1:Int):rN [.list x0,.int .i64 x1]=ai (F_gu x0 x1):=by kernel_rfl
theorem q_fy(x0:Int)(x1:Int)(x2:Int)(x3:Int):iN [.int .i64 x0,.int .i64 x1,.int .i64 x2,.int .i64 x3]=ai (F_fy x0 x1 x2 x3):=by kernel_rfl
theorem q_gc(x0:LL)(x1:LL):y6 [.list x0,.list x1]=ai (F_gc x0 x1):=by kernel_rfl
theorem q_dy(x0:Bool)(x1:LL)(x2:Int)(x3:LL)(x4:Int)(x5:Int)(x6:LL):ej [.bool x0,.list x1,.int .i64 x2,.list x3,.int .i64 x4,.int .i64 x5,.list x6]=ai (F_dy x0 x1 x2 x3 x4 x5 x6):=by kernel_rfl
theorem q_fo(x0:LL)(x1:Int):rQ [.list x0,.int .i64 x1]=ai (F_fo x0 x1):=by kernel_rfl
theorem q_bv(x0:Int)(x1:Bool)(x2:Int)(x3:LL)(x4:Int):yq [.int .i64 x0,.bool x1,.int .i64 x2,.list x3,.int .i64 x4]=ai (F_bv x0 x1 x2 x3 x4):=by kernel_rfl
theorem q_ef(x0:LL):ru [.list x0]=ai (F_ef x0):=by kernel_rfl
theorem q_ei(x0:LL)(x1:Int)(x2:Int)(x3:Int)(x4:Int):iO [.list x0,.int .i64 x1,.int .i64 x2,.int .i64 x3,.int .i64 x4]=ai (F_ei x0 x1 x2 x3 x4):=by kernel_rfl
theorem q_au(x0:LL)(x1:Int)(x2:Int)(x3:Int)(x4:Int):yb [.list x0,.int .i64 x1,.int .i64 x2,.int .i64 x3,.int .i64 x4]=ai (F_au x0 x1 x2 x3 x4):=by kernel_rfl
theorem q_aj(x0:LL):yA [.list x0]=ai (F_aj x0):=by kernel_rfl
theorem q_ai(x0:LL):xX [.list x0]=ai (F_ai x0):=by kernel_rfl
theorem q_dz(x0:Int)(x1:Bool)(x2:Int)(x3:LL)(x4:Int)(x5:Bool):jX [.int .i64 x0,.bool x1,.int .i64 x2,.list x3,.int .i64 x4,.bool x5]=ai (F_dz x0 x1 x2 x3 x4 x5):=by kernel_rfl
theorem q_cs(x0:Int)(x1:Bool)(x2:Int)(x3:LL)(x4:Int):yy [.int .i64 x0,.bool x1,.int .i64 x2,.list x3,.int .i64 x4]=ai (F_cs x0 x1 x2 x3 x4):=by kernel_rfl
theorem q_fh(x0:Int)(x1:Bool)(x2:Int)(x3:LL)(x4:Int):iM [.int .i64 x0,.bool x1,.int .i64 x2,.list x3,.int .i64 x4]=ai (F_fh x0 x1 x2 x3 x4):=by kernel_rfl
theorem q_cq(x0:Int)(x1:Bool)(x2:Int)(x3:LL)(x4:Int)(x5:Int):yu [.int .i64 x0,.bool x1,.int .i64 x2,.list x3,.int .i64 x4,.int .i64 x5]=ai (F_cq x0 x1 x2 x3 x4 x5):=by kernel_rfl
theorem q_dq(x0:LL):rq [.list x0]=ai (F_dq x0):=by kernel_rfl
theorem q_dx(x0:LL)(x1:Int):rF [.list x0,.int .i64 x1]=ai (F_dx x0 x1):=by kernel_rfl
theorem q_dl(x0:Int):rL [.int .i64 x0]=ai (F_dl x0):=by kernel_rfl
theorem q_fn(x0:LL):xH [.list x0]=ai (F_fn x0):=by kernel_rfl
theorem q_gq(x0:LL)(x1:Int):jq [.list x0,.int .i64 x1]=ai (F_gq x0 x1):=by kernel_rfl
theorem q_gw(x0:Int)(x1:Int)(x2:Int):b8 [.int .i64 x0,.int .i64 x1,.int .i64 x2]=ai (F_gw x0 x1 x2):=by kernel_rfl
theorem q_bi(x0:Int)(x1:Bool)(x2:Int)(x3:LL)(x4:Int)(x5:Bool):jo [.int .i64 x0,.bool x1,.int .i64 x2,.list x3,.int .i64 x4,.bool x5]=ai (F_bi x0 x1 x2 x3 x4 x5):=by kernel_rfl
theorem q_ap(x0:LL)(x1:Int)(x2:Int)(x3:Int)(x4:Int):nj [.list x0,.int .i64 x1,.int .i64 x2,.int .i64 x3,.int .i64 x4]=ai (F_ap x0 x1 x2 x3 x4):=by kernel_rfl
theorem q_af(x0:LL):yj [.list x0]=ai (F_af x0):=by kernel_rfl
theorem q_ag(x0:LL):xV [.list x0]=ai (F_ag x0):=by kernel_rfl
theorem q_al(x0:LL):xS [.list x0]=ai (F_al x0):=by kernel_rfl
theorem q_bs(x0:Int):xN [.int .i64 x0]=ai (F_bs x0):=by kernel_rfl
theorem q_ek(x0:Int)(x1:Int)(x2:LL):xT [.int .i64 x0,.int .i64 x1,.list x2]=ai (F_ek x0 x1 x2):=by kernel_rfl
theorem q_eh:yJ []=ai (F_eh):=by kernel_rfl
theorem q_fi(x0:Int):fZ [.int .i64 x0]=ai (F_fi x0):=by kernel_rfl
theorem q_bk(x0:Int)(x1:Int)(x2:Int)(x3:Int):iK [.int .i64 x0,.int .i64 x1,.int .i64 x2,.int .i64 x3]=ai (F_bk x0 x1 x2 x3):=by kernel_rfl
end Dx
