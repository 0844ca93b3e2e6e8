import Derived.Test.YtmjkolpalcpgfaaGreatYb
set_option linter.all false
namespace Dx
open Go
theorem q_gq(x0:Bool)(x1:LL)(x2:Int)(x3:LL)(x4:LL)(x5:LL):mR [.bool x0,.list x1,.int .i64 x2,.list x3,.list x4,.list x5]=ah (F_gq x0 x1 x2 x3 x4 x5):=by kernel_rfl
theorem q_dc(x0:Bool)(x1:LL)(x2:Int)(x3:LL)(x4:Int):ub [.bool x0,.list x1,.int .i64 x2,.list x3,.int .i64 x4]=ah (F_dc x0 x1 x2 x3 x4):=by kernel_rfl
theorem q_er(x0:LL)(x1:Int):qS [.list x0,.int .i64 x1]=ah (F_er x0 x1):=by kernel_rfl
theorem q_fg(x0:Int)(x1:Bool)(x2:Int)(x3:LL)(x4:Int)(x5:Int)(x6:Int)(x7:Int)(x8:Int):xe [.int .i64 x0,.bool x1,.int .i64 x2,.list x3,.int .i64 x4,.int .i64 x5,.int .i64 x6,.int .i64 x7,.int .i64 x8]=ah (F_fg x0 x1 x2 x3 x4 x5 x6 x7 x8):=by kernel_rfl
theorem q_ev(x0:Bool)(x1:LL)(x2:Int)(x3:LL)(x4:LL)(x5:LL)(x6:Int)(x7:Int)(x8:Int)(x9:LL):qR [.bool x0,.list x1,.int .i64 x2,.list x3,.list x4,.list x5,.int .i64 x6,.int .i64 x7,.int .i64 x8,.list x9]=ah (Ax x0 x1 x2 x3 x4 x5 x6 x7 x8 x9):=by kernel_rfl
theorem q_aw(x0:Int)(x1:Bool)(x2:Int)(x3:LL)(x4:Int)(x5:Int)(x6:Int)(x7:Int)(x8:Int):xM [.int .i64 x0,.bool x1,.int .i64 x2,.list x3,.int .i64 x4,.int .i64 x5,.int .i64 x6,.int .i64 x7,.int .i64 x8]=ah (F_aw x0 x1 x2 x3 x4 x5 x6 x7 x8):=by kernel_rfl
theorem q_di(x0:LL)(x1:Int)(x2:Int):aZ [.list x0,.int .i64 x1,.int .i64 x2]=ah (F_di x0 x1 x2):=by kernel_rfl
theorem q_fa(x0:LL)(x1:Int)(x2:Int)(x3:LL):xv [.list x0,.int .i64 x1,.int .i64 x2,.list x3]=ah (F_fa x0 x1 x2 x3):=by kernel_rfl
theorem q_fm(x0:Bool)(x1:LL)(x2:Int)(x3:LL)(x4:LL)(x5:LL):iG [.bool x0,.list x1,.int .i64 x2,.list x3,.list x4,.list x5]=ah (F_fm x0 x1 x2 x3 x4 x5):=by kernel_rfl
theorem q_da(x0:Bool)(x1:LL)(x2:Int)(x3:LL)(x4:LL)(x5:LL)(x6:Int)(x7:Int)(x8:Int)(x9:LL):yc [.bool x0,.list x1,.int .i64 x2,.list x3,.list x4,.list x5,.int .i64 x6,.int .i64 x7,.int .i64 x8,.list x9]=ah (F_da x0 x1 x2 x3 x4 x5 x6 x7 x8 x9):=by kernel_rfl
theorem q_gr(x0:Int)(x1:Int)(x2:LL):iC [.int .i64 x0,.int .i64 x1,.list x2]=ah (F_gr x0 x1 x2):=by kernel_rfl
theorem q_cl(x0:Bool)(x1:LL)(x2:Int)(x3:LL)(x4:Int)(x5:Int)(x6:Int)(x7:Int):mN [.bool x0,.list x1,.int .i64 x2,.list x3,.int .i64 x4,.int .i64 x5,.int .i64 x6,.int .i64 x7]=ah (F_cl x0 x1 x2 x3 x4 x5 x6 x7):=by kernel_rfl
theorem q_eb(x0:LL):jk [.list x0]=ah (F_eb x0):=by kernel_rfl
theorem q_eh(x0:Bool)(x1:LL)(x2:Int)(x3:LL)(x4:LL)(x5:LL):jh [.bool x0,.list x1,.int .i64 x2,.list x3,.list x4,.list x5]=ah (F_eh x0 x1 x2 x3 x4 x5):=by kernel_rfl
theorem q_gv(x0:Int)(x1:LL):mH [.int .i64 x0,.list x1]=ah (F_gv x0 x1):=by kernel_rfl
theorem q_by(x0:Bool)(x1:LL)(x2:Int)(x3:LL)(x4:Int)(x5:Int)(x6:LL):nK [.bool x0,.list x1,.int .i64 x2,.list x3,.int .i64 x4,.int .i64 x5,.list x6]=ah (F_by x0 x1 x2 x3 x4 x5 x6):=by kernel_rfl
theorem vh(x0:Int)(x1:LL)(x2:Int)(x3:Int)(x4:LL):dU [.int .i64 x0,.list x1,.int .i64 x2,.int .i64 x3,.list x4]=ah (l7 x0 x1 x2 x3 x4):=by kernel_rfl
theorem q_aa(x0:Bool)(x1:LL)(x2:Int)(x3:LL)(x4:LL)(x5:LL)(x6:Int)(x7:Int)(x8:Int)(x9:Int)(x10:LL)(x11:Int)(x12:Int)(x13:Int)(x14:LL):yh [.bool x0,.list x1,.int .i64 x2,.list x3,.list x4,.list x5,.int .i64 x6,.int .i64 x7,.int .i64 x8,.int .i64 x9,.list x10,.int .i64 x11,.int .i64 x12,.int .i64 x13,.list x14]=ah (ID x0 x1 x2 x3 x4 x5 x6 x7 x8 x9 x10 x11 x12 x13 x14):=by kernel_rfl
theorem q_ce(x0:Bool)(x1:LL)(x2:Int)(x3:LL)(x4:LL)(x5:LL)(x6:Int):mQ [.bool x0,.list x1,.int .i64 x2,.list x3,.list x4,.list x5,.int .i64 x6]=ah (F_ce x0 x1 x2 x3 x4 x5 x6):=by kernel_rfl
theorem q_ar(x0:LL):xL [.list x0]=ah (F_ar x0):=by kernel_rfl
theorem q_ab(x0:Bool)(x1:LL)(x2:Int)(x3:LL)(x4:LL)(x5:LL)(x6:Int):rg [.bool x0,.list x1,.int .i64 x2,.list x3,.list x4,.list x5,.int .i64 x6]=ah (HL x0 x1 x2 x3 x4 x5 x6):=by kernel_rfl
theorem q_be(x0:Bool)(x1:LL)(x2:Int)(x3:LL)(x4:LL)(x5:LL):re [.bool x0,.list x1,.int .i64 x2,.list x3,.list x4,.list x5]=ah (F_be x0 x1 x2 x3 x4 x5):=by kernel_rfl
theorem q_gn(x0:Int)(x1:LL)(x2:Int)(x3:Int)(x4:LL):qM [.int .i64 x0,.list x1,.int .i64 x2,.int .i64 x3,.list x4]=ah (F_gn x0 x1 x2 x3 x4):=by kernel_rfl
theorem q_dx(x0:Bool)(x1:LL)(x2:Int)(x3:LL)(x4:Int):yb [.bool x0,.list x1,.int .i64 x2,.list x3,.int .i64 x4]=ah (F_dx x0 x1 x2 x3 x4):=by kernel_rfl
theorem q_en(x0:LL)(x1:LL):kT [.list x0,.list x1]=ah (F_en x0 x1):=by kernel_rfl
theorem q_fq(x0:Bool)(x1:LL)(x2:Int)(x3:LL)(x4:Int)(x5:LL)(x6:Int):mG [.bool x0,.list x1,.int .i64 x2,.list x3,.int .i64 x4,.list x5,.int .i64 x6]=ah (F_fq x0 x1 x2 x3 x4 x5 x6):=by kernel_rfl
theorem q_eg(x0:Bool)(x1:LL)(x2:Int)(x3:LL)(x4:LL)(x5:LL)(x6:Int)(x7:Int)(x8:Int)(x9:LL):nN [.bool x0,.list x1,.int .i64 x2,.list x3,.list x4,.list x5,.int .i64 x6,.int .i64 x7,.int .i64 x8,.list x9]=ah (F_eg x0 x1 x2 x3 x4 x5 x6 x7 x8 x9):=by kernel_rfl
theorem q_gi(x0:LL)(x1:LL):xV [.list x0,.list x1]=ah (F_gi x0 x1):=by kernel_rfl
theorem q_cc(x0:Bool)(x1:LL)(x2:Int)(x3:LL)(x4:Int)(x5:Int)(x6:LL):gY [.bool x0,.list x1,.int .i64 x2,.list x3,.int .i64 x4,.int .i64 x5,.list x6]=ah (F_cc x0 x1 x2 x3 x4 x5 x6):=by kernel_rfl
theorem q_dr(x0:Int)(x1:Int):xZ [.int .i64 x0,.int .i64 x1]=ah (F_dr x0 x1):=by kernel_rfl
theorem q_eq(x0:Int)(x1:LL):qX [.int .i64 x0,.list x1]=ah (F_eq x0 x1):=by kernel_rfl
theorem q_au(x0:LL):rc [.list x0]=ah (F_au x0):=by kernel_rfl
theorem q_ex(x0:LL)(x1:Int)(x2:Int):rz [.list x0,.int .i64 x1,.int .i64 x2]=ah (F_ex x0 x1 x2):=by kernel_rfl
theorem q_am(x0:LL):xo [.list x0]=ah (F_am x0):=by kernel_rfl
theorem q_bo(x0:LL):nJ [.list x0]=ah (F_bo x0):=by kernel_rfl
theorem q_ey(x0:Int)(x1:Bool)(x2:Int)(x3:LL)(x4:Int)(x5:Int)(x6:Bool)(x7:Int)(x8:LL)(x9:Int):ry [.int .i64 x0,.bool x1,.int .i64 x2,.list x3,.int .i64 x4,.int .i64 x5,.bool x6,.int .i64 x7,.list x8,.int .i64 x9]=ah (F_ey x0 x1 x2 x3 x4 x5 x6 x7 x8 x9):=by kernel_rfl
theorem q_gt(x0:LL)(x1:Int):iD [.list x0,.int .i64 x1]=ah (F_gt x0 x1):=by kernel_rfl
theorem q_cg(x0:Bool)(x1:LL)(x2:Int)(x3:LL)(x4:LL)(x5:LL)(x6:Int)(x7:Int)(x8:Int)(x9:Int):jU [.bool x0,.list x1,.int .i64 x2,.list x3,.list x4,.list x5,.int .i64 x6,.int .i64 x7,.int .i64 x8,.int .i64 x9]=ah (F_cg x0 x1 x2 x3 x4 x5 x6 x7 x8 x9):=by kernel_rfl
theorem q_ej(x0:Int)(x1:Bool)(x2:Int)(x3:LL)(x4:Int):gu [.int .i64 x0,.bool x1,.int .i64 x2,.list x3,.int .i64 x4]=ah (F_ej x0 x1 x2 x3 x4):=by kernel_rfl
theorem q_gk(x0:LL)(x1:Int)(x2:Int)(x3:Int)(x4:LL):qL [.list x0,.int .i64 x1,.int .i64 x2,.int .i64 x3,.list x4]=ah (F_gk x0 x1 x2 x3 x4):=by kernel_rfl
theorem q_dy(x0:LL):qT [.list x0]=ah (F_dy x0):=by kernel_rfl
theorem q_dl(x0:Int):qI [.int .i64 x0]=ah (F_dl x0):=by kernel_rfl
theorem q_ff(x0:LL)(x1:Int):qU [.list x0,.int .i64 x1]=ah (F_ff x0 x1):=by kernel_rfl
theorem q_el(x0:Bool)(x1:LL)(x2:Int)(x3:LL):xS [.bool x0,.list x1,.int .i64 x2,.list x3]=ah (F_el x0 x1 x2 x3):=by kernel_rfl
theorem q_dh(x0:LL)(x1:Int):xq [.list x0,.int .i64 x1]=ah (F_dh x0 x1):=by kernel_rfl
theorem q_de(x0:Int)(x1:LL):mP [.int .i64 x0,.list x1]=ah (F_de x0 x1):=by kernel_rfl
theorem q_go(x0:LL)(x1:Int)(x2:LL)(x3:Int):rx [.list x0,.int .i64 x1,.list x2,.int .i64 x3]=ah (F_go x0 x1 x2 x3):=by kernel_rfl
theorem q_br(x0:Int)(x1:Bool)(x2:Int)(x3:LL)(x4:Int)(x5:Bool):ji [.int .i64 x0,.bool x1,.int .i64 x2,.list x3,.int .i64 x4,.bool x5]=ah (F_br x0 x1 x2 x3 x4 x5):=by kernel_rfl
theorem q_cs(x0:LL)(x1:Int)(x2:Bool):ri [.list x0,.int .i64 x1,.bool x2]=ah (F_cs x0 x1 x2):=by kernel_rfl
theorem q_ad(x0:LL):xt [.list x0]=ah (F_ad x0):=by kernel_rfl
theorem q_aj(x0:LL):xp [.list x0]=ah (F_aj x0):=by kernel_rfl
theorem q_ak(x0:LL):xj [.list x0]=ah (F_ak x0):=by kernel_rfl
theorem q_bd(x0:Int)(x1:Bool)(x2:Int)(x3:LL)(x4:Int):jT [.int .i64 x0,.bool x1,.int .i64 x2,.list x3,.int .i64 x4]=ah (F_bd x0 x1 x2 x3 x4):=by kernel_rfl
theorem q_fn(x0:Int)(x1:Int)(x2:LL):xn [.int .i64 x0,.int .i64 x1,.list x2]=ah (F_fn x0 x1 x2):=by kernel_rfl
theorem q_ez:xY []=ah (F_ez):=by kernel_rfl
theorem q_em(x0:Int):fX [.int .i64 x0]=ah (F_em x0):=by kernel_rfl
theorem q_bk(x0:Int)(x1:Int)(x2:Int)(x3:Int):iE [.int .i64 x0,.int .i64 x1,.int .i64 x2,.int .i64 x3]=ah (F_bk x0 x1 x2 x3):=by kernel_rfl
end Dx
