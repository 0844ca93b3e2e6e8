import Derived.Test.YtnbhinpnmgbbhaaGreatDoorYb
set_option linter.all false
namespace Dx
open Go
theorem q_cr(x0:Bool)(x1:LL)(x2:Int)(x3:LL)(x4:LL)(x5:LL):rK [.bool x0,.list x1,.int .i64 x2,.list x3,.list x4,.list x5]=ai (F_cr x0 x1 x2 x3 x4 x5):=by kernel_rfl
theorem q_cn(x0:Bool)(x1:LL)(x2:Int)(x3:LL)(x4:Int):vc [.bool x0,.list x1,.int .i64 x2,.list x3,.int .i64 x4]=ai (F_cn x0 x1 x2 x3 x4):=by kernel_rfl
theorem q_dk(x0:Bool)(x1:LL)(x2:Int)(x3:LL)(x4:LL)(x5:LL)(x6:Int)(x7:Int)(x8:Int)(x9:LL):nt [.bool x0,.list x1,.int .i64 x2,.list x3,.list x4,.list x5,.int .i64 x6,.int .i64 x7,.int .i64 x8,.list x9]=ai (F_dk x0 x1 x2 x3 x4 x5 x6 x7 x8 x9):=by kernel_rfl
theorem q_gl(x0:ByteArray)(x1:Int):nu [.str x0,.int .u8 x1]=ai (F_gl x0 x1):=by kernel_rfl
theorem q_gv(x0:Bool)(x1:LL)(x2:Int)(x3:LL)(x4:LL)(x5:LL)(x6:Int)(x7:Int)(x8:Int)(x9:LL):ip [.bool x0,.list x1,.int .i64 x2,.list x3,.list x4,.list x5,.int .i64 x6,.int .i64 x7,.int .i64 x8,.list x9]=ai (F_gv x0 x1 x2 x3 x4 x5 x6 x7 x8 x9):=by kernel_rfl
theorem q_cy(x0:Int)(x1:Bool)(x2:Int)(x3:LL)(x4:Int)(x5:Int)(x6:Int)(x7:Int)(x8:Int):rE [.int .i64 x0,.bool x1,.int .i64 x2,.list x3,.int .i64 x4,.int .i64 x5,.int .i64 x6,.int .i64 x7,.int .i64 x8]=ai (F_cy x0 x1 x2 x3 x4 x5 x6 x7 x8):=by kernel_rfl
theorem q_bq(x0:Bool)(x1:LL)(x2:Int)(x3:LL):lk [.bool x0,.list x1,.int .i64 x2,.list x3]=ai (F_bq x0 x1 x2 x3):=by kernel_rfl
theorem q_cp(x0:LL)(x1:Int)(x2:Int):dy [.list x0,.int .i64 x1,.int .i64 x2]=ai (F_cp x0 x1 x2):=by kernel_rfl
theorem q_eb(x0:LL)(x1:ByteArray):bD [.list x0,.str x1]=ai (F_eb x0 x1):=by kernel_rfl
theorem q_dd(x0:Int)(x1:Bool)(x2:Int)(x3:LL)(x4:Int)(x5:Int)(x6:Int)(x7:Int)(x8:Int)(x9:Int):vd [.int .i64 x0,.bool x1,.int .i64 x2,.list x3,.int .i64 x4,.int .i64 x5,.int .i64 x6,.int .i64 x7,.int .i64 x8,.int .i64 x9]=ai (GY x0 x1 x2 x3 x4 x5 x6 x7 x8 x9):=by kernel_rfl
theorem q_cw(x0:Bool)(x1:LL)(x2:Int)(x3:LL)(x4:LL)(x5:LL)(x6:Int)(x7:Int)(x8:Int)(x9:LL):yo [.bool x0,.list x1,.int .i64 x2,.list x3,.list x4,.list x5,.int .i64 x6,.int .i64 x7,.int .i64 x8,.list x9]=ai (F_cw x0 x1 x2 x3 x4 x5 x6 x7 x8 x9):=by kernel_rfl
theorem q_ge(x0:Bool)(x1:LL)(x2:Int)(x3:LL):yO [.bool x0,.list x1,.int .i64 x2,.list x3]=ai (F_ge x0 x1 x2 x3):=by kernel_rfl
theorem q_dr(x0:Bool)(x1:LL)(x2:Int)(x3:LL)(x4:LL)(x5:LL)(x6:Int):rS [.bool x0,.list x1,.int .i64 x2,.list x3,.list x4,.list x5,.int .i64 x6]=ai (F_dr x0 x1 x2 x3 x4 x5 x6):=by kernel_rfl
theorem q_ec(x0:LL):xM [.list x0]=ai (F_ec x0):=by kernel_rfl
theorem q_fc(x0:Bool)(x1:LL)(x2:Int)(x3:LL)(x4:LL)(x5:LL):rJ [.bool x0,.list x1,.int .i64 x2,.list x3,.list x4,.list x5]=ai (F_fc x0 x1 x2 x3 x4 x5):=by kernel_rfl
theorem q_gx(x0:Int)(x1:LL):ny [.int .i64 x0,.list x1]=ai (F_gx x0 x1):=by kernel_rfl
theorem q_co(x0:Bool)(x1:LL)(x2:Int)(x3:LL)(x4:LL)(x5:LL)(x6:Int):vg [.bool x0,.list x1,.int .i64 x2,.list x3,.list x4,.list x5,.int .i64 x6]=ai (F_co x0 x1 x2 x3 x4 x5 x6):=by kernel_rfl
theorem q_dt(x0:LL)(x1:Int)(x2:Int)(x3:LL):rt [.list x0,.int .i64 x1,.int .i64 x2,.list x3]=ai (F_dt x0 x1 x2 x3):=by kernel_rfl
theorem q_fa(x0:Bool)(x1:LL)(x2:Int)(x3:LL)(x4:LL)(x5:LL):yT [.bool x0,.list x1,.int .i64 x2,.list x3,.list x4,.list x5]=ai (F_fa x0 x1 x2 x3 x4 x5):=by kernel_rfl
theorem q_az(x0:Bool)(x1:LL)(x2:Int)(x3:LL)(x4:LL)(x5:LL)(x6:Int)(x7:Int)(x8:Int)(x9:Int):yE [.bool x0,.list x1,.int .i64 x2,.list x3,.list x4,.list x5,.int .i64 x6,.int .i64 x7,.int .i64 x8,.int .i64 x9]=ai (F_az x0 x1 x2 x3 x4 x5 x6 x7 x8 x9):=by kernel_rfl
theorem q_bt(x0:Bool)(x1:LL)(x2:Int)(x3:LL)(x4:LL)(x5:LL)(x6:Int):yG [.bool x0,.list x1,.int .i64 x2,.list x3,.list x4,.list x5,.int .i64 x6]=ai (F_bt x0 x1 x2 x3 x4 x5 x6):=by kernel_rfl
theorem q_cv(x0:Bool)(x1:LL)(x2:Int)(x3:LL)(x4:LL):yc [.bool x0,.list x1,.int .i64 x2,.list x3,.list x4]=ai (F_cv x0 x1 x2 x3 x4):=by kernel_rfl
theorem q_ae(x0:Bool)(x1:LL)(x2:Int)(x3:LL)(x4:LL)(x5:LL)(x6:Int):rI [.bool x0,.list x1,.int .i64 x2,.list x3,.list x4,.list x5,.int .i64 x6]=ai (Jp x0 x1 x2 x3 x4 x5 x6):=by kernel_rfl
theorem q_gd(x0:Int)(x1:LL):rO [.int .i64 x0,.list x1]=ai (F_gd x0 x1):=by kernel_rfl
theorem q_ft(x0:LL)(x1:Int)(x2:Int)(x3:Int)(x4:LL):rA [.list x0,.int .i64 x1,.int .i64 x2,.int .i64 x3,.list x4]=ai (F_ft x0 x1 x2 x3 x4):=by kernel_rfl
theorem q_gp(x0:Int)(x1:Int)(x2:LL):jV [.int .i64 x0,.int .i64 x1,.list x2]=ai (F_gp x0 x1 x2):=by kernel_rfl
theorem q_cc(x0:Int)(x1:LL):nr [.int .i64 x0,.list x1]=ai (F_cc x0 x1):=by kernel_rfl
theorem q_fv(x0:Bool)(x1:LL)(x2:Int)(x3:LL)(x4:Int)(x5:LL)(x6:Int):nA [.bool x0,.list x1,.int .i64 x2,.list x3,.int .i64 x4,.list x5,.int .i64 x6]=ai (F_fv x0 x1 x2 x3 x4 x5 x6):=by kernel_rfl
theorem q_ee(x0:Int)(x1:Int):yg [.int .i64 x0,.int .i64 x1]=ai (F_ee x0 x1):=by kernel_rfl
theorem q_ej(x0:Int)(x1:LL):rD [.int .i64 x0,.list x1]=ai (F_ej x0 x1):=by kernel_rfl
theorem q_di(x0:Int)(x1:Int):xL [.int .i64 x0,.int .i64 x1]=ai (F_di x0 x1):=by kernel_rfl
theorem q_fx(x0:LL):y5 [.list x0]=ai (F_fx x0):=by kernel_rfl
theorem q_da:om []=ai (F_da):=by kernel_rfl
theorem q_at(x0:LL):ry [.list x0]=ai (F_at x0):=by kernel_rfl
theorem q_fq(x0:LL)(x1:Int)(x2:Int):rV [.list x0,.int .i64 x1,.int .i64 x2]=ai (F_fq x0 x1 x2):=by kernel_rfl
theorem q_as(x0:LL):yl [.list x0]=ai (F_as x0):=by kernel_rfl
theorem q_ah(x0:LL):yi [.list x0]=ai (F_ah x0):=by kernel_rfl
theorem q_ao(x0:LL):xR [.list x0]=ai (F_ao x0):=by kernel_rfl
theorem q_ci(x0:Bool)(x1:LL)(x2:Int)(x3:LL)(x4:LL)(x5:LL)(x6:Int)(x7:Int)(x8:Int)(x9:Int):jT [.bool x0,.list x1,.int .i64 x2,.list x3,.list x4,.list x5,.int .i64 x6,.int .i64 x7,.int .i64 x8,.int .i64 x9]=ai (F_ci x0 x1 x2 x3 x4 x5 x6 x7 x8 x9):=by kernel_rfl
theorem q_dh(x0:Bool)(x1:LL)(x2:Int)(x3:LL):yx [.bool x0,.list x1,.int .i64 x2,.list x3]=ai (F_dh x0 x1 x2 x3):=by kernel_rfl
theorem q_ds(x0:Bool)(x1:LL)(x2:Int)(x3:LL)(x4:Bool):fy [.bool x0,.list x1,.int .i64 x2,.list x3,.bool x4]=ai (F_ds x0 x1 x2 x3 x4):=by kernel_rfl
theorem q_gk(x0:LL)(x1:Int)(x2:Int)(x3:Int)(x4:LL):rR [.list x0,.int .i64 x1,.int .i64 x2,.int .i64 x3,.list x4]=ai (F_gk x0 x1 x2 x3 x4):=by kernel_rfl
theorem q_fg(x0:Int)(x1:Bool)(x2:Int)(x3:LL)(x4:Int):yP [.int .i64 x0,.bool x1,.int .i64 x2,.list x3,.int .i64 x4]=ai (F_fg x0 x1 x2 x3 x4):=by kernel_rfl
theorem q_fk(x0:LL)(x1:Int):rr [.list x0,.int .i64 x1]=ai (F_fk x0 x1):=by kernel_rfl
theorem q_ck(x0:LL)(x1:Int):xW [.list x0,.int .i64 x1]=ai (F_ck x0 x1):=by kernel_rfl
theorem q_fd(x0:LL):xZ [.list x0]=ai (F_fd x0):=by kernel_rfl
theorem q_ce(x0:Int)(x1:Bool)(x2:Int)(x3:LL)(x4:Int)(x5:Int)(x6:Int)(x7:Int)(x8:LL):yv [.int .i64 x0,.bool x1,.int .i64 x2,.list x3,.int .i64 x4,.int .i64 x5,.int .i64 x6,.int .i64 x7,.list x8]=ai (F_ce x0 x1 x2 x3 x4 x5 x6 x7 x8):=by kernel_rfl
theorem q_cj(x0:Bool)(x1:LL)(x2:Int)(x3:LL)(x4:Int)(x5:Int)(x6:Int)(x7:LL):yt [.bool x0,.list x1,.int .i64 x2,.list x3,.int .i64 x4,.int .i64 x5,.int .i64 x6,.list x7]=ai (F_cj x0 x1 x2 x3 x4 x5 x6 x7):=by kernel_rfl
theorem q_bh(x0:Bool)(x1:LL)(x2:Int)(x3:LL):iL [.bool x0,.list x1,.int .i64 x2,.list x3]=ai (F_bh x0 x1 x2 x3):=by kernel_rfl
theorem q_ad(x0:LL):yB [.list x0]=ai (F_ad x0):=by kernel_rfl
theorem q_bw(x0:LL)(x1:Int):np [.list x0,.int .i64 x1]=ai (F_bw x0 x1):=by kernel_rfl
theorem q_cb(x0:Bool)(x1:LL)(x2:Int)(x3:LL)(x4:Bool):fx [.bool x0,.list x1,.int .i64 x2,.list x3,.bool x4]=ai (F_cb x0 x1 x2 x3 x4):=by kernel_rfl
theorem q_ba(x0:Int)(x1:Bool)(x2:Int)(x3:LL)(x4:Int):jU [.int .i64 x0,.bool x1,.int .i64 x2,.list x3,.int .i64 x4]=ai (F_ba x0 x1 x2 x3 x4):=by kernel_rfl
theorem q_cx(x0:Int)(x1:Int):yh [.int .i64 x0,.int .i64 x1]=ai (F_cx x0 x1):=by kernel_rfl
theorem q_de(x0:Bool)(x1:LL)(x2:Int)(x3:LL)(x4:Int)(x5:Int)(x6:Int):rB [.bool x0,.list x1,.int .i64 x2,.list x3,.int .i64 x4,.int .i64 x5,.int .i64 x6]=ai (F_de x0 x1 x2 x3 x4 x5 x6):=by kernel_rfl
theorem q_gj(x0:Int):gC [.int .i64 x0]=ai (F_gj x0):=by kernel_rfl
theorem q_by(x0:Int):xQ [.int .i64 x0]=ai (F_by x0):=by kernel_rfl
end Dx
