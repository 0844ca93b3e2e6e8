import Derived.Test.YtahfbeiobndhkaaGreatYb
set_option linter.all false
namespace Dx
open Go
theorem q_dh(x0:LL)(x1:Int)(x2:Bool)(x3:LL)(x4:Int)(x5:LL)(x6:LL)(x7:LL):mZ [.list x0,.int .i64 x1,.bool x2,.list x3,.int .i64 x4,.list x5,.list x6,.list x7]=aj (F_dh x0 x1 x2 x3 x4 x5 x6 x7):=by kernel_rfl
theorem q_dg(x0:Bool)(x1:LL)(x2:Int)(x3:LL)(x4:LL)(x5:LL)(x6:Int)(x7:Int)(x8:Int)(x9:LL):tO [.bool x0,.list x1,.int .i64 x2,.list x3,.list x4,.list x5,.int .i64 x6,.int .i64 x7,.int .i64 x8,.list x9]=aj (F_dg x0 x1 x2 x3 x4 x5 x6 x7 x8 x9):=by kernel_rfl
theorem q_ep(x0:LL)(x1:Int):qt [.list x0,.int .i64 x1]=aj (F_ep x0 x1):=by kernel_rfl
theorem q_gl(x0:Bool)(x1:LL)(x2:Int)(x3:LL)(x4:LL)(x5:LL)(x6:Int)(x7:Int)(x8:Int)(x9:LL):mi [.bool x0,.list x1,.int .i64 x2,.list x3,.list x4,.list x5,.int .i64 x6,.int .i64 x7,.int .i64 x8,.list x9]=aj (F_gl x0 x1 x2 x3 x4 x5 x6 x7 x8 x9):=by kernel_rfl
theorem q_eq(x0:Bool)(x1:LL)(x2:Int)(x3:LL)(x4:LL)(x5:LL)(x6:Int)(x7:Int)(x8:Int)(x9:LL):qr [.bool x0,.list x1,.int .i64 x2,.list x3,.list x4,.list x5,.int .i64 x6,.int .i64 x7,.int .i64 x8,.list x9]=aj (z9 x0 x1 x2 x3 x4 x5 x6 x7 x8 x9):=by kernel_rfl
theorem q_dq(x0:Bool)(x1:LL)(x2:Int)(x3:LL):kq [.bool x0,.list x1,.int .i64 x2,.list x3]=aj (F_dq x0 x1 x2 x3):=by kernel_rfl
theorem q_bl(x0:Bool)(x1:LL)(x2:Int)(x3:LL):qG [.bool x0,.list x1,.int .i64 x2,.list x3]=aj (F_bl x0 x1 x2 x3):=by kernel_rfl
theorem q_fp(x0:LL)(x1:Int):xF [.list x0,.int .i64 x1]=aj (F_fp x0 x1):=by kernel_rfl
theorem q_fe(x0:Bool)(x1:LL)(x2:Int)(x3:LL)(x4:LL)(x5:LL):iL [.bool x0,.list x1,.int .i64 x2,.list x3,.list x4,.list x5]=aj (F_fe x0 x1 x2 x3 x4 x5):=by kernel_rfl
theorem q_ct(x0:Bool)(x1:LL)(x2:Int)(x3:LL)(x4:LL)(x5:LL)(x6:Int)(x7:Int)(x8:Int)(x9:LL):xo [.bool x0,.list x1,.int .i64 x2,.list x3,.list x4,.list x5,.int .i64 x6,.int .i64 x7,.int .i64 x8,.list x9]=aj (F_ct x0 x1 x2 x3 x4 x5 x6 x7 x8 x9):=by kernel_rfl
theorem q_bh(x0:LL):kv [.list x0]=aj (F_bh x0):=by kernel_rfl
theorem se(x0:LL)(x1:Int)(x2:Int)(x3:LL):cS [.list x0,.int .i64 x1,.int .i64 x2,.list x3]=aj (gw x0 x1 x2 x3):=by kernel_rfl
theorem q_ds(x0:LL):wz [.list x0]=aj (F_ds x0):=by kernel_rfl
theorem q_df(x0:Int)(x1:LL)(x2:Int)(x3:Int)(x4:LL):qz [.int .i64 x0,.list x1,.int .i64 x2,.int .i64 x3,.list x4]=aj (F_df x0 x1 x2 x3 x4):=by kernel_rfl
theorem q_bx(x0:Bool)(x1:LL)(x2:Int)(x3:LL)(x4:Int)(x5:Int)(x6:LL):m8 [.bool x0,.list x1,.int .i64 x2,.list x3,.int .i64 x4,.int .i64 x5,.list x6]=aj (F_bx x0 x1 x2 x3 x4 x5 x6):=by kernel_rfl
theorem q_ek(x0:Bool)(x1:LL)(x2:Int)(x3:LL)(x4:LL)(x5:LL)(x6:Int)(x7:Int)(x8:Int)(x9:Int):wG [.bool x0,.list x1,.int .i64 x2,.list x3,.list x4,.list x5,.int .i64 x6,.int .i64 x7,.int .i64 x8,.int .i64 x9]=aj (F_ek x0 x1 x2 x3 x4 x5 x6 x7 x8 x9):=by kernel_rfl
theorem q_aa(x0:Bool)(x1:LL)(x2:Int)(x3:LL)(x4:LL)(x5:LL)(x6:Int)(x7:Int)(x8:Int)(x9:Int)(x10:LL)(x11:Int)(x12:Int)(x13:Int)(x14:LL):xw [.bool x0,.list x1,.int .i64 x2,.list x3,.list x4,.list x5,.int .i64 x6,.int .i64 x7,.int .i64 x8,.int .i64 x9,.list x10,.int .i64 x11,.int .i64 x12,.int .i64 x13,.list x14]=aj (HE x0 x1 x2 x3 x4 x5 x6 x7 x8 x9 x10 x11 x12 x13 x14):=by kernel_rfl
theorem q_cr(x0:Bool)(x1:LL)(x2:Int)(x3:LL)(x4:LL):hU [.bool x0,.list x1,.int .i64 x2,.list x3,.list x4]=aj (F_cr x0 x1 x2 x3 x4):=by kernel_rfl
theorem q_az(x0:Bool)(x1:LL)(x2:Int)(x3:LL)(x4:LL)(x5:LL):xi [.bool x0,.list x1,.int .i64 x2,.list x3,.list x4,.list x5]=aj (F_az x0 x1 x2 x3 x4 x5):=by kernel_rfl
theorem q_fi(x0:LL)(x1:LL):qP [.list x0,.list x1]=aj (F_fi x0 x1):=by kernel_rfl
theorem q_gp(x0:Int)(x1:Int)(x2:LL):gW [.int .i64 x0,.int .i64 x1,.list x2]=aj (F_gp x0 x1 x2):=by kernel_rfl
theorem q_fl(x0:LL):wA [.list x0]=aj (F_fl x0):=by kernel_rfl
theorem q_bp(x0:Int)(x1:LL):qy [.int .i64 x0,.list x1]=aj (F_bp x0 x1):=by kernel_rfl
theorem q_fj(x0:Int)(x1:Int)(x2:Int)(x3:Int):jk [.int .i64 x0,.int .i64 x1,.int .i64 x2,.int .i64 x3]=aj (F_fj x0 x1 x2 x3):=by kernel_rfl
theorem q_dz(x0:Bool)(x1:LL)(x2:Int)(x3:LL)(x4:LL)(x5:LL)(x6:Int)(x7:Int)(x8:Int)(x9:LL):iM [.bool x0,.list x1,.int .i64 x2,.list x3,.list x4,.list x5,.int .i64 x6,.int .i64 x7,.int .i64 x8,.list x9]=aj (F_dz x0 x1 x2 x3 x4 x5 x6 x7 x8 x9):=by kernel_rfl
theorem q_gd(x0:LL)(x1:LL):jo [.list x0,.list x1]=aj (F_gd x0 x1):=by kernel_rfl
theorem q_du(x0:Bool)(x1:LL)(x2:Int)(x3:LL)(x4:Int)(x5:Int)(x6:LL):cV [.bool x0,.list x1,.int .i64 x2,.list x3,.int .i64 x4,.int .i64 x5,.list x6]=aj (F_du x0 x1 x2 x3 x4 x5 x6):=by kernel_rfl
theorem q_by(x0:Int)(x1:Bool)(x2:Int)(x3:LL)(x4:Int):xq [.int .i64 x0,.bool x1,.int .i64 x2,.list x3,.int .i64 x4]=aj (F_by x0 x1 x2 x3 x4):=by kernel_rfl
theorem q_ez(x0:Int)(x1:LL):xc [.int .i64 x0,.list x1]=aj (F_ez x0 x1):=by kernel_rfl
theorem q_as(x0:LL):qC [.list x0]=aj (F_as x0):=by kernel_rfl
theorem q_fr(x0:LL)(x1:Int)(x2:Int)(x3:Int)(x4:Int):mr [.list x0,.int .i64 x1,.int .i64 x2,.int .i64 x3,.int .i64 x4]=aj (F_fr x0 x1 x2 x3 x4):=by kernel_rfl
theorem q_fn(x0:LL)(x1:Int)(x2:Int):qq [.list x0,.int .i64 x1,.int .i64 x2]=aj (F_fn x0 x1 x2):=by kernel_rfl
theorem q_am(x0:LL):wR [.list x0]=aj (F_am x0):=by kernel_rfl
theorem q_ai(x0:LL):wU [.list x0]=aj (F_ai x0):=by kernel_rfl
theorem q_an(x0:LL):wO [.list x0]=aj (F_an x0):=by kernel_rfl
theorem q_bq(x0:Bool)(x1:LL)(x2:Int)(x3:LL)(x4:LL)(x5:LL)(x6:Int)(x7:Int)(x8:Int)(x9:Int):jn [.bool x0,.list x1,.int .i64 x2,.list x3,.list x4,.list x5,.int .i64 x6,.int .i64 x7,.int .i64 x8,.int .i64 x9]=aj (F_bq x0 x1 x2 x3 x4 x5 x6 x7 x8 x9):=by kernel_rfl
theorem q_de(x0:Bool)(x1:LL)(x2:Int)(x3:LL):xx [.bool x0,.list x1,.int .i64 x2,.list x3]=aj (F_de x0 x1 x2 x3):=by kernel_rfl
theorem q_dr(x0:Bool)(x1:LL)(x2:Int)(x3:LL)(x4:Bool):dw [.bool x0,.list x1,.int .i64 x2,.list x3,.bool x4]=aj (F_dr x0 x1 x2 x3 x4):=by kernel_rfl
theorem q_go(x0:LL)(x1:Int)(x2:Int)(x3:Int)(x4:LL):ql [.list x0,.int .i64 x1,.int .i64 x2,.int .i64 x3,.list x4]=aj (F_go x0 x1 x2 x3 x4):=by kernel_rfl
theorem q_av(x0:LL):kx [.list x0]=aj (F_av x0):=by kernel_rfl
theorem q_dd(x0:Int):qj [.int .i64 x0]=aj (F_dd x0):=by kernel_rfl
theorem q_dv(x0:Int):wZ [.int .i64 x0]=aj (F_dv x0):=by kernel_rfl
theorem q_ce(x0:Bool)(x1:LL)(x2:Int)(x3:LL)(x4:Bool):dh [.bool x0,.list x1,.int .i64 x2,.list x3,.bool x4]=aj (F_ce x0 x1 x2 x3 x4):=by kernel_rfl
theorem q_cw(x0:Bool)(x1:LL)(x2:Int)(x3:LL)(x4:Bool):xG [.bool x0,.list x1,.int .i64 x2,.list x3,.bool x4]=aj (F_cw x0 x1 x2 x3 x4):=by kernel_rfl
theorem q_fa(x0:LL):wW [.list x0]=aj (F_fa x0):=by kernel_rfl
theorem q_gm(x0:LL)(x1:Int)(x2:LL)(x3:Int):qN [.list x0,.int .i64 x1,.list x2,.int .i64 x3]=aj (F_gm x0 x1 x2 x3):=by kernel_rfl
theorem q_bw(x0:Bool)(x1:LL)(x2:Int)(x3:LL)(x4:Int)(x5:Int)(x6:Int)(x7:LL):xt [.bool x0,.list x1,.int .i64 x2,.list x3,.int .i64 x4,.int .i64 x5,.int .i64 x6,.list x7]=aj (F_bw x0 x1 x2 x3 x4 x5 x6 x7):=by kernel_rfl
theorem q_bb(x0:Bool)(x1:LL)(x2:Int)(x3:LL):fV [.bool x0,.list x1,.int .i64 x2,.list x3]=aj (F_bb x0 x1 x2 x3):=by kernel_rfl
theorem q_ae(x0:LL):wV [.list x0]=aj (F_ae x0):=by kernel_rfl
theorem q_ah(x0:LL):wS [.list x0]=aj (F_ah x0):=by kernel_rfl
theorem q_ak(x0:LL):wP [.list x0]=aj (F_ak x0):=by kernel_rfl
theorem q_bm(x0:Int):wK [.int .i64 x0]=aj (F_bm x0):=by kernel_rfl
theorem q_dx(x0:Int)(x1:Int)(x2:LL):wQ [.int .i64 x0,.int .i64 x1,.list x2]=aj (F_dx x0 x1 x2):=by kernel_rfl
theorem q_ei:tR []=aj (F_ei):=by kernel_rfl
theorem q_ft(x0:Int):gY [.int .i64 x0]=aj (F_ft x0):=by kernel_rfl
end Dx
