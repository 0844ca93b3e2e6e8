import Derived.Test.YtgnkmfmdoibifaaGreatYb
set_option linter.all false
namespace Dx
open Go
theorem q_fv(x0:Bool)(x1:LL)(x2:Int)(x3:LL)(x4:LL)(x5:LL):pd [.bool x0,.list x1,.int .i64 x2,.list x3,.list x4,.list x5]=ai (F_fv x0 x1 x2 x3 x4 x5):=by kernel_rfl
theorem q_db(x0:Bool)(x1:LL)(x2:Int)(x3:LL)(x4:LL)(x5:LL)(x6:Int)(x7:Int)(x8:Int)(x9:LL):l5 [.bool x0,.list x1,.int .i64 x2,.list x3,.list x4,.list x5,.int .i64 x6,.int .i64 x7,.int .i64 x8,.list x9]=ai (F_db x0 x1 x2 x3 x4 x5 x6 x7 x8 x9):=by kernel_rfl
theorem q_ev(x0:Int)(x1:Bool)(x2:Int)(x3:LL)(x4:Int)(x5:Int)(x6:Int)(x7:Int)(x8:Int):tX [.int .i64 x0,.bool x1,.int .i64 x2,.list x3,.int .i64 x4,.int .i64 x5,.int .i64 x6,.int .i64 x7,.int .i64 x8]=ai (F_ev x0 x1 x2 x3 x4 x5 x6 x7 x8):=by kernel_rfl
theorem q_ef(x0:Bool)(x1:LL)(x2:Int)(x3:LL)(x4:LL)(x5:LL)(x6:Int)(x7:Int)(x8:Int)(x9:LL):oN [.bool x0,.list x1,.int .i64 x2,.list x3,.list x4,.list x5,.int .i64 x6,.int .i64 x7,.int .i64 x8,.list x9]=ai (xj x0 x1 x2 x3 x4 x5 x6 x7 x8 x9):=by kernel_rfl
theorem q_dn(x0:Bool)(x1:LL)(x2:Int)(x3:LL):lX [.bool x0,.list x1,.int .i64 x2,.list x3]=ai (F_dn x0 x1 x2 x3):=by kernel_rfl
theorem q_cs(x0:LL)(x1:Int)(x2:Int):cj [.list x0,.int .i64 x1,.int .i64 x2]=ai (F_cs x0 x1 x2):=by kernel_rfl
theorem q_ci(x0:Int)(x1:Bool)(x2:Int)(x3:LL)(x4:Int)(x5:Int)(x6:Int)(x7:Int)(x8:Int)(x9:Int):qP [.int .i64 x0,.bool x1,.int .i64 x2,.list x3,.int .i64 x4,.int .i64 x5,.int .i64 x6,.int .i64 x7,.int .i64 x8,.int .i64 x9]=ai (BQ x0 x1 x2 x3 x4 x5 x6 x7 x8 x9):=by kernel_rfl
theorem q_fa(x0:Bool)(x1:LL)(x2:Int)(x3:LL):dU [.bool x0,.list x1,.int .i64 x2,.list x3]=ai (F_fa x0 x1 x2 x3):=by kernel_rfl
theorem pU(x0:LL)(x1:Int)(x2:Int)(x3:LL):db [.list x0,.int .i64 x1,.int .i64 x2,.list x3]=ai (ga x0 x1 x2 x3):=by kernel_rfl
theorem q_cq(x0:LL)(x1:LL):eW [.list x0,.list x1]=ai (F_cq x0 x1):=by kernel_rfl
theorem q_em(x0:Bool)(x1:LL)(x2:Int)(x3:LL)(x4:Int)(x5:Int)(x6:Int)(x7:Int):tU [.bool x0,.list x1,.int .i64 x2,.list x3,.int .i64 x4,.int .i64 x5,.int .i64 x6,.int .i64 x7]=ai (F_em x0 x1 x2 x3 x4 x5 x6 x7):=by kernel_rfl
theorem q_ga(x0:Int)(x1:LL):oJ [.int .i64 x0,.list x1]=ai (F_ga x0 x1):=by kernel_rfl
theorem rR(x0:Int)(x1:LL)(x2:Int)(x3:Int)(x4:LL):du [.int .i64 x0,.list x1,.int .i64 x2,.int .i64 x3,.list x4]=ai (kF x0 x1 x2 x3 x4):=by kernel_rfl
theorem q_dy(x0:Int)(x1:LL)(x2:Int)(x3:Int)(x4:LL):uC [.int .i64 x0,.list x1,.int .i64 x2,.int .i64 x3,.list x4]=ai (F_dy x0 x1 x2 x3 x4):=by kernel_rfl
theorem q_cd(x0:Bool)(x1:LL)(x2:Int)(x3:LL)(x4:LL)(x5:LL)(x6:Int):pc [.bool x0,.list x1,.int .i64 x2,.list x3,.list x4,.list x5,.int .i64 x6]=ai (F_cd x0 x1 x2 x3 x4 x5 x6):=by kernel_rfl
theorem q_ab(x0:Bool)(x1:LL)(x2:Int)(x3:LL)(x4:LL)(x5:LL)(x6:Int):uJ [.bool x0,.list x1,.int .i64 x2,.list x3,.list x4,.list x5,.int .i64 x6]=ai (Ei x0 x1 x2 x3 x4 x5 x6):=by kernel_rfl
theorem q_ba(x0:Bool)(x1:LL)(x2:Int)(x3:LL)(x4:LL)(x5:LL):u0 [.bool x0,.list x1,.int .i64 x2,.list x3,.list x4,.list x5]=ai (F_ba x0 x1 x2 x3 x4 x5):=by kernel_rfl
theorem q_ey(x0:Int)(x1:LL):tV [.int .i64 x0,.list x1]=ai (F_ey x0 x1):=by kernel_rfl
theorem q_ft(x0:Int)(x1:Int)(x2:LL):lf [.int .i64 x0,.int .i64 x1,.list x2]=ai (F_ft x0 x1 x2):=by kernel_rfl
theorem q_fc(x0:LL):tR [.list x0]=ai (F_fc x0):=by kernel_rfl
theorem q_ez(x0:Bool)(x1:LL)(x2:Int)(x3:LL)(x4:Int)(x5:LL)(x6:Int):lh [.bool x0,.list x1,.int .i64 x2,.list x3,.int .i64 x4,.list x5,.int .i64 x6]=ai (F_ez x0 x1 x2 x3 x4 x5 x6):=by kernel_rfl
theorem q_fl(x0:Bool)(x1:LL)(x2:Int)(x3:LL)(x4:Int)(x5:LL)(x6:Int):tT [.bool x0,.list x1,.int .i64 x2,.list x3,.int .i64 x4,.list x5,.int .i64 x6]=ai (F_fl x0 x1 x2 x3 x4 x5 x6):=by kernel_rfl
theorem q_dx(x0:Int)(x1:Int):ux [.int .i64 x0,.int .i64 x1]=ai (F_dx x0 x1):=by kernel_rfl
theorem q_ds(x0:Bool)(x1:LL)(x2:Int)(x3:LL)(x4:Int)(x5:Int)(x6:LL):dB [.bool x0,.list x1,.int .i64 x2,.list x3,.int .i64 x4,.int .i64 x5,.list x6]=ai (F_ds x0 x1 x2 x3 x4 x5 x6):=by kernel_rfl
theorem q_bz(x0:Int)(x1:Bool)(x2:Int)(x3:LL)(x4:Int):uI [.int .i64 x0,.bool x1,.int .i64 x2,.list x3,.int .i64 x4]=ai (F_bz x0 x1 x2 x3 x4):=by kernel_rfl
theorem q_dw(x0:LL):oR [.list x0]=ai (F_dw x0):=by kernel_rfl
theorem q_cx(x0:Bool)(x1:LL)(x2:Int)(x3:LL):uH [.bool x0,.list x1,.int .i64 x2,.list x3]=ai (F_cx x0 x1 x2 x3):=by kernel_rfl
theorem q_dz(x0:LL)(x1:Int)(x2:Int):o8 [.list x0,.int .i64 x1,.int .i64 x2]=ai (F_dz x0 x1 x2):=by kernel_rfl
theorem q_bg(x0:LL):lZ [.list x0]=ai (F_bg x0):=by kernel_rfl
theorem q_ah(x0:LL):ul [.list x0]=ai (F_ah x0):=by kernel_rfl
theorem q_an(x0:LL):uf [.list x0]=ai (F_an x0):=by kernel_rfl
theorem q_cc(x0:Bool)(x1:LL)(x2:Int)(x3:LL)(x4:LL)(x5:LL)(x6:Int)(x7:Int)(x8:Int)(x9:Int):iR [.bool x0,.list x1,.int .i64 x2,.list x3,.list x4,.list x5,.int .i64 x6,.int .i64 x7,.int .i64 x8,.int .i64 x9]=ai (F_cc x0 x1 x2 x3 x4 x5 x6 x7 x8 x9):=by kernel_rfl
theorem q_du(x0:Bool)(x1:LL)(x2:Int)(x3:LL):uP [.bool x0,.list x1,.int .i64 x2,.list x3]=ai (F_du x0 x1 x2 x3):=by kernel_rfl
theorem q_dd(x0:Bool)(x1:LL)(x2:Int)(x3:LL)(x4:Bool):ep [.bool x0,.list x1,.int .i64 x2,.list x3,.bool x4]=ai (F_dd x0 x1 x2 x3 x4):=by kernel_rfl
theorem q_fx(x0:LL)(x1:Int)(x2:Int)(x3:Int)(x4:LL):oG [.list x0,.int .i64 x1,.int .i64 x2,.int .i64 x3,.list x4]=ai (F_fx x0 x1 x2 x3 x4):=by kernel_rfl
theorem q_dl(x0:LL)(x1:Int):o7 [.list x0,.int .i64 x1]=ai (F_dl x0 x1):=by kernel_rfl
theorem q_dq(x0:Int):uw [.int .i64 x0]=ai (F_dq x0):=by kernel_rfl
theorem q_fq(x0:Int)(x1:Int)(x2:LL)(x3:Int)(x4:Int)(x5:LL):uS [.int .i64 x0,.int .i64 x1,.list x2,.int .i64 x3,.int .i64 x4,.list x5]=ai (F_fq x0 x1 x2 x3 x4 x5):=by kernel_rfl
theorem q_cy(x0:Bool)(x1:LL)(x2:Int)(x3:LL):uV [.bool x0,.list x1,.int .i64 x2,.list x3]=ai (F_cy x0 x1 x2 x3):=by kernel_rfl
theorem q_co(x0:Int)(x1:LL):uW [.int .i64 x0,.list x1]=ai (F_co x0 x1):=by kernel_rfl
theorem q_fz(x0:Int)(x1:Int)(x2:Int):cK [.int .i64 x0,.int .i64 x1,.int .i64 x2]=ai (F_fz x0 x1 x2):=by kernel_rfl
theorem q_bq(x0:Bool)(x1:LL)(x2:Int)(x3:LL)(x4:Int)(x5:Int)(x6:Int)(x7:LL):uL [.bool x0,.list x1,.int .i64 x2,.list x3,.int .i64 x4,.int .i64 x5,.int .i64 x6,.list x7]=ai (F_bq x0 x1 x2 x3 x4 x5 x6 x7):=by kernel_rfl
theorem q_eb(x0:Bool)(x1:LL)(x2:Int)(x3:LL)(x4:Int):t6 [.bool x0,.list x1,.int .i64 x2,.list x3,.int .i64 x4]=ai (F_eb x0 x1 x2 x3 x4):=by kernel_rfl
theorem q_ae(x0:LL):uA [.list x0]=ai (F_ae x0):=by kernel_rfl
theorem q_bt(x0:LL)(x1:Int):ll [.list x0,.int .i64 x1]=ai (F_bt x0 x1):=by kernel_rfl
theorem q_bw(x0:Bool)(x1:LL)(x2:Int)(x3:LL)(x4:Bool):eu [.bool x0,.list x1,.int .i64 x2,.list x3,.bool x4]=ai (F_bw x0 x1 x2 x3 x4):=by kernel_rfl
theorem q_er(x0:Int)(x1:Int)(x2:LL):uh [.int .i64 x0,.int .i64 x1,.list x2]=ai (F_er x0 x1 x2):=by kernel_rfl
theorem q_ed:tP []=ai (F_ed):=by kernel_rfl
theorem q_dv:t8 []=ai (F_dv):=by kernel_rfl
theorem q_fi(x0:Int):fK [.int .i64 x0]=ai (F_fi x0):=by kernel_rfl
end Dx
