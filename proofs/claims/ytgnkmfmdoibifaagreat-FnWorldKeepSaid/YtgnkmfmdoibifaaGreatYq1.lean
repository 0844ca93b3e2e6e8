import Derived.Test.YtgnkmfmdoibifaaGreatYb
set_option linter.all false
namespace Dx
open Go
theorem q_eu(x0:Bool)(x1:LL)(x2:Int)(x3:LL)(x4:LL)(x5:LL)(x6:Int):qJ [.bool x0,.list x1,.int .i64 x2,.list x3,.list x4,.list x5,.int .i64 x6]=ai (F_eu x0 x1 x2 x3 x4 x5 x6):=by kernel_rfl
theorem q_av(x0:Int)(x1:Bool)(x2:Int)(x3:LL)(x4:Int)(x5:Int)(x6:Int)(x7:Int)(x8:Int):uD [.int .i64 x0,.bool x1,.int .i64 x2,.list x3,.int .i64 x4,.int .i64 x5,.int .i64 x6,.int .i64 x7,.int .i64 x8]=ai (F_av x0 x1 x2 x3 x4 x5 x6 x7 x8):=by kernel_rfl
theorem q_es(x0:Bool)(x1:LL)(x2:Int)(x3:LL)(x4:LL)(x5:LL)(x6:Int)(x7:Int)(x8:Int)(x9:LL):tS [.bool x0,.list x1,.int .i64 x2,.list x3,.list x4,.list x5,.int .i64 x6,.int .i64 x7,.int .i64 x8,.list x9]=ai (y5 x0 x1 x2 x3 x4 x5 x6 x7 x8 x9):=by kernel_rfl
theorem q_fh(x0:Bool)(x1:LL)(x2:Int)(x3:LL)(x4:LL)(x5:LL)(x6:Int)(x7:Int)(x8:Int)(x9:LL):oL [.bool x0,.list x1,.int .i64 x2,.list x3,.list x4,.list x5,.int .i64 x6,.int .i64 x7,.int .i64 x8,.list x9]=ai (z7 x0 x1 x2 x3 x4 x5 x6 x7 x8 x9):=by kernel_rfl
theorem q_fr(x0:Int)(x1:Int)(x2:LL):gB [.int .i64 x0,.int .i64 x1,.list x2]=ai (F_fr x0 x1 x2):=by kernel_rfl
theorem q_cr(x0:LL)(x1:LL):dq [.list x0,.list x1]=ai (F_cr x0 x1):=by kernel_rfl
theorem q_dp(x0:LL):oD [.list x0]=ai (F_dp x0):=by kernel_rfl
theorem q_ea(x0:Bool)(x1:LL)(x2:Int)(x3:LL)(x4:LL)(x5:LL)(x6:Bool)(x7:LL)(x8:Int)(x9:LL)(x10:LL)(x11:LL):dV [.bool x0,.list x1,.int .i64 x2,.list x3,.list x4,.list x5,.bool x6,.list x7,.int .i64 x8,.list x9,.list x10,.list x11]=ai (F_ea x0 x1 x2 x3 x4 x5 x6 x7 x8 x9 x10 x11):=by kernel_rfl
theorem q_bu(x0:Bool)(x1:LL)(x2:Int)(x3:LL)(x4:Int)(x5:Int)(x6:LL):l4 [.bool x0,.list x1,.int .i64 x2,.list x3,.int .i64 x4,.int .i64 x5,.list x6]=ai (F_bu x0 x1 x2 x3 x4 x5 x6):=by kernel_rfl
theorem q_ep(x0:Bool)(x1:LL)(x2:Int)(x3:LL)(x4:LL)(x5:LL)(x6:Int)(x7:Int)(x8:Int)(x9:Int):tY [.bool x0,.list x1,.int .i64 x2,.list x3,.list x4,.list x5,.int .i64 x6,.int .i64 x7,.int .i64 x8,.int .i64 x9]=ai (F_ep x0 x1 x2 x3 x4 x5 x6 x7 x8 x9):=by kernel_rfl
theorem q_aa(x0:Bool)(x1:LL)(x2:Int)(x3:LL)(x4:LL)(x5:LL)(x6:Int)(x7:Int)(x8:Int)(x9:Int)(x10:LL)(x11:Int)(x12:Int)(x13:Int)(x14:LL):uO [.bool x0,.list x1,.int .i64 x2,.list x3,.list x4,.list x5,.int .i64 x6,.int .i64 x7,.int .i64 x8,.int .i64 x9,.list x10,.int .i64 x11,.int .i64 x12,.int .i64 x13,.list x14]=ai (Ep x0 x1 x2 x3 x4 x5 x6 x7 x8 x9 x10 x11 x12 x13 x14):=by kernel_rfl
theorem q_ff(x0:LL)(x1:Int)(x2:Int)(x3:LL):oE [.list x0,.int .i64 x1,.int .i64 x2,.list x3]=ai (F_ff x0 x1 x2 x3):=by kernel_rfl
theorem q_ad(x0:Bool)(x1:LL)(x2:Int)(x3:LL)(x4:LL)(x5:LL)(x6:Int):uR [.bool x0,.list x1,.int .i64 x2,.list x3,.list x4,.list x5,.int .i64 x6]=ai (Eu x0 x1 x2 x3 x4 x5 x6):=by kernel_rfl
theorem q_fn(x0:Int)(x1:Int)(x2:Int)(x3:Int):gD [.int .i64 x0,.int .i64 x1,.int .i64 x2,.int .i64 x3]=ai (F_fn x0 x1 x2 x3):=by kernel_rfl
theorem q_fs(x0:Int)(x1:LL)(x2:Int)(x3:Int)(x4:LL):oI [.int .i64 x0,.list x1,.int .i64 x2,.int .i64 x3,.list x4]=ai (F_fs x0 x1 x2 x3 x4):=by kernel_rfl
theorem q_da(x0:Bool)(x1:LL)(x2:Int)(x3:LL)(x4:Int):ut [.bool x0,.list x1,.int .i64 x2,.list x3,.int .i64 x4]=ai (F_da x0 x1 x2 x3 x4):=by kernel_rfl
theorem q_bp(x0:Int)(x1:LL):lm [.int .i64 x0,.list x1]=ai (F_bp x0 x1):=by kernel_rfl
theorem q_fg(x0:Int)(x1:Int)(x2:Int)(x3:Int):oH [.int .i64 x0,.int .i64 x1,.int .i64 x2,.int .i64 x3]=ai (F_fg x0 x1 x2 x3):=by kernel_rfl
theorem q_fe(x0:LL)(x1:LL):l6 [.list x0,.list x1]=ai (F_fe x0 x1):=by kernel_rfl
theorem q_br(x0:Bool)(x1:LL)(x2:Int)(x3:LL)(x4:Int)(x5:Int)(x6:LL):gj [.bool x0,.list x1,.int .i64 x2,.list x3,.int .i64 x4,.int .i64 x5,.list x6]=ai (F_br x0 x1 x2 x3 x4 x5 x6):=by kernel_rfl
theorem q_dt(x0:Int)(x1:Int):t9 [.int .i64 x0,.int .i64 x1]=ai (F_dt x0 x1):=by kernel_rfl
theorem q_ew(x0:Int)(x1:LL):oZ [.int .i64 x0,.list x1]=ai (F_ew x0 x1):=by kernel_rfl
theorem q_as(x0:LL)(x1:Int)(x2:Int)(x3:Int)(x4:Int):uq [.list x0,.int .i64 x1,.int .i64 x2,.int .i64 x3,.int .i64 x4]=ai (F_as x0 x1 x2 x3 x4):=by kernel_rfl
theorem q_aj(x0:LL):uY [.list x0]=ai (F_aj x0):=by kernel_rfl
theorem q_ar(x0:LL):uB [.list x0]=ai (F_ar x0):=by kernel_rfl
theorem q_ej(x0:Int)(x1:Bool)(x2:Int)(x3:LL)(x4:Int)(x5:Int)(x6:Bool)(x7:Int)(x8:LL)(x9:Int):uU [.int .i64 x0,.bool x1,.int .i64 x2,.list x3,.int .i64 x4,.int .i64 x5,.bool x6,.int .i64 x7,.list x8,.int .i64 x9]=ai (F_ej x0 x1 x2 x3 x4 x5 x6 x7 x8 x9):=by kernel_rfl
theorem q_ao(x0:LL):uc [.list x0]=ai (F_ao x0):=by kernel_rfl
theorem q_cw(x0:Int)(x1:Bool)(x2:Int)(x3:LL)(x4:Int):uQ [.int .i64 x0,.bool x1,.int .i64 x2,.list x3,.int .i64 x4]=ai (F_cw x0 x1 x2 x3 x4):=by kernel_rfl
theorem q_ec(x0:Int)(x1:Bool)(x2:Int)(x3:LL)(x4:Int):fL [.int .i64 x0,.bool x1,.int .i64 x2,.list x3,.int .i64 x4]=ai (F_ec x0 x1 x2 x3 x4):=by kernel_rfl
theorem q_dg(x0:Bool)(x1:LL)(x2:Int)(x3:LL)(x4:Int):uK [.bool x0,.list x1,.int .i64 x2,.list x3,.int .i64 x4]=ai (F_dg x0 x1 x2 x3 x4):=by kernel_rfl
theorem q_di(x0:LL)(x1:Int):tO [.list x0,.int .i64 x1]=ai (F_di x0 x1):=by kernel_rfl
theorem q_fd(x0:Int)(x1:Int)(x2:Int)(x3:Int):tW [.int .i64 x0,.int .i64 x1,.int .i64 x2,.int .i64 x3]=ai (F_fd x0 x1 x2 x3):=by kernel_rfl
theorem q_dh(x0:Int):oC [.int .i64 x0]=ai (F_dh x0):=by kernel_rfl
theorem q_ei(x0:LL)(x1:Int):oP [.list x0,.int .i64 x1]=ai (F_ei x0 x1):=by kernel_rfl
theorem q_cn(x0:LL)(x1:Int):uk [.list x0,.int .i64 x1]=ai (F_cn x0 x1):=by kernel_rfl
theorem q_bv(x0:Int)(x1:Bool)(x2:Int)(x3:LL)(x4:Int)(x5:Int)(x6:Int)(x7:Int)(x8:LL):uN [.int .i64 x0,.bool x1,.int .i64 x2,.list x3,.int .i64 x4,.int .i64 x5,.int .i64 x6,.int .i64 x7,.list x8]=ai (F_bv x0 x1 x2 x3 x4 x5 x6 x7 x8):=by kernel_rfl
theorem q_fy(x0:LL)(x1:Int)(x2:LL)(x3:Int):o9 [.list x0,.int .i64 x1,.list x2,.int .i64 x3]=ai (F_fy x0 x1 x2 x3):=by kernel_rfl
theorem q_bk(x0:Int)(x1:Bool)(x2:Int)(x3:LL)(x4:Int)(x5:Bool):ib [.int .i64 x0,.bool x1,.int .i64 x2,.list x3,.int .i64 x4,.bool x5]=ai (F_bk x0 x1 x2 x3 x4 x5):=by kernel_rfl
theorem q_ap(x0:LL)(x1:Int)(x2:Int)(x3:Int)(x4:Int):lj [.list x0,.int .i64 x1,.int .i64 x2,.int .i64 x3,.int .i64 x4]=ai (F_ap x0 x1 x2 x3 x4):=by kernel_rfl
theorem q_ac(x0:LL):um [.list x0]=ai (F_ac x0):=by kernel_rfl
theorem q_ag(x0:LL):uj [.list x0]=ai (F_ag x0):=by kernel_rfl
theorem q_ak(x0:LL):ug [.list x0]=ai (F_ak x0):=by kernel_rfl
theorem q_bs(x0:Int):ub [.int .i64 x0]=ai (F_bs x0):=by kernel_rfl
theorem q_cg(x0:Bool)(x1:LL)(x2:Int)(x3:LL)(x4:Int)(x5:Int)(x6:Int):oX [.bool x0,.list x1,.int .i64 x2,.list x3,.int .i64 x4,.int .i64 x5,.int .i64 x6]=ai (F_cg x0 x1 x2 x3 x4 x5 x6):=by kernel_rfl
theorem q_cb(x0:Int)(x1:Int)(x2:LL):oS [.int .i64 x0,.int .i64 x1,.list x2]=ai (F_cb x0 x1 x2):=by kernel_rfl
theorem q_ce(x0:Int):ue [.int .i64 x0]=ai (F_ce x0):=by kernel_rfl
end Dx
