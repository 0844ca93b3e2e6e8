import Derived.Test.YtnbhinpnmgbbhaaGreatDoorYb
set_option linter.all false
namespace Dx
open Go
theorem q_cq(x0:Bool)(x1:LL)(x2:Int)(x3:LL)(x4:LL)(x5:LL):rG [.bool x0,.list x1,.int .i64 x2,.list x3,.list x4,.list x5]=ai (F_cq x0 x1 x2 x3 x4 x5):=by kernel_rfl
theorem q_cp(x0:Bool)(x1:LL)(x2:Int)(x3:LL)(x4:Int):u6 [.bool x0,.list x1,.int .i64 x2,.list x3,.int .i64 x4]=ai (F_cp x0 x1 x2 x3 x4):=by kernel_rfl
theorem q_dq(x0:Bool)(x1:LL)(x2:Int)(x3:LL)(x4:LL)(x5:LL)(x6:Int)(x7:Int)(x8:Int)(x9:LL):nq [.bool x0,.list x1,.int .i64 x2,.list x3,.list x4,.list x5,.int .i64 x6,.int .i64 x7,.int .i64 x8,.list x9]=ai (F_dq x0 x1 x2 x3 x4 x5 x6 x7 x8 x9):=by kernel_rfl
theorem q_gl(x0:ByteArray)(x1:Int):nr [.str x0,.int .u8 x1]=ai (F_gl x0 x1):=by kernel_rfl
theorem q_gq(x0:Bool)(x1:LL)(x2:Int)(x3:LL)(x4:LL)(x5:LL)(x6:Int)(x7:Int)(x8:Int)(x9:LL):ip [.bool x0,.list x1,.int .i64 x2,.list x3,.list x4,.list x5,.int .i64 x6,.int .i64 x7,.int .i64 x8,.list x9]=ai (F_gq x0 x1 x2 x3 x4 x5 x6 x7 x8 x9):=by kernel_rfl
theorem q_cx(x0:Int)(x1:Bool)(x2:Int)(x3:LL)(x4:Int)(x5:Int)(x6:Int)(x7:Int)(x8:Int):rA [.int .i64 x0,.bool x1,.int .i64 x2,.list x3,.int .i64 x4,.int .i64 x5,.int .i64 x6,.int .i64 x7,.int .i64 x8]=ai (F_cx x0 x1 x2 x3 x4 x5 x6 x7 x8):=by kernel_rfl
theorem q_cg(x0:Bool)(x1:LL)(x2:Int)(x3:LL):lj [.bool x0,.list x1,.int .i64 x2,.list x3]=ai (F_cg x0 x1 x2 x3):=by kernel_rfl
theorem q_ct(x0:LL)(x1:Int)(x2:Int):dy [.list x0,.int .i64 x1,.int .i64 x2]=ai (F_ct x0 x1 x2):=by kernel_rfl
theorem q_dh(x0:LL)(x1:ByteArray):bD [.list x0,.str x1]=ai (F_dh x0 x1):=by kernel_rfl
theorem q_cl(x0:Int)(x1:Bool)(x2:Int)(x3:LL)(x4:Int)(x5:Int)(x6:Int)(x7:Int)(x8:Int)(x9:Int):u7 [.int .i64 x0,.bool x1,.int .i64 x2,.list x3,.int .i64 x4,.int .i64 x5,.int .i64 x6,.int .i64 x7,.int .i64 x8,.int .i64 x9]=ai (GU x0 x1 x2 x3 x4 x5 x6 x7 x8 x9):=by kernel_rfl
theorem q_ck(x0:Bool)(x1:LL)(x2:Int)(x3:LL)(x4:LL)(x5:LL)(x6:Int)(x7:Int)(x8:Int)(x9:LL):yk [.bool x0,.list x1,.int .i64 x2,.list x3,.list x4,.list x5,.int .i64 x6,.int .i64 x7,.int .i64 x8,.list x9]=ai (F_ck x0 x1 x2 x3 x4 x5 x6 x7 x8 x9):=by kernel_rfl
theorem q_fq(x0:Bool)(x1:LL)(x2:Int)(x3:LL):yK [.bool x0,.list x1,.int .i64 x2,.list x3]=ai (F_fq x0 x1 x2 x3):=by kernel_rfl
theorem q_dv(x0:Bool)(x1:LL)(x2:Int)(x3:LL)(x4:LL)(x5:LL)(x6:Int):rO [.bool x0,.list x1,.int .i64 x2,.list x3,.list x4,.list x5,.int .i64 x6]=ai (F_dv x0 x1 x2 x3 x4 x5 x6):=by kernel_rfl
theorem q_du(x0:LL):xI [.list x0]=ai (F_du x0):=by kernel_rfl
theorem q_fc(x0:Bool)(x1:LL)(x2:Int)(x3:LL)(x4:LL)(x5:LL):rF [.bool x0,.list x1,.int .i64 x2,.list x3,.list x4,.list x5]=ai (F_fc x0 x1 x2 x3 x4 x5):=by kernel_rfl
theorem q_gw(x0:Int)(x1:LL):nu [.int .i64 x0,.list x1]=ai (F_gw x0 x1):=by kernel_rfl
theorem q_db(x0:Bool)(x1:LL)(x2:Int)(x3:LL)(x4:LL)(x5:LL)(x6:Int):vc [.bool x0,.list x1,.int .i64 x2,.list x3,.list x4,.list x5,.int .i64 x6]=ai (F_db x0 x1 x2 x3 x4 x5 x6):=by kernel_rfl
theorem q_dy(x0:LL)(x1:Int)(x2:Int)(x3:LL):rn [.list x0,.int .i64 x1,.int .i64 x2,.list x3]=ai (F_dy x0 x1 x2 x3):=by kernel_rfl
theorem q_fj(x0:Bool)(x1:LL)(x2:Int)(x3:LL)(x4:LL)(x5:LL):yP [.bool x0,.list x1,.int .i64 x2,.list x3,.list x4,.list x5]=ai (F_fj x0 x1 x2 x3 x4 x5):=by kernel_rfl
theorem q_az(x0:Bool)(x1:LL)(x2:Int)(x3:LL)(x4:LL)(x5:LL)(x6:Int)(x7:Int)(x8:Int)(x9:Int):yA [.bool x0,.list x1,.int .i64 x2,.list x3,.list x4,.list x5,.int .i64 x6,.int .i64 x7,.int .i64 x8,.int .i64 x9]=ai (F_az x0 x1 x2 x3 x4 x5 x6 x7 x8 x9):=by kernel_rfl
theorem q_bt(x0:Bool)(x1:LL)(x2:Int)(x3:LL)(x4:LL)(x5:LL)(x6:Int):yC [.bool x0,.list x1,.int .i64 x2,.list x3,.list x4,.list x5,.int .i64 x6]=ai (F_bt x0 x1 x2 x3 x4 x5 x6):=by kernel_rfl
theorem q_cv(x0:Bool)(x1:LL)(x2:Int)(x3:LL)(x4:LL):xY [.bool x0,.list x1,.int .i64 x2,.list x3,.list x4]=ai (F_cv x0 x1 x2 x3 x4):=by kernel_rfl
theorem q_ae(x0:Bool)(x1:LL)(x2:Int)(x3:LL)(x4:LL)(x5:LL)(x6:Int):rE [.bool x0,.list x1,.int .i64 x2,.list x3,.list x4,.list x5,.int .i64 x6]=ai (Jl x0 x1 x2 x3 x4 x5 x6):=by kernel_rfl
theorem q_ft(x0:Int)(x1:LL):rK [.int .i64 x0,.list x1]=ai (F_ft x0 x1):=by kernel_rfl
theorem q_gd(x0:LL)(x1:Int)(x2:Int)(x3:Int)(x4:LL):ru [.list x0,.int .i64 x1,.int .i64 x2,.int .i64 x3,.list x4]=ai (F_gd x0 x1 x2 x3 x4):=by kernel_rfl
theorem q_gk(x0:Int)(x1:Int)(x2:LL):jV [.int .i64 x0,.int .i64 x1,.list x2]=ai (F_gk x0 x1 x2):=by kernel_rfl
theorem q_by(x0:Int)(x1:LL):np [.int .i64 x0,.list x1]=ai (F_by x0 x1):=by kernel_rfl
theorem q_ga(x0:Bool)(x1:LL)(x2:Int)(x3:LL)(x4:Int)(x5:LL)(x6:Int):nw [.bool x0,.list x1,.int .i64 x2,.list x3,.int .i64 x4,.list x5,.int .i64 x6]=ai (F_ga x0 x1 x2 x3 x4 x5 x6):=by kernel_rfl
theorem q_eg(x0:Int)(x1:Int):yb [.int .i64 x0,.int .i64 x1]=ai (F_eg x0 x1):=by kernel_rfl
theorem q_fl(x0:Int)(x1:LL):rz [.int .i64 x0,.list x1]=ai (F_fl x0 x1):=by kernel_rfl
theorem q_df(x0:Int)(x1:Int):xH [.int .i64 x0,.int .i64 x1]=ai (F_df x0 x1):=by kernel_rfl
theorem q_fs(x0:LL):y1 [.list x0]=ai (F_fs x0):=by kernel_rfl
theorem q_cu:oh []=ai (F_cu):=by kernel_rfl
theorem q_au(x0:LL):rr [.list x0]=ai (F_au x0):=by kernel_rfl
theorem q_gi(x0:LL)(x1:Int)(x2:Int):rR [.list x0,.int .i64 x1,.int .i64 x2]=ai (F_gi x0 x1 x2):=by kernel_rfl
theorem q_at(x0:LL):yh [.list x0]=ai (F_at x0):=by kernel_rfl
theorem q_ah(x0:LL):yd [.list x0]=ai (F_ah x0):=by kernel_rfl
theorem q_an(x0:LL):xN [.list x0]=ai (F_an x0):=by kernel_rfl
theorem q_cf(x0:Bool)(x1:LL)(x2:Int)(x3:LL)(x4:LL)(x5:LL)(x6:Int)(x7:Int)(x8:Int)(x9:Int):jT [.bool x0,.list x1,.int .i64 x2,.list x3,.list x4,.list x5,.int .i64 x6,.int .i64 x7,.int .i64 x8,.int .i64 x9]=ai (F_cf x0 x1 x2 x3 x4 x5 x6 x7 x8 x9):=by kernel_rfl
theorem q_eb(x0:Bool)(x1:LL)(x2:Int)(x3:LL):yt [.bool x0,.list x1,.int .i64 x2,.list x3]=ai (F_eb x0 x1 x2 x3):=by kernel_rfl
theorem q_dn(x0:Bool)(x1:LL)(x2:Int)(x3:LL)(x4:Bool):fy [.bool x0,.list x1,.int .i64 x2,.list x3,.bool x4]=ai (F_dn x0 x1 x2 x3 x4):=by kernel_rfl
theorem q_gp(x0:LL)(x1:Int)(x2:Int)(x3:Int)(x4:LL):rN [.list x0,.int .i64 x1,.int .i64 x2,.int .i64 x3,.list x4]=ai (F_gp x0 x1 x2 x3 x4):=by kernel_rfl
theorem q_eq(x0:Int)(x1:Bool)(x2:Int)(x3:LL)(x4:Int):yL [.int .i64 x0,.bool x1,.int .i64 x2,.list x3,.int .i64 x4]=ai (F_eq x0 x1 x2 x3 x4):=by kernel_rfl
theorem q_ee(x0:LL)(x1:Int):rl [.list x0,.int .i64 x1]=ai (F_ee x0 x1):=by kernel_rfl
theorem q_cr(x0:LL)(x1:Int):xS [.list x0,.int .i64 x1]=ai (F_cr x0 x1):=by kernel_rfl
theorem q_ek(x0:LL):xV [.list x0]=ai (F_ek x0):=by kernel_rfl
theorem q_bz(x0:Int)(x1:Bool)(x2:Int)(x3:LL)(x4:Int)(x5:Int)(x6:Int)(x7:Int)(x8:LL):yq [.int .i64 x0,.bool x1,.int .i64 x2,.list x3,.int .i64 x4,.int .i64 x5,.int .i64 x6,.int .i64 x7,.list x8]=ai (F_bz x0 x1 x2 x3 x4 x5 x6 x7 x8):=by kernel_rfl
theorem q_bq(x0:Bool)(x1:LL)(x2:Int)(x3:LL)(x4:Int)(x5:Int)(x6:Int)(x7:LL):yo [.bool x0,.list x1,.int .i64 x2,.list x3,.int .i64 x4,.int .i64 x5,.int .i64 x6,.list x7]=ai (F_bq x0 x1 x2 x3 x4 x5 x6 x7):=by kernel_rfl
theorem q_bp(x0:Bool)(x1:LL)(x2:Int)(x3:LL):iL [.bool x0,.list x1,.int .i64 x2,.list x3]=ai (F_bp x0 x1 x2 x3):=by kernel_rfl
theorem q_ac(x0:LL):yx [.list x0]=ai (F_ac x0):=by kernel_rfl
theorem q_ci(x0:LL)(x1:Int):nj [.list x0,.int .i64 x1]=ai (F_ci x0 x1):=by kernel_rfl
theorem q_ca(x0:Bool)(x1:LL)(x2:Int)(x3:LL)(x4:Bool):fx [.bool x0,.list x1,.int .i64 x2,.list x3,.bool x4]=ai (F_ca x0 x1 x2 x3 x4):=by kernel_rfl
theorem q_bd(x0:Int)(x1:Bool)(x2:Int)(x3:LL)(x4:Int):jU [.int .i64 x0,.bool x1,.int .i64 x2,.list x3,.int .i64 x4]=ai (F_bd x0 x1 x2 x3 x4):=by kernel_rfl
theorem q_de(x0:Int)(x1:Int):yc [.int .i64 x0,.int .i64 x1]=ai (F_de x0 x1):=by kernel_rfl
theorem q_dd(x0:Bool)(x1:LL)(x2:Int)(x3:LL)(x4:Int)(x5:Int)(x6:Int):rx [.bool x0,.list x1,.int .i64 x2,.list x3,.int .i64 x4,.int .i64 x5,.int .i64 x6]=ai (F_dd x0 x1 x2 x3 x4 x5 x6):=by kernel_rfl
theorem q_gh(x0:Int):gC [.int .i64 x0]=ai (F_gh x0):=by kernel_rfl
theorem q_cb(x0:Int):xM [.int .i64 x0]=ai (F_cb x0):=by kernel_rfl
end Dx
