import Derived.Test.YtnbhinpnmgbbhaaGreatDoorYb
set_option linter.all false
namespace Dx
open Go
theorem q_fd(x0:Bool)(x1:LL)(x2:Int)(x3:LL)(x4:LL)(x5:LL)(x6:Int):vn [.bool x0,.list x1,.int .i64 x2,.list x3,.list x4,.list x5,.int .i64 x6]=ai (F_fd x0 x1 x2 x3 x4 x5 x6):=by kernel_rfl
theorem q_fh(x0:Bool)(x1:LL)(x2:Int)(x3:LL)(x4:LL)(x5:LL)(x6:Int)(x7:Int)(x8:Int)(x9:LL):sa [.bool x0,.list x1,.int .i64 x2,.list x3,.list x4,.list x5,.int .i64 x6,.int .i64 x7,.int .i64 x8,.list x9]=ai (BB x0 x1 x2 x3 x4 x5 x6 x7 x8 x9):=by kernel_rfl
theorem q_dq(x0:Bool)(x1:LL)(x2:Int)(x3:LL):jX [.bool x0,.list x1,.int .i64 x2,.list x3]=ai (F_dq x0 x1 x2 x3):=by kernel_rfl
theorem q_fs(x0:Bool)(x1:LL)(x2:Int)(x3:LL)(x4:LL)(x5:LL):rX [.bool x0,.list x1,.int .i64 x2,.list x3,.list x4,.list x5]=ai (F_fs x0 x1 x2 x3 x4 x5):=by kernel_rfl
theorem q_fa(x0:Bool)(x1:LL)(x2:Int)(x3:LL)(x4:LL)(x5:LL)(x6:Int)(x7:Int)(x8:Int)(x9:LL):y7 [.bool x0,.list x1,.int .i64 x2,.list x3,.list x4,.list x5,.int .i64 x6,.int .i64 x7,.int .i64 x8,.list x9]=ai (DY x0 x1 x2 x3 x4 x5 x6 x7 x8 x9):=by kernel_rfl
theorem q_et(x0:Bool)(x1:LL)(x2:Int)(x3:LL)(x4:LL)(x5:LL):ov [.bool x0,.list x1,.int .i64 x2,.list x3,.list x4,.list x5]=ai (F_et x0 x1 x2 x3 x4 x5):=by kernel_rfl
theorem q_ga(x0:Bool)(x1:LL)(x2:Int)(x3:LL)(x4:LL)(x5:LL)(x6:Int)(x7:Int)(x8:Int)(x9:LL):rY [.bool x0,.list x1,.int .i64 x2,.list x3,.list x4,.list x5,.int .i64 x6,.int .i64 x7,.int .i64 x8,.list x9]=ai (Fl x0 x1 x2 x3 x4 x5 x6 x7 x8 x9):=by kernel_rfl
theorem q_gm(x0:Int)(x1:Int)(x2:LL):iG [.int .i64 x0,.int .i64 x1,.list x2]=ai (F_gm x0 x1 x2):=by kernel_rfl
theorem q_du(x0:Int)(x1:Int)(x2:Int)(x3:Int):y6 [.int .i64 x0,.int .i64 x1,.int .i64 x2,.int .i64 x3]=ai (F_du x0 x1 x2 x3):=by kernel_rfl
theorem tH(x0:LL)(x1:Int)(x2:Int)(x3:LL):dy [.list x0,.int .i64 x1,.int .i64 x2,.list x3]=ai (hD x0 x1 x2 x3):=by kernel_rfl
theorem q_es(x0:Bool)(x1:LL)(x2:Int)(x3:LL)(x4:Int)(x5:Int)(x6:Int)(x7:Int):yZ [.bool x0,.list x1,.int .i64 x2,.list x3,.int .i64 x4,.int .i64 x5,.int .i64 x6,.int .i64 x7]=ai (F_es x0 x1 x2 x3 x4 x5 x6 x7):=by kernel_rfl
theorem q_dk(x0:Int)(x1:Int)(x2:Int)(x3:Int):yL [.int .i64 x0,.int .i64 x1,.int .i64 x2,.int .i64 x3]=ai (F_dk x0 x1 x2 x3):=by kernel_rfl
theorem q_dg(x0:Int)(x1:LL)(x2:Int)(x3:Int)(x4:LL):rG [.int .i64 x0,.list x1,.int .i64 x2,.int .i64 x3,.list x4]=ai (F_dg x0 x1 x2 x3 x4):=by kernel_rfl
theorem v8(x0:Int)(x1:LL)(x2:Int)(x3:Int)(x4:LL):dV [.int .i64 x0,.list x1,.int .i64 x2,.int .i64 x3,.list x4]=ai (mL x0 x1 x2 x3 x4):=by kernel_rfl
theorem q_eq(x0:Int)(x1:LL)(x2:Int)(x3:Int)(x4:LL):yq [.int .i64 x0,.list x1,.int .i64 x2,.int .i64 x3,.list x4]=ai (F_eq x0 x1 x2 x3 x4):=by kernel_rfl
theorem q_bq(x0:Bool)(x1:LL)(x2:Int)(x3:LL)(x4:LL)(x5:LL)(x6:Int):y3 [.bool x0,.list x1,.int .i64 x2,.list x3,.list x4,.list x5,.int .i64 x6]=ai (F_bq x0 x1 x2 x3 x4 x5 x6):=by kernel_rfl
theorem q_gf(x0:LL)(x1:Int)(x2:Int)(x3:LL):rQ [.list x0,.int .i64 x1,.int .i64 x2,.list x3]=ai (F_gf x0 x1 x2 x3):=by kernel_rfl
theorem q_aq(x0:LL):yH [.list x0]=ai (F_aq x0):=by kernel_rfl
theorem q_be(x0:Bool)(x1:LL)(x2:Int)(x3:LL)(x4:LL)(x5:LL):yG [.bool x0,.list x1,.int .i64 x2,.list x3,.list x4,.list x5]=ai (F_be x0 x1 x2 x3 x4 x5):=by kernel_rfl
theorem q_fz(x0:Int)(x1:Int)(x2:Int)(x3:Int):iI [.int .i64 x0,.int .i64 x1,.int .i64 x2,.int .i64 x3]=ai (F_fz x0 x1 x2 x3):=by kernel_rfl
theorem q_go(x0:Int)(x1:LL)(x2:Int)(x3:Int)(x4:LL):rT [.int .i64 x0,.list x1,.int .i64 x2,.int .i64 x3,.list x4]=ai (F_go x0 x1 x2 x3 x4):=by kernel_rfl
theorem q_fy(x0:LL)(x1:Int):il [.list x0,.int .i64 x1]=ai (G0 x0 x1):=by kernel_rfl
theorem q_gp(x0:LL)(x1:Int):rR [.list x0,.int .i64 x1]=ai (F_gp x0 x1):=by kernel_rfl
theorem q_gd(x0:Int)(x1:Int)(x2:Int)(x3:Int):iM [.int .i64 x0,.int .i64 x1,.int .i64 x2,.int .i64 x3]=ai (F_gd x0 x1 x2 x3):=by kernel_rfl
theorem q_gj(x0:LL)(x1:LL):za [.list x0,.list x1]=ai (F_gj x0 x1):=by kernel_rfl
theorem q_dv(x0:Bool)(x1:LL)(x2:Int)(x3:LL)(x4:Int)(x5:Int)(x6:LL):ei [.bool x0,.list x1,.int .i64 x2,.list x3,.int .i64 x4,.int .i64 x5,.list x6]=ai (F_dv x0 x1 x2 x3 x4 x5 x6):=by kernel_rfl
theorem q_fn(x0:LL)(x1:Int):rU [.list x0,.int .i64 x1]=ai (F_fn x0 x1):=by kernel_rfl
theorem q_cd(x0:Int)(x1:Bool)(x2:Int)(x3:LL)(x4:Int):yv [.int .i64 x0,.bool x1,.int .i64 x2,.list x3,.int .i64 x4]=ai (F_cd x0 x1 x2 x3 x4):=by kernel_rfl
theorem q_ej(x0:LL):rA [.list x0]=ai (F_ej x0):=by kernel_rfl
theorem q_fi(x0:LL)(x1:Int)(x2:Int)(x3:Int)(x4:Int):iN [.list x0,.int .i64 x1,.int .i64 x2,.int .i64 x3,.int .i64 x4]=ai (F_fi x0 x1 x2 x3 x4):=by kernel_rfl
theorem q_at(x0:LL)(x1:Int)(x2:Int)(x3:Int)(x4:Int):yg [.list x0,.int .i64 x1,.int .i64 x2,.int .i64 x3,.int .i64 x4]=ai (F_at x0 x1 x2 x3 x4):=by kernel_rfl
theorem q_ag(x0:LL):yE [.list x0]=ai (F_ag x0):=by kernel_rfl
theorem q_aj(x0:LL):yb [.list x0]=ai (F_aj x0):=by kernel_rfl
theorem q_eb(x0:Int)(x1:Bool)(x2:Int)(x3:LL)(x4:Int)(x5:Bool):jY [.int .i64 x0,.bool x1,.int .i64 x2,.list x3,.int .i64 x4,.bool x5]=ai (F_eb x0 x1 x2 x3 x4 x5):=by kernel_rfl
theorem q_cz(x0:Int)(x1:Bool)(x2:Int)(x3:LL)(x4:Int):yC [.int .i64 x0,.bool x1,.int .i64 x2,.list x3,.int .i64 x4]=ai (F_cz x0 x1 x2 x3 x4):=by kernel_rfl
theorem q_ev(x0:Int)(x1:Bool)(x2:Int)(x3:LL)(x4:Int):iL [.int .i64 x0,.bool x1,.int .i64 x2,.list x3,.int .i64 x4]=ai (F_ev x0 x1 x2 x3 x4):=by kernel_rfl
theorem q_cs(x0:Int)(x1:Bool)(x2:Int)(x3:LL)(x4:Int)(x5:Int):yy [.int .i64 x0,.bool x1,.int .i64 x2,.list x3,.int .i64 x4,.int .i64 x5]=ai (F_cs x0 x1 x2 x3 x4 x5):=by kernel_rfl
theorem q_dr(x0:LL):rx [.list x0]=ai (F_dr x0):=by kernel_rfl
theorem q_di(x0:LL)(x1:Int):rJ [.list x0,.int .i64 x1]=ai (F_di x0 x1):=by kernel_rfl
theorem q_dt(x0:Int):rP [.int .i64 x0]=ai (F_dt x0):=by kernel_rfl
theorem q_fr(x0:LL):xL [.list x0]=ai (F_fr x0):=by kernel_rfl
theorem q_gl(x0:LL)(x1:Int):jq [.list x0,.int .i64 x1]=ai (F_gl x0 x1):=by kernel_rfl
theorem q_gw(x0:Int)(x1:Int)(x2:Int):b8 [.int .i64 x0,.int .i64 x1,.int .i64 x2]=ai (F_gw x0 x1 x2):=by kernel_rfl
theorem q_bp(x0:Int)(x1:Bool)(x2:Int)(x3:LL)(x4:Int)(x5:Bool):jo [.int .i64 x0,.bool x1,.int .i64 x2,.list x3,.int .i64 x4,.bool x5]=ai (F_bp x0 x1 x2 x3 x4 x5):=by kernel_rfl
theorem q_ap(x0:LL)(x1:Int)(x2:Int)(x3:Int)(x4:Int):np [.list x0,.int .i64 x1,.int .i64 x2,.int .i64 x3,.int .i64 x4]=ai (F_ap x0 x1 x2 x3 x4):=by kernel_rfl
theorem q_af(x0:LL):yn [.list x0]=ai (F_af x0):=by kernel_rfl
theorem q_ai(x0:LL):xZ [.list x0]=ai (F_ai x0):=by kernel_rfl
theorem q_ak(x0:LL):xW [.list x0]=ai (F_ak x0):=by kernel_rfl
theorem q_bw(x0:Int):xR [.int .i64 x0]=ai (F_bw x0):=by kernel_rfl
theorem q_fk(x0:Int)(x1:Int)(x2:LL):xX [.int .i64 x0,.int .i64 x1,.list x2]=ai (F_fk x0 x1 x2):=by kernel_rfl
theorem q_ew:yN []=ai (F_ew):=by kernel_rfl
theorem q_eo(x0:Int):fY [.int .i64 x0]=ai (F_eo x0):=by kernel_rfl
theorem q_bn(x0:Int)(x1:Int)(x2:Int)(x3:Int):iJ [.int .i64 x0,.int .i64 x1,.int .i64 x2,.int .i64 x3]=ai (F_bn x0 x1 x2 x3):=by kernel_rfl
end Dx
