import Derived.Test.YtkpnlbinfagpcaaGreatYb
set_option linter.all false
namespace Dx
open Go
theorem q_cu(x0:Bool)(x1:LL)(x2:Int)(x3:LL)(x4:Int):sB [.bool x0,.list x1,.int .i64 x2,.list x3,.int .i64 x4]=ah (F_cu x0 x1 x2 x3 x4):=by kernel_rfl
theorem q_hc(x0:Bool)(x1:LL)(x2:Int)(x3:LL)(x4:LL)(x5:LL)(x6:Int)(x7:Int)(x8:Int)(x9:LL):mg [.bool x0,.list x1,.int .i64 x2,.list x3,.list x4,.list x5,.int .i64 x6,.int .i64 x7,.int .i64 x8,.list x9]=ah (F_hc x0 x1 x2 x3 x4 x5 x6 x7 x8 x9):=by kernel_rfl
theorem q_fd(x0:Bool)(x1:LL)(x2:Int)(x3:LL)(x4:LL)(x5:LL)(x6:Int)(x7:Int)(x8:Int)(x9:LL):pF [.bool x0,.list x1,.int .i64 x2,.list x3,.list x4,.list x5,.int .i64 x6,.int .i64 x7,.int .i64 x8,.list x9]=ah (zP x0 x1 x2 x3 x4 x5 x6 x7 x8 x9):=by kernel_rfl
theorem q_dh(x0:Bool)(x1:LL)(x2:Int)(x3:LL):mb [.bool x0,.list x1,.int .i64 x2,.list x3]=ah (F_dh x0 x1 x2 x3):=by kernel_rfl
theorem q_bl(x0:Bool)(x1:LL)(x2:Int)(x3:LL):pT [.bool x0,.list x1,.int .i64 x2,.list x3]=ah (F_bl x0 x1 x2 x3):=by kernel_rfl
theorem q_fk(x0:Bool)(x1:LL)(x2:Int)(x3:LL)(x4:LL)(x5:LL)(x6:Int)(x7:Int)(x8:Int)(x9:LL):vQ [.bool x0,.list x1,.int .i64 x2,.list x3,.list x4,.list x5,.int .i64 x6,.int .i64 x7,.int .i64 x8,.list x9]=ah (Cg x0 x1 x2 x3 x4 x5 x6 x7 x8 x9):=by kernel_rfl
theorem q_ef(x0:Bool)(x1:LL)(x2:Int)(x3:LL)(x4:LL)(x5:LL):px [.bool x0,.list x1,.int .i64 x2,.list x3,.list x4,.list x5]=ah (F_ef x0 x1 x2 x3 x4 x5):=by kernel_rfl
theorem q_ga(x0:Bool)(x1:LL)(x2:Int)(x3:LL)(x4:LL)(x5:LL)(x6:Int)(x7:Int)(x8:Int)(x9:LL):pC [.bool x0,.list x1,.int .i64 x2,.list x3,.list x4,.list x5,.int .i64 x6,.int .i64 x7,.int .i64 x8,.list x9]=ah (Dr x0 x1 x2 x3 x4 x5 x6 x7 x8 x9):=by kernel_rfl
theorem q_gs(x0:Bool)(x1:LL)(x2:Int)(x3:LL):fB [.bool x0,.list x1,.int .i64 x2,.list x3]=ah (F_gs x0 x1 x2 x3):=by kernel_rfl
theorem q_du(x0:Bool)(x1:LL)(x2:Int)(x3:LL)(x4:LL)(x5:LL)(x6:Int):pD [.bool x0,.list x1,.int .i64 x2,.list x3,.list x4,.list x5,.int .i64 x6]=ah (F_du x0 x1 x2 x3 x4 x5 x6):=by kernel_rfl
theorem q_aa(x0:Bool)(x1:LL)(x2:Int)(x3:LL)(x4:LL)(x5:LL)(x6:Int)(x7:Int)(x8:Int)(x9:Int)(x10:LL)(x11:Int)(x12:Int)(x13:Int)(x14:LL):wM [.bool x0,.list x1,.int .i64 x2,.list x3,.list x4,.list x5,.int .i64 x6,.int .i64 x7,.int .i64 x8,.int .i64 x9,.list x10,.int .i64 x11,.int .i64 x12,.int .i64 x13,.list x14]=ah (IB x0 x1 x2 x3 x4 x5 x6 x7 x8 x9 x10 x11 x12 x13 x14):=by kernel_rfl
theorem q_cp(x0:LL)(x1:LL):xl [.list x0,.list x1]=ah (F_cp x0 x1):=by kernel_rfl
theorem q_ec(x0:LL):xk [.list x0]=ah (F_ec x0):=by kernel_rfl
theorem q_fs(x0:Bool)(x1:LL)(x2:Int)(x3:LL)(x4:LL)(x5:LL):mi [.bool x0,.list x1,.int .i64 x2,.list x3,.list x4,.list x5]=ah (F_fs x0 x1 x2 x3 x4 x5):=by kernel_rfl
theorem q_ci(x0:LL)(x1:Int):qd [.list x0,.int .i64 x1]=ah (F_ci x0 x1):=by kernel_rfl
theorem q_cf(x0:Bool)(x1:LL)(x2:Int)(x3:LL)(x4:LL)(x5:LL)(x6:Int):s5 [.bool x0,.list x1,.int .i64 x2,.list x3,.list x4,.list x5,.int .i64 x6]=ah (Jj x0 x1 x2 x3 x4 x5 x6):=by kernel_rfl
theorem q_dr(x0:LL)(x1:Int)(x2:Int)(x3:LL):pI [.list x0,.int .i64 x1,.int .i64 x2,.list x3]=ah (F_dr x0 x1 x2 x3):=by kernel_rfl
theorem q_eg(x0:Bool)(x1:LL)(x2:Int)(x3:LL)(x4:LL)(x5:LL):pz [.bool x0,.list x1,.int .i64 x2,.list x3,.list x4,.list x5]=ah (F_eg x0 x1 x2 x3 x4 x5):=by kernel_rfl
theorem q_bn(x0:LL)(x1:Int):xr [.list x0,.int .i64 x1]=ah (F_bn x0 x1):=by kernel_rfl
theorem q_bb(x0:Bool)(x1:LL)(x2:Int)(x3:LL)(x4:LL)(x5:LL):pP [.bool x0,.list x1,.int .i64 x2,.list x3,.list x4,.list x5]=ah (F_bb x0 x1 x2 x3 x4 x5):=by kernel_rfl
theorem q_gh(x0:Int)(x1:Int)(x2:Int)(x3:Int):iL [.int .i64 x0,.int .i64 x1,.int .i64 x2,.int .i64 x3]=ah (F_gh x0 x1 x2 x3):=by kernel_rfl
theorem q_gw(x0:Int)(x1:LL):vK [.int .i64 x0,.list x1]=ah (F_gw x0 x1):=by kernel_rfl
theorem q_hl(x0:Int)(x1:Int)(x2:LL):iJ [.int .i64 x0,.int .i64 x1,.list x2]=ah (F_hl x0 x1 x2):=by kernel_rfl
theorem q_dd(x0:LL)(x1:Int):qa [.list x0,.int .i64 x1]=ah (F_dd x0 x1):=by kernel_rfl
theorem q_gk(x0:LL):vC [.list x0]=ah (F_gk x0):=by kernel_rfl
theorem q_gn(x0:LL):vH [.list x0]=ah (F_gn x0):=by kernel_rfl
theorem q_ep(x0:LL):po [.list x0]=ah (F_ep x0):=by kernel_rfl
theorem q_gi(x0:Bool)(x1:LL)(x2:Int)(x3:LL)(x4:Int)(x5:LL)(x6:Int):lv [.bool x0,.list x1,.int .i64 x2,.list x3,.int .i64 x4,.list x5,.int .i64 x6]=ah (F_gi x0 x1 x2 x3 x4 x5 x6):=by kernel_rfl
theorem q_gm(x0:LL)(x1:Int):vv [.list x0,.int .i64 x1]=ah (F_gm x0 x1):=by kernel_rfl
theorem q_gj(x0:LL)(x1:LL):lB [.list x0,.list x1]=ah (F_gj x0 x1):=by kernel_rfl
theorem q_el(x0:Int)(x1:LL):pM [.int .i64 x0,.list x1]=ah (F_el x0 x1):=by kernel_rfl
theorem q_ed(x0:Int)(x1:Int):xn [.int .i64 x0,.int .i64 x1]=ah (F_ed x0 x1):=by kernel_rfl
theorem q_fg(x0:Bool)(x1:LL)(x2:Int)(x3:LL)(x4:LL)(x5:LL)(x6:Bool)(x7:LL)(x8:Int)(x9:LL)(x10:LL)(x11:LL):lC [.bool x0,.list x1,.int .i64 x2,.list x3,.list x4,.list x5,.bool x6,.list x7,.int .i64 x8,.list x9,.list x10,.list x11]=ah (F_fg x0 x1 x2 x3 x4 x5 x6 x7 x8 x9 x10 x11):=by kernel_rfl
theorem q_br(x0:Int)(x1:Bool)(x2:Int)(x3:LL)(x4:Int):wH [.int .i64 x0,.bool x1,.int .i64 x2,.list x3,.int .i64 x4]=ah (F_br x0 x1 x2 x3 x4):=by kernel_rfl
theorem q_fp(x0:LL)(x1:Int)(x2:Int)(x3:Int)(x4:Int):gw [.list x0,.int .i64 x1,.int .i64 x2,.int .i64 x3,.int .i64 x4]=ah (F_fp x0 x1 x2 x3 x4):=by kernel_rfl
theorem q_as(x0:LL):pO [.list x0]=ah (F_as x0):=by kernel_rfl
theorem q_ck(x0:Bool)(x1:LL)(x2:Int)(x3:LL):wG [.bool x0,.list x1,.int .i64 x2,.list x3]=ah (F_ck x0 x1 x2 x3):=by kernel_rfl
theorem q_fy(x0:LL)(x1:Int)(x2:Int):pE [.list x0,.int .i64 x1,.int .i64 x2]=ah (F_fy x0 x1 x2):=by kernel_rfl
theorem q_au(x0:LL):ww [.list x0]=ah (F_au x0):=by kernel_rfl
theorem q_ai(x0:LL):we [.list x0]=ah (F_ai x0):=by kernel_rfl
theorem q_ag(x0:LL):wq [.list x0]=ah (F_ag x0):=by kernel_rfl
theorem q_cm(x0:Int)(x1:Bool)(x2:Int)(x3:LL)(x4:Int):wO [.int .i64 x0,.bool x1,.int .i64 x2,.list x3,.int .i64 x4]=ah (F_cm x0 x1 x2 x3 x4):=by kernel_rfl
theorem q_bq(x0:Bool)(x1:LL)(x2:Int)(x3:LL)(x4:LL)(x5:LL)(x6:Int)(x7:Int)(x8:Int)(x9:Int):iN [.bool x0,.list x1,.int .i64 x2,.list x3,.list x4,.list x5,.int .i64 x6,.int .i64 x7,.int .i64 x8,.int .i64 x9]=ah (F_bq x0 x1 x2 x3 x4 x5 x6 x7 x8 x9):=by kernel_rfl
theorem q_dm(x0:Bool)(x1:LL)(x2:Int)(x3:LL):wN [.bool x0,.list x1,.int .i64 x2,.list x3]=ah (F_dm x0 x1 x2 x3):=by kernel_rfl
theorem q_dj(x0:Bool)(x1:LL)(x2:Int)(x3:LL)(x4:Bool):eS [.bool x0,.list x1,.int .i64 x2,.list x3,.bool x4]=ah (F_dj x0 x1 x2 x3 x4):=by kernel_rfl
theorem q_fe(x0:Int)(x1:Bool)(x2:Int)(x3:LL)(x4:Int):vM [.int .i64 x0,.bool x1,.int .i64 x2,.list x3,.int .i64 x4]=ah (F_fe x0 x1 x2 x3 x4):=by kernel_rfl
theorem q_de(x0:Bool)(x1:LL)(x2:Int)(x3:LL)(x4:Int):w9 [.bool x0,.list x1,.int .i64 x2,.list x3,.int .i64 x4]=ah (F_de x0 x1 x2 x3 x4):=by kernel_rfl
theorem q_gu(x0:Int)(x1:Int)(x2:Int)(x3:Int):vT [.int .i64 x0,.int .i64 x1,.int .i64 x2,.int .i64 x3]=ah (F_gu x0 x1 x2 x3):=by kernel_rfl
theorem q_dc(x0:Int):wl [.int .i64 x0]=ah (F_dc x0):=by kernel_rfl
theorem q_cq(x0:LL)(x1:Int):wd [.list x0,.int .i64 x1]=ah (F_cq x0 x1):=by kernel_rfl
theorem q_fm(x0:LL)(x1:Int):pj [.list x0,.int .i64 x1]=ah (F_fm x0 x1):=by kernel_rfl
theorem q_cj(x0:Int)(x1:Int)(x2:LL):vN [.int .i64 x0,.int .i64 x1,.list x2]=ah (F_cj x0 x1 x2):=by kernel_rfl
theorem q_ee(x0:Int)(x1:Bool)(x2:Int)(x3:LL)(x4:Int)(x5:Int):vy [.int .i64 x0,.bool x1,.int .i64 x2,.list x3,.int .i64 x4,.int .i64 x5]=ah (F_ee x0 x1 x2 x3 x4 x5):=by kernel_rfl
theorem q_hf(x0:Int)(x1:Int)(x2:LL)(x3:Int):vu [.int .i64 x0,.int .i64 x1,.list x2,.int .i64 x3]=ah (F_hf x0 x1 x2 x3):=by kernel_rfl
theorem q_be(x0:Int)(x1:Bool)(x2:Int)(x3:LL)(x4:Int)(x5:Bool):ml [.int .i64 x0,.bool x1,.int .i64 x2,.list x3,.int .i64 x4,.bool x5]=ah (F_be x0 x1 x2 x3 x4 x5):=by kernel_rfl
theorem q_cc(x0:LL)(x1:Int)(x2:Bool):pQ [.list x0,.int .i64 x1,.bool x2]=ah (F_cc x0 x1 x2):=by kernel_rfl
theorem q_ad(x0:LL):wg [.list x0]=ah (F_ad x0):=by kernel_rfl
theorem q_fx(x0:Bool)(x1:LL)(x2:Int)(x3:LL):vE [.bool x0,.list x1,.int .i64 x2,.list x3]=ah (F_fx x0 x1 x2 x3):=by kernel_rfl
theorem q_bv(x0:LL)(x1:Int):ly [.list x0,.int .i64 x1]=ah (F_bv x0 x1):=by kernel_rfl
theorem q_bc(x0:Int)(x1:Bool)(x2:Int)(x3:LL)(x4:Int):iM [.int .i64 x0,.bool x1,.int .i64 x2,.list x3,.int .i64 x4]=ah (F_bc x0 x1 x2 x3 x4):=by kernel_rfl
theorem q_bu(x0:Int):vX [.int .i64 x0]=ah (F_bu x0):=by kernel_rfl
theorem q_eq(x0:Int)(x1:Bool)(x2:Int)(x3:LL)(x4:Int):vP [.int .i64 x0,.bool x1,.int .i64 x2,.list x3,.int .i64 x4]=ah (F_eq x0 x1 x2 x3 x4):=by kernel_rfl
theorem q_cd(x0:Bool)(x1:LL)(x2:Int)(x3:LL)(x4:Int)(x5:Int)(x6:Int):pS [.bool x0,.list x1,.int .i64 x2,.list x3,.int .i64 x4,.int .i64 x5,.int .i64 x6]=ah (F_cd x0 x1 x2 x3 x4 x5 x6):=by kernel_rfl
theorem q_bm(x0:Int)(x1:Int)(x2:LL):pN [.int .i64 x0,.int .i64 x1,.list x2]=ah (F_bm x0 x1 x2):=by kernel_rfl
theorem q_gd(x0:Int):gx [.int .i64 x0]=ah (F_gd x0):=by kernel_rfl
theorem q_hb(x0:LL)(x1:Int):pn [.list x0,.int .i64 x1]=ah (F_hb x0 x1):=by kernel_rfl
theorem q_gv(x0:Int)(x1:Int)(x2:Int)(x3:Int):vD [.int .i64 x0,.int .i64 x1,.int .i64 x2,.int .i64 x3]=ah (F_gv x0 x1 x2 x3):=by kernel_rfl
end Dx
