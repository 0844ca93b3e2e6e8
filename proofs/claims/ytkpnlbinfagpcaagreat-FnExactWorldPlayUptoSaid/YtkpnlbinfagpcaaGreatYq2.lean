import Derived.Test.YtkpnlbinfagpcaaGreatYb
set_option linter.all false
namespace Dx
open Go
theorem q_ca(x0:Bool)(x1:LL)(x2:Int)(x3:LL)(x4:Int):sx [.bool x0,.list x1,.int .i64 x2,.list x3,.int .i64 x4]=ah (F_ca x0 x1 x2 x3 x4):=by kernel_rfl
theorem q_hg(x0:Bool)(x1:LL)(x2:Int)(x3:LL)(x4:LL)(x5:LL)(x6:Int)(x7:Int)(x8:Int)(x9:LL):me [.bool x0,.list x1,.int .i64 x2,.list x3,.list x4,.list x5,.int .i64 x6,.int .i64 x7,.int .i64 x8,.list x9]=ah (F_hg x0 x1 x2 x3 x4 x5 x6 x7 x8 x9):=by kernel_rfl
theorem q_ew(x0:Bool)(x1:LL)(x2:Int)(x3:LL)(x4:LL)(x5:LL)(x6:Int)(x7:Int)(x8:Int)(x9:LL):pD [.bool x0,.list x1,.int .i64 x2,.list x3,.list x4,.list x5,.int .i64 x6,.int .i64 x7,.int .i64 x8,.list x9]=ah (zN x0 x1 x2 x3 x4 x5 x6 x7 x8 x9):=by kernel_rfl
theorem q_dk(x0:Bool)(x1:LL)(x2:Int)(x3:LL):l9 [.bool x0,.list x1,.int .i64 x2,.list x3]=ah (F_dk x0 x1 x2 x3):=by kernel_rfl
theorem q_bk(x0:Bool)(x1:LL)(x2:Int)(x3:LL):pR [.bool x0,.list x1,.int .i64 x2,.list x3]=ah (F_bk x0 x1 x2 x3):=by kernel_rfl
theorem q_ff(x0:Bool)(x1:LL)(x2:Int)(x3:LL)(x4:LL)(x5:LL)(x6:Int)(x7:Int)(x8:Int)(x9:LL):vO [.bool x0,.list x1,.int .i64 x2,.list x3,.list x4,.list x5,.int .i64 x6,.int .i64 x7,.int .i64 x8,.list x9]=ah (Cc x0 x1 x2 x3 x4 x5 x6 x7 x8 x9):=by kernel_rfl
theorem q_ex(x0:Bool)(x1:LL)(x2:Int)(x3:LL)(x4:LL)(x5:LL):pv [.bool x0,.list x1,.int .i64 x2,.list x3,.list x4,.list x5]=ah (F_ex x0 x1 x2 x3 x4 x5):=by kernel_rfl
theorem q_gd(x0:Bool)(x1:LL)(x2:Int)(x3:LL)(x4:LL)(x5:LL)(x6:Int)(x7:Int)(x8:Int)(x9:LL):pA [.bool x0,.list x1,.int .i64 x2,.list x3,.list x4,.list x5,.int .i64 x6,.int .i64 x7,.int .i64 x8,.list x9]=ah (Dn x0 x1 x2 x3 x4 x5 x6 x7 x8 x9):=by kernel_rfl
theorem q_gc(x0:Bool)(x1:LL)(x2:Int)(x3:LL):fA [.bool x0,.list x1,.int .i64 x2,.list x3]=ah (F_gc x0 x1 x2 x3):=by kernel_rfl
theorem q_dr(x0:Bool)(x1:LL)(x2:Int)(x3:LL)(x4:LL)(x5:LL)(x6:Int):pB [.bool x0,.list x1,.int .i64 x2,.list x3,.list x4,.list x5,.int .i64 x6]=ah (F_dr x0 x1 x2 x3 x4 x5 x6):=by kernel_rfl
theorem q_aa(x0:Bool)(x1:LL)(x2:Int)(x3:LL)(x4:LL)(x5:LL)(x6:Int)(x7:Int)(x8:Int)(x9:Int)(x10:LL)(x11:Int)(x12:Int)(x13:Int)(x14:LL):wK [.bool x0,.list x1,.int .i64 x2,.list x3,.list x4,.list x5,.int .i64 x6,.int .i64 x7,.int .i64 x8,.int .i64 x9,.list x10,.int .i64 x11,.int .i64 x12,.int .i64 x13,.list x14]=ah (Iw x0 x1 x2 x3 x4 x5 x6 x7 x8 x9 x10 x11 x12 x13 x14):=by kernel_rfl
theorem q_ci(x0:LL)(x1:LL):xj [.list x0,.list x1]=ah (F_ci x0 x1):=by kernel_rfl
theorem q_dz(x0:LL):xi [.list x0]=ah (F_dz x0):=by kernel_rfl
theorem q_ei(x0:Bool)(x1:LL)(x2:Int)(x3:LL)(x4:LL)(x5:LL):mg [.bool x0,.list x1,.int .i64 x2,.list x3,.list x4,.list x5]=ah (F_ei x0 x1 x2 x3 x4 x5):=by kernel_rfl
theorem q_cr(x0:LL)(x1:Int):qb [.list x0,.int .i64 x1]=ah (F_cr x0 x1):=by kernel_rfl
theorem q_ck(x0:Bool)(x1:LL)(x2:Int)(x3:LL)(x4:LL)(x5:LL)(x6:Int):sY [.bool x0,.list x1,.int .i64 x2,.list x3,.list x4,.list x5,.int .i64 x6]=ah (Je x0 x1 x2 x3 x4 x5 x6):=by kernel_rfl
theorem q_dg(x0:LL)(x1:Int)(x2:Int)(x3:LL):pG [.list x0,.int .i64 x1,.int .i64 x2,.list x3]=ah (F_dg x0 x1 x2 x3):=by kernel_rfl
theorem q_fv(x0:Bool)(x1:LL)(x2:Int)(x3:LL)(x4:LL)(x5:LL):px [.bool x0,.list x1,.int .i64 x2,.list x3,.list x4,.list x5]=ah (F_fv x0 x1 x2 x3 x4 x5):=by kernel_rfl
theorem q_bq(x0:LL)(x1:Int):xp [.list x0,.int .i64 x1]=ah (F_bq x0 x1):=by kernel_rfl
theorem q_bc(x0:Bool)(x1:LL)(x2:Int)(x3:LL)(x4:LL)(x5:LL):pN [.bool x0,.list x1,.int .i64 x2,.list x3,.list x4,.list x5]=ah (F_bc x0 x1 x2 x3 x4 x5):=by kernel_rfl
theorem q_go(x0:Int)(x1:Int)(x2:Int)(x3:Int):iK [.int .i64 x0,.int .i64 x1,.int .i64 x2,.int .i64 x3]=ah (F_go x0 x1 x2 x3):=by kernel_rfl
theorem q_gt(x0:Int)(x1:LL):vH [.int .i64 x0,.list x1]=ah (F_gt x0 x1):=by kernel_rfl
theorem q_hl(x0:Int)(x1:Int)(x2:LL):iI [.int .i64 x0,.int .i64 x1,.list x2]=ah (F_hl x0 x1 x2):=by kernel_rfl
theorem q_dc(x0:LL)(x1:Int):p8 [.list x0,.int .i64 x1]=ah (F_dc x0 x1):=by kernel_rfl
theorem q_fz(x0:LL):vz [.list x0]=ah (F_fz x0):=by kernel_rfl
theorem q_gk(x0:LL):vF [.list x0]=ah (F_gk x0):=by kernel_rfl
theorem q_eh(x0:LL):pm [.list x0]=ah (F_eh x0):=by kernel_rfl
theorem q_gh(x0:Bool)(x1:LL)(x2:Int)(x3:LL)(x4:Int)(x5:LL)(x6:Int):lr [.bool x0,.list x1,.int .i64 x2,.list x3,.int .i64 x4,.list x5,.int .i64 x6]=ah (F_gh x0 x1 x2 x3 x4 x5 x6):=by kernel_rfl
theorem q_fx(x0:LL)(x1:Int):vr [.list x0,.int .i64 x1]=ah (F_fx x0 x1):=by kernel_rfl
theorem q_gj(x0:LL)(x1:LL):ly [.list x0,.list x1]=ah (F_gj x0 x1):=by kernel_rfl
theorem q_fu(x0:Int)(x1:LL):pK [.int .i64 x0,.list x1]=ah (F_fu x0 x1):=by kernel_rfl
theorem q_dh(x0:Int)(x1:Int):xl [.int .i64 x0,.int .i64 x1]=ah (F_dh x0 x1):=by kernel_rfl
theorem q_fq(x0:Bool)(x1:LL)(x2:Int)(x3:LL)(x4:LL)(x5:LL)(x6:Bool)(x7:LL)(x8:Int)(x9:LL)(x10:LL)(x11:LL):lz [.bool x0,.list x1,.int .i64 x2,.list x3,.list x4,.list x5,.bool x6,.list x7,.int .i64 x8,.list x9,.list x10,.list x11]=ah (F_fq x0 x1 x2 x3 x4 x5 x6 x7 x8 x9 x10 x11):=by kernel_rfl
theorem q_bz(x0:Int)(x1:Bool)(x2:Int)(x3:LL)(x4:Int):wF [.int .i64 x0,.bool x1,.int .i64 x2,.list x3,.int .i64 x4]=ah (F_bz x0 x1 x2 x3 x4):=by kernel_rfl
theorem q_fd(x0:LL)(x1:Int)(x2:Int)(x3:Int)(x4:Int):gv [.list x0,.int .i64 x1,.int .i64 x2,.int .i64 x3,.int .i64 x4]=ah (F_fd x0 x1 x2 x3 x4):=by kernel_rfl
theorem q_at(x0:LL):pM [.list x0]=ah (F_at x0):=by kernel_rfl
theorem q_cq(x0:Bool)(x1:LL)(x2:Int)(x3:LL):wE [.bool x0,.list x1,.int .i64 x2,.list x3]=ah (F_cq x0 x1 x2 x3):=by kernel_rfl
theorem q_gx(x0:LL)(x1:Int)(x2:Int):pC [.list x0,.int .i64 x1,.int .i64 x2]=ah (F_gx x0 x1 x2):=by kernel_rfl
theorem q_as(x0:LL):wu [.list x0]=ah (F_as x0):=by kernel_rfl
theorem q_ah(x0:LL):wc [.list x0]=ah (F_ah x0):=by kernel_rfl
theorem q_ai(x0:LL):wn [.list x0]=ah (F_ai x0):=by kernel_rfl
theorem q_cl(x0:Int)(x1:Bool)(x2:Int)(x3:LL)(x4:Int):wM [.int .i64 x0,.bool x1,.int .i64 x2,.list x3,.int .i64 x4]=ah (F_cl x0 x1 x2 x3 x4):=by kernel_rfl
theorem q_br(x0:Bool)(x1:LL)(x2:Int)(x3:LL)(x4:LL)(x5:LL)(x6:Int)(x7:Int)(x8:Int)(x9:Int):iM [.bool x0,.list x1,.int .i64 x2,.list x3,.list x4,.list x5,.int .i64 x6,.int .i64 x7,.int .i64 x8,.int .i64 x9]=ah (F_br x0 x1 x2 x3 x4 x5 x6 x7 x8 x9):=by kernel_rfl
theorem q_ec(x0:Bool)(x1:LL)(x2:Int)(x3:LL):wL [.bool x0,.list x1,.int .i64 x2,.list x3]=ah (F_ec x0 x1 x2 x3):=by kernel_rfl
theorem q_do(x0:Bool)(x1:LL)(x2:Int)(x3:LL)(x4:Bool):eQ [.bool x0,.list x1,.int .i64 x2,.list x3,.bool x4]=ah (F_do x0 x1 x2 x3 x4):=by kernel_rfl
theorem q_et(x0:Int)(x1:Bool)(x2:Int)(x3:LL)(x4:Int):vJ [.int .i64 x0,.bool x1,.int .i64 x2,.list x3,.int .i64 x4]=ah (F_et x0 x1 x2 x3 x4):=by kernel_rfl
theorem q_cz(x0:Bool)(x1:LL)(x2:Int)(x3:LL)(x4:Int):wZ [.bool x0,.list x1,.int .i64 x2,.list x3,.int .i64 x4]=ah (F_cz x0 x1 x2 x3 x4):=by kernel_rfl
theorem q_gl(x0:Int)(x1:Int)(x2:Int)(x3:Int):vR [.int .i64 x0,.int .i64 x1,.int .i64 x2,.int .i64 x3]=ah (F_gl x0 x1 x2 x3):=by kernel_rfl
theorem q_dt(x0:Int):wi [.int .i64 x0]=ah (F_dt x0):=by kernel_rfl
theorem q_cp(x0:LL)(x1:Int):wa [.list x0,.int .i64 x1]=ah (F_cp x0 x1):=by kernel_rfl
theorem q_fn(x0:LL)(x1:Int):pg [.list x0,.int .i64 x1]=ah (F_fn x0 x1):=by kernel_rfl
theorem q_cu(x0:Int)(x1:Int)(x2:LL):vK [.int .i64 x0,.int .i64 x1,.list x2]=ah (F_cu x0 x1 x2):=by kernel_rfl
theorem q_er(x0:Int)(x1:Bool)(x2:Int)(x3:LL)(x4:Int)(x5:Int):vv [.int .i64 x0,.bool x1,.int .i64 x2,.list x3,.int .i64 x4,.int .i64 x5]=ah (F_er x0 x1 x2 x3 x4 x5):=by kernel_rfl
theorem q_hk(x0:Int)(x1:Int)(x2:LL)(x3:Int):vq [.int .i64 x0,.int .i64 x1,.list x2,.int .i64 x3]=ah (F_hk x0 x1 x2 x3):=by kernel_rfl
theorem q_be(x0:Int)(x1:Bool)(x2:Int)(x3:LL)(x4:Int)(x5:Bool):mi [.int .i64 x0,.bool x1,.int .i64 x2,.list x3,.int .i64 x4,.bool x5]=ah (F_be x0 x1 x2 x3 x4 x5):=by kernel_rfl
theorem q_cx(x0:LL)(x1:Int)(x2:Bool):pO [.list x0,.int .i64 x1,.bool x2]=ah (F_cx x0 x1 x2):=by kernel_rfl
theorem q_ad(x0:LL):wd [.list x0]=ah (F_ad x0):=by kernel_rfl
theorem q_ga(x0:Bool)(x1:LL)(x2:Int)(x3:LL):vC [.bool x0,.list x1,.int .i64 x2,.list x3]=ah (F_ga x0 x1 x2 x3):=by kernel_rfl
theorem q_bs(x0:LL)(x1:Int):lw [.list x0,.int .i64 x1]=ah (F_bs x0 x1):=by kernel_rfl
theorem q_bb(x0:Int)(x1:Bool)(x2:Int)(x3:LL)(x4:Int):iL [.int .i64 x0,.bool x1,.int .i64 x2,.list x3,.int .i64 x4]=ah (F_bb x0 x1 x2 x3 x4):=by kernel_rfl
theorem q_bu(x0:Int):vV [.int .i64 x0]=ah (F_bu x0):=by kernel_rfl
theorem q_fm(x0:Int)(x1:Bool)(x2:Int)(x3:LL)(x4:Int):vN [.int .i64 x0,.bool x1,.int .i64 x2,.list x3,.int .i64 x4]=ah (F_fm x0 x1 x2 x3 x4):=by kernel_rfl
theorem q_cd(x0:Bool)(x1:LL)(x2:Int)(x3:LL)(x4:Int)(x5:Int)(x6:Int):pQ [.bool x0,.list x1,.int .i64 x2,.list x3,.int .i64 x4,.int .i64 x5,.int .i64 x6]=ah (F_cd x0 x1 x2 x3 x4 x5 x6):=by kernel_rfl
theorem q_bt(x0:Int)(x1:Int)(x2:LL):pL [.int .i64 x0,.int .i64 x1,.list x2]=ah (F_bt x0 x1 x2):=by kernel_rfl
theorem q_gv(x0:Int):gw [.int .i64 x0]=ah (F_gv x0):=by kernel_rfl
theorem q_ha(x0:LL)(x1:Int):pl [.list x0,.int .i64 x1]=ah (F_ha x0 x1):=by kernel_rfl
theorem q_gf(x0:Int)(x1:Int)(x2:Int)(x3:Int):vA [.int .i64 x0,.int .i64 x1,.int .i64 x2,.int .i64 x3]=ah (F_gf x0 x1 x2 x3):=by kernel_rfl
end Dx
