import Derived.Test.YtkpnlbinfagpcaaGreatYb
set_option linter.all false
namespace Dx
open Go
theorem q_ez(x0:Bool)(x1:LL)(x2:Int)(x3:LL)(x4:LL)(x5:LL)(x6:Int):sw [.bool x0,.list x1,.int .i64 x2,.list x3,.list x4,.list x5,.int .i64 x6]=ah (F_ez x0 x1 x2 x3 x4 x5 x6):=by kernel_rfl
theorem q_cy(x0:Bool)(x1:LL)(x2:Int)(x3:LL)(x4:LL)(x5:LL)(x6:Int)(x7:Int)(x8:Int)(x9:LL):wF [.bool x0,.list x1,.int .i64 x2,.list x3,.list x4,.list x5,.int .i64 x6,.int .i64 x7,.int .i64 x8,.list x9]=ah (F_cy x0 x1 x2 x3 x4 x5 x6 x7 x8 x9):=by kernel_rfl
theorem q_he(x0:Int)(x1:Int)(x2:LL):gy [.int .i64 x0,.int .i64 x1,.list x2]=ah (F_he x0 x1 x2):=by kernel_rfl
theorem re(x0:LL)(x1:Int)(x2:Int)(x3:LL):cU [.list x0,.int .i64 x1,.int .i64 x2,.list x3]=ah (fW x0 x1 x2 x3):=by kernel_rfl
theorem q_ba(x0:Bool)(x1:LL)(x2:Int)(x3:LL)(x4:LL)(x5:LL)(x6:Int)(x7:Int)(x8:Int)(x9:Int):xe [.bool x0,.list x1,.int .i64 x2,.list x3,.list x4,.list x5,.int .i64 x6,.int .i64 x7,.int .i64 x8,.int .i64 x9]=ah (F_ba x0 x1 x2 x3 x4 x5 x6 x7 x8 x9):=by kernel_rfl
theorem q_cb(x0:LL)(x1:LL):xp [.list x0,.list x1]=ah (F_cb x0 x1):=by kernel_rfl
theorem q_fn(x0:Bool)(x1:LL)(x2:Int)(x3:LL)(x4:Int)(x5:Int)(x6:Int)(x7:Int):vS [.bool x0,.list x1,.int .i64 x2,.list x3,.int .i64 x4,.int .i64 x5,.int .i64 x6,.int .i64 x7]=ah (F_fn x0 x1 x2 x3 x4 x5 x6 x7):=by kernel_rfl
theorem q_ab(x0:Bool)(x1:LL)(x2:Int)(x3:LL)(x4:LL)(x5:LL)(x6:Int):pW [.bool x0,.list x1,.int .i64 x2,.list x3,.list x4,.list x5,.int .i64 x6]=ah (Iu x0 x1 x2 x3 x4 x5 x6):=by kernel_rfl
theorem q_hn(x0:Int)(x1:LL):lu [.int .i64 x0,.list x1]=ah (F_hn x0 x1):=by kernel_rfl
theorem q_dz(x0:Int)(x1:LL)(x2:Int)(x3:Int)(x4:LL):pL [.int .i64 x0,.list x1,.int .i64 x2,.int .i64 x3,.list x4]=ah (F_dz x0 x1 x2 x3 x4):=by kernel_rfl
theorem tT(x0:Int)(x1:LL)(x2:Int)(x3:Int)(x4:LL):dd [.int .i64 x0,.list x1,.int .i64 x2,.int .i64 x3,.list x4]=ah (kP x0 x1 x2 x3 x4):=by kernel_rfl
theorem q_fa(x0:Int)(x1:LL)(x2:Int)(x3:Int)(x4:LL):wy [.int .i64 x0,.list x1,.int .i64 x2,.int .i64 x3,.list x4]=ah (F_fa x0 x1 x2 x3 x4):=by kernel_rfl
theorem q_cv(x0:Bool)(x1:LL)(x2:Int)(x3:LL)(x4:LL):wC [.bool x0,.list x1,.int .i64 x2,.list x3,.list x4]=ah (F_cv x0 x1 x2 x3 x4):=by kernel_rfl
theorem q_df(x0:LL)(x1:Int):qc [.list x0,.int .i64 x1]=ah (F_df x0 x1):=by kernel_rfl
theorem q_dk(x0:LL):vG [.list x0]=ah (F_dk x0):=by kernel_rfl
theorem q_gf(x0:LL)(x1:Int)(x2:Int)(x3:Int)(x4:LL):pR [.list x0,.int .i64 x1,.int .i64 x2,.int .i64 x3,.list x4]=ah (F_gf x0 x1 x2 x3 x4):=by kernel_rfl
theorem q_dq(x0:LL)(x1:LL):wU [.list x0,.list x1]=ah (F_dq x0 x1):=by kernel_rfl
theorem q_ea(x0:LL)(x1:LL):xq [.list x0,.list x1]=ah (F_ea x0 x1):=by kernel_rfl
theorem q_fr(x0:LL)(x1:LL):p8 [.list x0,.list x1]=ah (F_fr x0 x1):=by kernel_rfl
theorem q_gc(x0:LL)(x1:LL):wQ [.list x0,.list x1]=ah (F_gc x0 x1):=by kernel_rfl
theorem q_dn(x0:LL)(x1:Int):xg [.list x0,.int .i64 x1]=ah (F_dn x0 x1):=by kernel_rfl
theorem q_hi(x0:LL)(x1:Int):pu [.list x0,.int .i64 x1]=ah (F_hi x0 x1):=by kernel_rfl
theorem q_ex(x0:Bool)(x1:LL)(x2:Int)(x3:LL)(x4:LL)(x5:LL)(x6:Int)(x7:Int)(x8:Int)(x9:LL):sQ [.bool x0,.list x1,.int .i64 x2,.list x3,.list x4,.list x5,.int .i64 x6,.int .i64 x7,.int .i64 x8,.list x9]=ah (F_ex x0 x1 x2 x3 x4 x5 x6 x7 x8 x9):=by kernel_rfl
theorem q_ch(x0:LL)(x1:Int)(x2:Int)(x3:Int):lx [.list x0,.int .i64 x1,.int .i64 x2,.int .i64 x3]=ah (F_ch x0 x1 x2 x3):=by kernel_rfl
theorem q_fw(x0:Int)(x1:Int):wn [.int .i64 x0,.int .i64 x1]=ah (F_fw x0 x1):=by kernel_rfl
theorem q_dl(x0:Bool)(x1:LL)(x2:Int)(x3:LL)(x4:Int)(x5:Int)(x6:LL):dp [.bool x0,.list x1,.int .i64 x2,.list x3,.int .i64 x4,.int .i64 x5,.list x6]=ah (F_dl x0 x1 x2 x3 x4 x5 x6):=by kernel_rfl
theorem q_fj(x0:Int)(x1:Bool)(x2:Int)(x3:LL)(x4:Int)(x5:Int)(x6:Bool)(x7:Int)(x8:LL)(x9:Int):wT [.int .i64 x0,.bool x1,.int .i64 x2,.list x3,.int .i64 x4,.int .i64 x5,.bool x6,.int .i64 x7,.list x8,.int .i64 x9]=ah (F_fj x0 x1 x2 x3 x4 x5 x6 x7 x8 x9):=by kernel_rfl
theorem q_fu(x0:Int)(x1:LL):wv [.int .i64 x0,.list x1]=ah (F_fu x0 x1):=by kernel_rfl
theorem q_eo(x0:Int)(x1:Int)(x2:Int)(x3:LL)(x4:Int)(x5:Int)(x6:Int)(x7:LL):p9 [.int .i64 x0,.int .i64 x1,.int .i64 x2,.list x3,.int .i64 x4,.int .i64 x5,.int .i64 x6,.list x7]=ah (F_eo x0 x1 x2 x3 x4 x5 x6 x7):=by kernel_rfl
theorem q_er(x0:Bool)(x1:LL)(x2:Int)(x3:LL)(x4:LL)(x5:LL)(x6:Int):pl [.bool x0,.list x1,.int .i64 x2,.list x3,.list x4,.list x5,.int .i64 x6]=ah (Fx x0 x1 x2 x3 x4 x5 x6):=by kernel_rfl
theorem q_fv(x0:LL)(x1:Int)(x2:Int):pX [.list x0,.int .i64 x1,.int .i64 x2]=ah (F_fv x0 x1 x2):=by kernel_rfl
theorem q_gx(x0:Int)(x1:Int)(x2:Int)(x3:Int)(x4:Int)(x5:Int)(x6:Int)(x7:Int):wR [.int .i64 x0,.int .i64 x1,.int .i64 x2,.int .i64 x3,.int .i64 x4,.int .i64 x5,.int .i64 x6,.int .i64 x7]=ah (F_gx x0 x1 x2 x3 x4 x5 x6 x7):=by kernel_rfl
theorem q_am(x0:LL):wa [.list x0]=ah (F_am x0):=by kernel_rfl
theorem q_dx(x0:LL)(x1:Int):wZ [.list x0,.int .i64 x1]=ah (F_dx x0 x1):=by kernel_rfl
theorem q_an(x0:LL):vY [.list x0]=ah (F_an x0):=by kernel_rfl
theorem q_dw(x0:Int)(x1:Bool)(x2:Int)(x3:LL)(x4:Int)(x5:Bool):pB [.int .i64 x0,.bool x1,.int .i64 x2,.list x3,.int .i64 x4,.bool x5]=ah (F_dw x0 x1 x2 x3 x4 x5):=by kernel_rfl
theorem q_gz(x0:Int)(x1:Int)(x2:LL)(x3:Int)(x4:Int)(x5:LL):wP [.int .i64 x0,.int .i64 x1,.list x2,.int .i64 x3,.int .i64 x4,.list x5]=ah (F_gz x0 x1 x2 x3 x4 x5):=by kernel_rfl
theorem q_eh(x0:Int)(x1:Bool)(x2:Int)(x3:LL)(x4:Int):gB [.int .i64 x0,.bool x1,.int .i64 x2,.list x3,.int .i64 x4]=ah (F_eh x0 x1 x2 x3 x4):=by kernel_rfl
theorem q_cr(x0:Int)(x1:Bool)(x2:Int)(x3:LL)(x4:Int)(x5:Int):wK [.int .i64 x0,.bool x1,.int .i64 x2,.list x3,.int .i64 x4,.int .i64 x5]=ah (F_cr x0 x1 x2 x3 x4 x5):=by kernel_rfl
theorem q_ds(x0:LL):pG [.list x0]=ah (F_ds x0):=by kernel_rfl
theorem q_gt(x0:Bool)(x1:LL)(x2:Int)(x3:LL)(x4:Int):vx [.bool x0,.list x1,.int .i64 x2,.list x3,.int .i64 x4]=ah (GH x0 x1 x2 x3 x4):=by kernel_rfl
theorem q_dg(x0:Int):pv [.int .i64 x0]=ah (F_dg x0):=by kernel_rfl
theorem q_hd(x0:LL)(x1:Int)(x2:LL)(x3:Int):pZ [.list x0,.int .i64 x1,.list x2,.int .i64 x3]=ah (F_hd x0 x1 x2 x3):=by kernel_rfl
theorem q_ff(x0:Bool)(x1:LL)(x2:Int)(x3:LL)(x4:LL)(x5:LL):pp [.bool x0,.list x1,.int .i64 x2,.list x3,.list x4,.list x5]=ah (F_ff x0 x1 x2 x3 x4 x5):=by kernel_rfl
theorem q_en(x0:LL):wh [.list x0]=ah (F_en x0):=by kernel_rfl
theorem q_bo(x0:Int)(x1:Bool)(x2:Int)(x3:LL)(x4:Int)(x5:Int)(x6:Int)(x7:Int)(x8:LL):wL [.int .i64 x0,.bool x1,.int .i64 x2,.list x3,.int .i64 x4,.int .i64 x5,.int .i64 x6,.int .i64 x7,.list x8]=ah (F_bo x0 x1 x2 x3 x4 x5 x6 x7 x8):=by kernel_rfl
theorem q_hm(x0:Int)(x1:Int)(x2:Int):bZ [.int .i64 x0,.int .i64 x1,.int .i64 x2]=ah (F_hm x0 x1 x2):=by kernel_rfl
theorem q_ha(x0:LL)(x1:Int)(x2:Int):pi [.list x0,.int .i64 x1,.int .i64 x2]=ah (F_ha x0 x1 x2):=by kernel_rfl
theorem q_bj(x0:Bool)(x1:LL)(x2:Int)(x3:LL)(x4:Int)(x5:Int)(x6:Int)(x7:LL):wJ [.bool x0,.list x1,.int .i64 x2,.list x3,.int .i64 x4,.int .i64 x5,.int .i64 x6,.list x7]=ah (F_bj x0 x1 x2 x3 x4 x5 x6 x7):=by kernel_rfl
theorem q_bf(x0:Bool)(x1:LL)(x2:Int)(x3:LL):gC [.bool x0,.list x1,.int .i64 x2,.list x3]=ah (F_bf x0 x1 x2 x3):=by kernel_rfl
theorem q_fh(x0:Bool)(x1:LL)(x2:Int)(x3:LL)(x4:Int):vV [.bool x0,.list x1,.int .i64 x2,.list x3,.int .i64 x4]=ah (F_fh x0 x1 x2 x3 x4):=by kernel_rfl
theorem q_af(x0:LL):wB [.list x0]=ah (F_af x0):=by kernel_rfl
theorem q_ak(x0:LL):v8 [.list x0]=ah (F_ak x0):=by kernel_rfl
theorem q_cs(x0:Int)(x1:Int)(x2:Int)(x3:Int):wz [.int .i64 x0,.int .i64 x1,.int .i64 x2,.int .i64 x3]=ah (F_cs x0 x1 x2 x3):=by kernel_rfl
theorem q_cg(x0:Int)(x1:Int)(x2:Int)(x3:LL)(x4:Int):wY [.int .i64 x0,.int .i64 x1,.int .i64 x2,.list x3,.int .i64 x4]=ah (F_cg x0 x1 x2 x3 x4):=by kernel_rfl
theorem q_ei(x0:Int)(x1:Int)(x2:LL):v9 [.int .i64 x0,.int .i64 x1,.list x2]=ah (F_ei x0 x1 x2):=by kernel_rfl
theorem q_fl(x0:LL)(x1:Int)(x2:Int):wV [.list x0,.int .i64 x1,.int .i64 x2]=ah (F_fl x0 x1 x2):=by kernel_rfl
theorem q_eu(x0:Int)(x1:Int)(x2:Int)(x3:LL):pq [.int .i64 x0,.int .i64 x1,.int .i64 x2,.list x3]=ah (F_eu x0 x1 x2 x3):=by kernel_rfl
theorem q_fb(x0:Int):eT [.int .i64 x0]=ah (F_fb x0):=by kernel_rfl
theorem q_bz(x0:Int):v6 [.int .i64 x0]=ah (F_bz x0):=by kernel_rfl
end Dx
