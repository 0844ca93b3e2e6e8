import Derived.Test.YtkpnlbinfagpcaaGreatYb
set_option linter.all false
namespace Dx
open Go
theorem q_em(x0:Bool)(x1:LL)(x2:Int)(x3:LL)(x4:LL)(x5:LL)(x6:Int):ss [.bool x0,.list x1,.int .i64 x2,.list x3,.list x4,.list x5,.int .i64 x6]=ah (F_em x0 x1 x2 x3 x4 x5 x6):=by kernel_rfl
theorem q_ct(x0:Bool)(x1:LL)(x2:Int)(x3:LL)(x4:LL)(x5:LL)(x6:Int)(x7:Int)(x8:Int)(x9:LL):wD [.bool x0,.list x1,.int .i64 x2,.list x3,.list x4,.list x5,.int .i64 x6,.int .i64 x7,.int .i64 x8,.list x9]=ah (F_ct x0 x1 x2 x3 x4 x5 x6 x7 x8 x9):=by kernel_rfl
theorem q_he(x0:Int)(x1:Int)(x2:LL):gx [.int .i64 x0,.int .i64 x1,.list x2]=ah (F_he x0 x1 x2):=by kernel_rfl
theorem rb(x0:LL)(x1:Int)(x2:Int)(x3:LL):cT [.list x0,.int .i64 x1,.int .i64 x2,.list x3]=ah (fV x0 x1 x2 x3):=by kernel_rfl
theorem q_ba(x0:Bool)(x1:LL)(x2:Int)(x3:LL)(x4:LL)(x5:LL)(x6:Int)(x7:Int)(x8:Int)(x9:Int):xc [.bool x0,.list x1,.int .i64 x2,.list x3,.list x4,.list x5,.int .i64 x6,.int .i64 x7,.int .i64 x8,.int .i64 x9]=ah (F_ba x0 x1 x2 x3 x4 x5 x6 x7 x8 x9):=by kernel_rfl
theorem q_ce(x0:LL)(x1:LL):xn [.list x0,.list x1]=ah (F_ce x0 x1):=by kernel_rfl
theorem q_fw(x0:Bool)(x1:LL)(x2:Int)(x3:LL)(x4:Int)(x5:Int)(x6:Int)(x7:Int):vQ [.bool x0,.list x1,.int .i64 x2,.list x3,.int .i64 x4,.int .i64 x5,.int .i64 x6,.int .i64 x7]=ah (F_fw x0 x1 x2 x3 x4 x5 x6 x7):=by kernel_rfl
theorem q_ab(x0:Bool)(x1:LL)(x2:Int)(x3:LL)(x4:LL)(x5:LL)(x6:Int):pU [.bool x0,.list x1,.int .i64 x2,.list x3,.list x4,.list x5,.int .i64 x6]=ah (Ip x0 x1 x2 x3 x4 x5 x6):=by kernel_rfl
theorem q_hm(x0:Int)(x1:LL):lq [.int .i64 x0,.list x1]=ah (F_hm x0 x1):=by kernel_rfl
theorem q_df(x0:Int)(x1:LL)(x2:Int)(x3:Int)(x4:LL):pJ [.int .i64 x0,.list x1,.int .i64 x2,.int .i64 x3,.list x4]=ah (F_df x0 x1 x2 x3 x4):=by kernel_rfl
theorem tR(x0:Int)(x1:LL)(x2:Int)(x3:Int)(x4:LL):db [.int .i64 x0,.list x1,.int .i64 x2,.int .i64 x3,.list x4]=ah (kN x0 x1 x2 x3 x4):=by kernel_rfl
theorem q_fa(x0:Int)(x1:LL)(x2:Int)(x3:Int)(x4:LL):wv [.int .i64 x0,.list x1,.int .i64 x2,.int .i64 x3,.list x4]=ah (F_fa x0 x1 x2 x3 x4):=by kernel_rfl
theorem q_cy(x0:Bool)(x1:LL)(x2:Int)(x3:LL)(x4:LL):wA [.bool x0,.list x1,.int .i64 x2,.list x3,.list x4]=ah (F_cy x0 x1 x2 x3 x4):=by kernel_rfl
theorem q_ea(x0:LL)(x1:Int):qa [.list x0,.int .i64 x1]=ah (F_ea x0 x1):=by kernel_rfl
theorem q_db(x0:LL):vE [.list x0]=ah (F_db x0):=by kernel_rfl
theorem q_gw(x0:LL)(x1:Int)(x2:Int)(x3:Int)(x4:LL):pP [.list x0,.int .i64 x1,.int .i64 x2,.int .i64 x3,.list x4]=ah (F_gw x0 x1 x2 x3 x4):=by kernel_rfl
theorem q_dd(x0:LL)(x1:LL):wS [.list x0,.list x1]=ah (F_dd x0 x1):=by kernel_rfl
theorem q_dx(x0:LL)(x1:LL):xo [.list x0,.list x1]=ah (F_dx x0 x1):=by kernel_rfl
theorem q_fo(x0:LL)(x1:LL):pY [.list x0,.list x1]=ah (F_fo x0 x1):=by kernel_rfl
theorem q_gb(x0:LL)(x1:LL):wO [.list x0,.list x1]=ah (F_gb x0 x1):=by kernel_rfl
theorem q_dl(x0:LL)(x1:Int):xe [.list x0,.int .i64 x1]=ah (F_dl x0 x1):=by kernel_rfl
theorem q_gy(x0:LL)(x1:Int):pq [.list x0,.int .i64 x1]=ah (F_gy x0 x1):=by kernel_rfl
theorem q_ep(x0:Bool)(x1:LL)(x2:Int)(x3:LL)(x4:LL)(x5:LL)(x6:Int)(x7:Int)(x8:Int)(x9:LL):sO [.bool x0,.list x1,.int .i64 x2,.list x3,.list x4,.list x5,.int .i64 x6,.int .i64 x7,.int .i64 x8,.list x9]=ah (F_ep x0 x1 x2 x3 x4 x5 x6 x7 x8 x9):=by kernel_rfl
theorem q_ch(x0:LL)(x1:Int)(x2:Int)(x3:Int):lv [.list x0,.int .i64 x1,.int .i64 x2,.int .i64 x3]=ah (F_ch x0 x1 x2 x3):=by kernel_rfl
theorem q_fs(x0:Int)(x1:Int):wj [.int .i64 x0,.int .i64 x1]=ah (F_fs x0 x1):=by kernel_rfl
theorem q_du(x0:Bool)(x1:LL)(x2:Int)(x3:LL)(x4:Int)(x5:Int)(x6:LL):dn [.bool x0,.list x1,.int .i64 x2,.list x3,.int .i64 x4,.int .i64 x5,.list x6]=ah (F_du x0 x1 x2 x3 x4 x5 x6):=by kernel_rfl
theorem q_en(x0:Int)(x1:Bool)(x2:Int)(x3:LL)(x4:Int)(x5:Int)(x6:Bool)(x7:Int)(x8:LL)(x9:Int):wR [.int .i64 x0,.bool x1,.int .i64 x2,.list x3,.int .i64 x4,.int .i64 x5,.bool x6,.int .i64 x7,.list x8,.int .i64 x9]=ah (F_en x0 x1 x2 x3 x4 x5 x6 x7 x8 x9):=by kernel_rfl
theorem q_eq(x0:Int)(x1:LL):wq [.int .i64 x0,.list x1]=ah (F_eq x0 x1):=by kernel_rfl
theorem q_el(x0:Int)(x1:Int)(x2:Int)(x3:LL)(x4:Int)(x5:Int)(x6:Int)(x7:LL):pZ [.int .i64 x0,.int .i64 x1,.int .i64 x2,.list x3,.int .i64 x4,.int .i64 x5,.int .i64 x6,.list x7]=ah (F_el x0 x1 x2 x3 x4 x5 x6 x7):=by kernel_rfl
theorem q_ez(x0:Bool)(x1:LL)(x2:Int)(x3:LL)(x4:LL)(x5:LL)(x6:Int):pi [.bool x0,.list x1,.int .i64 x2,.list x3,.list x4,.list x5,.int .i64 x6]=ah (Fs x0 x1 x2 x3 x4 x5 x6):=by kernel_rfl
theorem q_fk(x0:LL)(x1:Int)(x2:Int):pV [.list x0,.int .i64 x1,.int .i64 x2]=ah (F_fk x0 x1 x2):=by kernel_rfl
theorem q_gp(x0:Int)(x1:Int)(x2:Int)(x3:Int)(x4:Int)(x5:Int)(x6:Int)(x7:Int):wP [.int .i64 x0,.int .i64 x1,.int .i64 x2,.int .i64 x3,.int .i64 x4,.int .i64 x5,.int .i64 x6,.int .i64 x7]=ah (F_gp x0 x1 x2 x3 x4 x5 x6 x7):=by kernel_rfl
theorem q_am(x0:LL):v8 [.list x0]=ah (F_am x0):=by kernel_rfl
theorem q_dv(x0:LL)(x1:Int):wX [.list x0,.int .i64 x1]=ah (F_dv x0 x1):=by kernel_rfl
theorem q_ao(x0:LL):vW [.list x0]=ah (F_ao x0):=by kernel_rfl
theorem q_dj(x0:Int)(x1:Bool)(x2:Int)(x3:LL)(x4:Int)(x5:Bool):pz [.int .i64 x0,.bool x1,.int .i64 x2,.list x3,.int .i64 x4,.bool x5]=ah (F_dj x0 x1 x2 x3 x4 x5):=by kernel_rfl
theorem q_hc(x0:Int)(x1:Int)(x2:LL)(x3:Int)(x4:Int)(x5:LL):wN [.int .i64 x0,.int .i64 x1,.list x2,.int .i64 x3,.int .i64 x4,.list x5]=ah (F_hc x0 x1 x2 x3 x4 x5):=by kernel_rfl
theorem q_fr(x0:Int)(x1:Bool)(x2:Int)(x3:LL)(x4:Int):gA [.int .i64 x0,.bool x1,.int .i64 x2,.list x3,.int .i64 x4]=ah (F_fr x0 x1 x2 x3 x4):=by kernel_rfl
theorem q_cc(x0:Int)(x1:Bool)(x2:Int)(x3:LL)(x4:Int)(x5:Int):wI [.int .i64 x0,.bool x1,.int .i64 x2,.list x3,.int .i64 x4,.int .i64 x5]=ah (F_cc x0 x1 x2 x3 x4 x5):=by kernel_rfl
theorem q_de(x0:LL):pE [.list x0]=ah (F_de x0):=by kernel_rfl
theorem q_gm(x0:Bool)(x1:LL)(x2:Int)(x3:LL)(x4:Int):vu [.bool x0,.list x1,.int .i64 x2,.list x3,.int .i64 x4]=ah (GC x0 x1 x2 x3 x4):=by kernel_rfl
theorem q_dq(x0:Int):pr [.int .i64 x0]=ah (F_dq x0):=by kernel_rfl
theorem q_hb(x0:LL)(x1:Int)(x2:LL)(x3:Int):pX [.list x0,.int .i64 x1,.list x2,.int .i64 x3]=ah (F_hb x0 x1 x2 x3):=by kernel_rfl
theorem q_ef(x0:Bool)(x1:LL)(x2:Int)(x3:LL)(x4:LL)(x5:LL):pn [.bool x0,.list x1,.int .i64 x2,.list x3,.list x4,.list x5]=ah (F_ef x0 x1 x2 x3 x4 x5):=by kernel_rfl
theorem q_fg(x0:LL):we [.list x0]=ah (F_fg x0):=by kernel_rfl
theorem q_bl(x0:Int)(x1:Bool)(x2:Int)(x3:LL)(x4:Int)(x5:Int)(x6:Int)(x7:Int)(x8:LL):wJ [.int .i64 x0,.bool x1,.int .i64 x2,.list x3,.int .i64 x4,.int .i64 x5,.int .i64 x6,.int .i64 x7,.list x8]=ah (F_bl x0 x1 x2 x3 x4 x5 x6 x7 x8):=by kernel_rfl
theorem q_hn(x0:Int)(x1:Int)(x2:Int):bY [.int .i64 x0,.int .i64 x1,.int .i64 x2]=ah (F_hn x0 x1 x2):=by kernel_rfl
theorem q_hh(x0:LL)(x1:Int)(x2:Int):pf [.list x0,.int .i64 x1,.int .i64 x2]=ah (F_hh x0 x1 x2):=by kernel_rfl
theorem q_bw(x0:Bool)(x1:LL)(x2:Int)(x3:LL)(x4:Int)(x5:Int)(x6:Int)(x7:LL):wH [.bool x0,.list x1,.int .i64 x2,.list x3,.int .i64 x4,.int .i64 x5,.int .i64 x6,.list x7]=ah (F_bw x0 x1 x2 x3 x4 x5 x6 x7):=by kernel_rfl
theorem q_bg(x0:Bool)(x1:LL)(x2:Int)(x3:LL):gB [.bool x0,.list x1,.int .i64 x2,.list x3]=ah (F_bg x0 x1 x2 x3):=by kernel_rfl
theorem q_ey(x0:Bool)(x1:LL)(x2:Int)(x3:LL)(x4:Int):vT [.bool x0,.list x1,.int .i64 x2,.list x3,.int .i64 x4]=ah (F_ey x0 x1 x2 x3 x4):=by kernel_rfl
theorem q_ac(x0:LL):wz [.list x0]=ah (F_ac x0):=by kernel_rfl
theorem q_ak(x0:LL):v6 [.list x0]=ah (F_ak x0):=by kernel_rfl
theorem q_cs(x0:Int)(x1:Int)(x2:Int)(x3:Int):ww [.int .i64 x0,.int .i64 x1,.int .i64 x2,.int .i64 x3]=ah (F_cs x0 x1 x2 x3):=by kernel_rfl
theorem q_cf(x0:Int)(x1:Int)(x2:Int)(x3:LL)(x4:Int):wW [.int .i64 x0,.int .i64 x1,.int .i64 x2,.list x3,.int .i64 x4]=ah (F_cf x0 x1 x2 x3 x4):=by kernel_rfl
theorem q_fl(x0:Int)(x1:Int)(x2:LL):v7 [.int .i64 x0,.int .i64 x1,.list x2]=ah (F_fl x0 x1 x2):=by kernel_rfl
theorem q_ej(x0:LL)(x1:Int)(x2:Int):wT [.list x0,.int .i64 x1,.int .i64 x2]=ah (F_ej x0 x1 x2):=by kernel_rfl
theorem q_fb(x0:Int)(x1:Int)(x2:Int)(x3:LL):po [.int .i64 x0,.int .i64 x1,.int .i64 x2,.list x3]=ah (F_fb x0 x1 x2 x3):=by kernel_rfl
theorem q_fe(x0:Int):eS [.int .i64 x0]=ah (F_fe x0):=by kernel_rfl
theorem q_by(x0:Int):vY [.int .i64 x0]=ah (F_by x0):=by kernel_rfl
end Dx
