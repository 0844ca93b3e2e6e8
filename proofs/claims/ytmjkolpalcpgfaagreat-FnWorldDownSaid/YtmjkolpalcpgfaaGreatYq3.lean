import Derived.Test.YtmjkolpalcpgfaaGreatYb
set_option linter.all false
namespace Dx
open Go
theorem q_ed(x0:LL)(x1:Int)(x2:Bool)(x3:LL)(x4:Int)(x5:LL)(x6:LL)(x7:LL):nG [.list x0,.int .i64 x1,.bool x2,.list x3,.int .i64 x4,.list x5,.list x6,.list x7]=ah (F_ed x0 x1 x2 x3 x4 x5 x6 x7):=by kernel_rfl
theorem q_ef(x0:LL)(x1:Int):yi [.list x0,.int .i64 x1]=ah (F_ef x0 x1):=by kernel_rfl
theorem q_ds(x0:Bool)(x1:LL)(x2:Int)(x3:LL)(x4:LL)(x5:LL)(x6:Int)(x7:Int)(x8:Int)(x9:LL):nM [.bool x0,.list x1,.int .i64 x2,.list x3,.list x4,.list x5,.int .i64 x6,.int .i64 x7,.int .i64 x8,.list x9]=ah (F_ds x0 x1 x2 x3 x4 x5 x6 x7 x8 x9):=by kernel_rfl
theorem q_gp(x0:Bool)(x1:LL)(x2:Int)(x3:LL)(x4:LL)(x5:LL)(x6:Int)(x7:Int)(x8:Int)(x9:LL):jR [.bool x0,.list x1,.int .i64 x2,.list x3,.list x4,.list x5,.int .i64 x6,.int .i64 x7,.int .i64 x8,.list x9]=ah (F_gp x0 x1 x2 x3 x4 x5 x6 x7 x8 x9):=by kernel_rfl
theorem q_fc(x0:Bool)(x1:LL)(x2:Int)(x3:LL)(x4:LL)(x5:LL):xU [.bool x0,.list x1,.int .i64 x2,.list x3,.list x4,.list x5]=ah (F_fc x0 x1 x2 x3 x4 x5):=by kernel_rfl
theorem q_ee(x0:Bool)(x1:LL)(x2:Int)(x3:LL):kS [.bool x0,.list x1,.int .i64 x2,.list x3]=ah (F_ee x0 x1 x2 x3):=by kernel_rfl
theorem q_ch(x0:Bool)(x1:LL)(x2:Int)(x3:LL)(x4:LL)(x5:LL):xO [.bool x0,.list x1,.int .i64 x2,.list x3,.list x4,.list x5]=ah (F_ch x0 x1 x2 x3 x4 x5):=by kernel_rfl
theorem q_dd(x0:Int)(x1:Bool)(x2:Int)(x3:LL)(x4:Int)(x5:Int)(x6:Int)(x7:Int)(x8:Int)(x9:Int):ue [.int .i64 x0,.bool x1,.int .i64 x2,.list x3,.int .i64 x4,.int .i64 x5,.int .i64 x6,.int .i64 x7,.int .i64 x8,.int .i64 x9]=ah (Fx x0 x1 x2 x3 x4 x5 x6 x7 x8 x9):=by kernel_rfl
theorem q_fh(x0:LL)(x1:Int):ug [.list x0,.int .i64 x1]=ah (F_fh x0 x1):=by kernel_rfl
theorem q_fs(x0:Bool)(x1:LL)(x2:Int)(x3:LL):eN [.bool x0,.list x1,.int .i64 x2,.list x3]=ah (F_fs x0 x1 x2 x3):=by kernel_rfl
theorem q_gg(x0:Bool)(x1:LL)(x2:Int)(x3:LL):xP [.bool x0,.list x1,.int .i64 x2,.list x3]=ah (F_gg x0 x1 x2 x3):=by kernel_rfl
theorem sT(x0:LL)(x1:Int)(x2:Int)(x3:LL):dC [.list x0,.int .i64 x1,.int .i64 x2,.list x3]=ah (gP x0 x1 x2 x3):=by kernel_rfl
theorem q_dg(x0:LL)(x1:LL):hD [.list x0,.list x1]=ah (F_dg x0 x1):=by kernel_rfl
theorem q_ew(x0:Bool)(x1:LL)(x2:Int)(x3:LL)(x4:Int)(x5:Int)(x6:Int)(x7:Int):xb [.bool x0,.list x1,.int .i64 x2,.list x3,.int .i64 x4,.int .i64 x5,.int .i64 x6,.int .i64 x7]=ah (F_ew x0 x1 x2 x3 x4 x5 x6 x7):=by kernel_rfl
theorem q_cz(x0:Bool)(x1:LL)(x2:Int)(x3:LL)(x4:LL)(x5:LL)(x6:Int):db [.bool x0,.list x1,.int .i64 x2,.list x3,.list x4,.list x5,.int .i64 x6]=ah (H5 x0 x1 x2 x3 x4 x5 x6):=by kernel_rfl
theorem q_dn(x0:Int)(x1:LL)(x2:Int)(x3:Int)(x4:LL):qY [.int .i64 x0,.list x1,.int .i64 x2,.int .i64 x3,.list x4]=ah (F_dn x0 x1 x2 x3 x4):=by kernel_rfl
theorem q_ec(x0:LL)(x1:Int)(x2:Int)(x3:LL):qV [.list x0,.int .i64 x1,.int .i64 x2,.list x3]=ah (F_ec x0 x1 x2 x3):=by kernel_rfl
theorem q_fj(x0:Int)(x1:LL)(x2:Int)(x3:Int)(x4:LL):xD [.int .i64 x0,.list x1,.int .i64 x2,.int .i64 x3,.list x4]=ah (F_fj x0 x1 x2 x3 x4):=by kernel_rfl
theorem q_bi(x0:Bool)(x1:LL)(x2:Int)(x3:LL)(x4:LL)(x5:LL)(x6:Int)(x7:Int)(x8:Int)(x9:Int):uy [.bool x0,.list x1,.int .i64 x2,.list x3,.list x4,.list x5,.int .i64 x6,.int .i64 x7,.int .i64 x8,.int .i64 x9]=ah (F_bi x0 x1 x2 x3 x4 x5 x6 x7 x8 x9):=by kernel_rfl
theorem q_cp(x0:Bool)(x1:LL)(x2:Int)(x3:LL)(x4:LL):ya [.bool x0,.list x1,.int .i64 x2,.list x3,.list x4]=ah (F_cp x0 x1 x2 x3 x4):=by kernel_rfl
theorem q_af(x0:Bool)(x1:LL)(x2:Int)(x3:LL)(x4:LL)(x5:LL)(x6:Int):rh [.bool x0,.list x1,.int .i64 x2,.list x3,.list x4,.list x5,.int .i64 x6]=ah (HP x0 x1 x2 x3 x4 x5 x6):=by kernel_rfl
theorem q_gu(x0:LL):mE [.list x0]=ah (F_gu x0):=by kernel_rfl
theorem q_gj(x0:LL)(x1:Int)(x2:Int)(x3:Int)(x4:LL):rl [.list x0,.int .i64 x1,.int .i64 x2,.int .i64 x3,.list x4]=ah (F_gj x0 x1 x2 x3 x4):=by kernel_rfl
theorem q_ft(x0:LL)(x1:LL):xX [.list x0,.list x1]=ah (F_ft x0 x1):=by kernel_rfl
theorem q_gf(x0:LL):w8 [.list x0]=ah (F_gf x0):=by kernel_rfl
theorem q_gl(x0:LL)(x1:Int):rp [.list x0,.int .i64 x1]=ah (F_gl x0 x1):=by kernel_rfl
theorem q_fd(x0:Bool)(x1:LL)(x2:Int)(x3:LL)(x4:LL)(x5:LL)(x6:Int)(x7:Int)(x8:Int)(x9:LL):dI [.bool x0,.list x1,.int .i64 x2,.list x3,.list x4,.list x5,.int .i64 x6,.int .i64 x7,.int .i64 x8,.list x9]=ah (F_fd x0 x1 x2 x3 x4 x5 x6 x7 x8 x9):=by kernel_rfl
theorem q_cx(x0:LL)(x1:Int)(x2:Int)(x3:Int):mK [.list x0,.int .i64 x1,.int .i64 x2,.int .i64 x3]=ah (F_cx x0 x1 x2 x3):=by kernel_rfl
theorem q_ek(x0:Int)(x1:LL):qZ [.int .i64 x0,.list x1]=ah (F_ek x0 x1):=by kernel_rfl
theorem q_do(x0:Int)(x1:Int):w4 [.int .i64 x0,.int .i64 x1]=ah (F_do x0 x1):=by kernel_rfl
theorem q_eu(x0:LL):qW [.list x0]=ah (F_eu x0):=by kernel_rfl
theorem q_cw(x0:Bool)(x1:LL)(x2:Int)(x3:LL):xH [.bool x0,.list x1,.int .i64 x2,.list x3]=ah (F_cw x0 x1 x2 x3):=by kernel_rfl
theorem q_gb(x0:LL)(x1:Int)(x2:Int):qQ [.list x0,.int .i64 x1,.int .i64 x2]=ah (F_gb x0 x1 x2):=by kernel_rfl
theorem q_at(x0:LL):xC [.list x0]=ah (F_at x0):=by kernel_rfl
theorem q_ai(x0:LL):xA [.list x0]=ah (F_ai x0):=by kernel_rfl
theorem q_an(x0:LL):xl [.list x0]=ah (F_an x0):=by kernel_rfl
theorem q_cr(x0:Int)(x1:Bool)(x2:Int)(x3:LL)(x4:Int):xK [.int .i64 x0,.bool x1,.int .i64 x2,.list x3,.int .i64 x4]=ah (F_cr x0 x1 x2 x3 x4):=by kernel_rfl
theorem q_fr(x0:Bool)(x1:LL)(x2:Int)(x3:LL)(x4:LL)(x5:LL)(x6:Int)(x7:Int)(x8:Int)(x9:Int):nE [.bool x0,.list x1,.int .i64 x2,.list x3,.list x4,.list x5,.int .i64 x6,.int .i64 x7,.int .i64 x8,.int .i64 x9]=ah (F_fr x0 x1 x2 x3 x4 x5 x6 x7 x8 x9):=by kernel_rfl
theorem q_cq(x0:Int)(x1:Bool)(x2:Int)(x3:LL)(x4:Int)(x5:Int):yf [.int .i64 x0,.bool x1,.int .i64 x2,.list x3,.int .i64 x4,.int .i64 x5]=ah (F_cq x0 x1 x2 x3 x4 x5):=by kernel_rfl
theorem q_dk(x0:Bool)(x1:LL)(x2:Int)(x3:LL)(x4:Int):yd [.bool x0,.list x1,.int .i64 x2,.list x3,.int .i64 x4]=ah (F_dk x0 x1 x2 x3 x4):=by kernel_rfl
theorem q_fz(x0:Bool)(x1:LL)(x2:Int)(x3:LL)(x4:Bool)(x5:LL)(x6:Int)(x7:LL):nL [.bool x0,.list x1,.int .i64 x2,.list x3,.bool x4,.list x5,.int .i64 x6,.list x7]=ah (F_fz x0 x1 x2 x3 x4 x5 x6 x7):=by kernel_rfl
theorem q_dw(x0:LL)(x1:Int):rf [.list x0,.int .i64 x1]=ah (F_dw x0 x1):=by kernel_rfl
theorem q_dz(x0:Int):xx [.int .i64 x0]=ah (F_dz x0):=by kernel_rfl
theorem q_gs(x0:Int)(x1:Int)(x2:LL)(x3:Int)(x4:Int)(x5:LL):xW [.int .i64 x0,.int .i64 x1,.list x2,.int .i64 x3,.int .i64 x4,.list x5]=ah (F_gs x0 x1 x2 x3 x4 x5):=by kernel_rfl
theorem q_cn(x0:Bool)(x1:LL)(x2:Int)(x3:LL):rA [.bool x0,.list x1,.int .i64 x2,.list x3]=ah (F_cn x0 x1 x2 x3):=by kernel_rfl
theorem q_ct(x0:Int)(x1:Int)(x2:LL):xR [.int .i64 x0,.int .i64 x1,.list x2]=ah (F_ct x0 x1 x2):=by kernel_rfl
theorem q_cd(x0:Int)(x1:Bool)(x2:Int)(x3:LL)(x4:Int)(x5:Int)(x6:Int)(x7:Int)(x8:LL):yg [.int .i64 x0,.bool x1,.int .i64 x2,.list x3,.int .i64 x4,.int .i64 x5,.int .i64 x6,.int .i64 x7,.list x8]=ah (F_cd x0 x1 x2 x3 x4 x5 x6 x7 x8):=by kernel_rfl
theorem q_gx(x0:Int)(x1:Int)(x2:Int):bV [.int .i64 x0,.int .i64 x1,.int .i64 x2]=ah (F_gx x0 x1 x2):=by kernel_rfl
theorem q_ap(x0:LL)(x1:Int)(x2:Int)(x3:Int)(x4:Int):mI [.list x0,.int .i64 x1,.int .i64 x2,.int .i64 x3,.int .i64 x4]=ah (F_ap x0 x1 x2 x3 x4):=by kernel_rfl
theorem q_ei(x0:Bool)(x1:LL)(x2:Int)(x3:LL)(x4:Int):xf [.bool x0,.list x1,.int .i64 x2,.list x3,.int .i64 x4]=ah (F_ei x0 x1 x2 x3 x4):=by kernel_rfl
theorem q_ac(x0:LL):xG [.list x0]=ah (F_ac x0):=by kernel_rfl
theorem q_al(x0:LL):xm [.list x0]=ah (F_al x0):=by kernel_rfl
theorem q_bv(x0:Int):xh [.int .i64 x0]=ah (F_bv x0):=by kernel_rfl
theorem q_fi(x0:Int)(x1:Bool)(x2:Int)(x3:LL)(x4:Int):xT [.int .i64 x0,.bool x1,.int .i64 x2,.list x3,.int .i64 x4]=ah (F_fi x0 x1 x2 x3 x4):=by kernel_rfl
theorem q_fl:wZ []=ah (F_fl):=by kernel_rfl
theorem q_cf(x0:Int)(x1:Int)(x2:LL):rb [.int .i64 x0,.int .i64 x1,.list x2]=ah (F_cf x0 x1 x2):=by kernel_rfl
end Dx
