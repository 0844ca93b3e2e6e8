import Derived.Test.YtnbhinpnmgbbhaaGreatDoorYb
set_option linter.all false
namespace Dx
open Go
theorem q_ez(x0:LL)(x1:Int):xI [.list x0,.int .i64 x1]=ai (F_ez x0 x1):=by kernel_rfl
theorem q_ew(x0:Bool)(x1:LL)(x2:Int)(x3:LL)(x4:LL)(x5:LL)(x6:Int)(x7:LL)(x8:Int):y0 [.bool x0,.list x1,.int .i64 x2,.list x3,.list x4,.list x5,.int .i64 x6,.list x7,.int .i64 x8]=ai (F_ew x0 x1 x2 x3 x4 x5 x6 x7 x8):=by kernel_rfl
theorem q_br(x0:Bool)(x1:LL)(x2:Int)(x3:LL)(x4:LL)(x5:LL)(x6:LL):uT [.bool x0,.list x1,.int .i64 x2,.list x3,.list x4,.list x5,.list x6]=ai (F_br x0 x1 x2 x3 x4 x5 x6):=by kernel_rfl
theorem q_ex(x0:Int)(x1:Bool)(x2:Int)(x3:LL)(x4:Int)(x5:Int)(x6:Int)(x7:Int)(x8:Int):yX [.int .i64 x0,.bool x1,.int .i64 x2,.list x3,.int .i64 x4,.int .i64 x5,.int .i64 x6,.int .i64 x7,.int .i64 x8]=ai (F_ex x0 x1 x2 x3 x4 x5 x6 x7 x8):=by kernel_rfl
theorem q_fj(x0:Bool)(x1:LL)(x2:Int)(x3:LL)(x4:LL)(x5:LL):yY [.bool x0,.list x1,.int .i64 x2,.list x3,.list x4,.list x5]=ai (F_fj x0 x1 x2 x3 x4 x5):=by kernel_rfl
theorem q_ax(x0:Int)(x1:Bool)(x2:Int)(x3:LL)(x4:Int)(x5:Int)(x6:Int)(x7:Int)(x8:Int):yn [.int .i64 x0,.bool x1,.int .i64 x2,.list x3,.int .i64 x4,.int .i64 x5,.int .i64 x6,.int .i64 x7,.int .i64 x8]=ai (F_ax x0 x1 x2 x3 x4 x5 x6 x7 x8):=by kernel_rfl
theorem q_ca(x0:Bool)(x1:LL)(x2:Int)(x3:LL)(x4:LL)(x5:LL):yF [.bool x0,.list x1,.int .i64 x2,.list x3,.list x4,.list x5]=ai (F_ca x0 x1 x2 x3 x4 x5):=by kernel_rfl
theorem q_bd(x0:LL):il [.list x0]=ai (F_bd x0):=by kernel_rfl
theorem q_ey(x0:LL)(x1:Int)(x2:Int)(x3:LL):ya [.list x0,.int .i64 x1,.int .i64 x2,.list x3]=ai (F_ey x0 x1 x2 x3):=by kernel_rfl
theorem q_dm(x0:LL)(x1:ByteArray):eZ [.list x0,.str x1]=ai (F_dm x0 x1):=by kernel_rfl
theorem q_gb(x0:Bool)(x1:LL)(x2:Int)(x3:LL):gD [.bool x0,.list x1,.int .i64 x2,.list x3]=ai (F_gb x0 x1 x2 x3):=by kernel_rfl
theorem q_gs(x0:ByteArray):yM [.str x0]=ai (F_gs x0):=by kernel_rfl
theorem q_cl(x0:Bool)(x1:LL)(x2:Int)(x3:LL)(x4:Int)(x5:Int)(x6:Int)(x7:Int):nq [.bool x0,.list x1,.int .i64 x2,.list x3,.int .i64 x4,.int .i64 x5,.int .i64 x6,.int .i64 x7]=ai (F_cl x0 x1 x2 x3 x4 x5 x6 x7):=by kernel_rfl
theorem q_dw(x0:LL):yL [.list x0]=ai (F_dw x0):=by kernel_rfl
theorem q_bu(x0:Bool)(x1:LL)(x2:Int)(x3:LL)(x4:LL)(x5:LL):yI [.bool x0,.list x1,.int .i64 x2,.list x3,.list x4,.list x5]=ai (F_bu x0 x1 x2 x3 x4 x5):=by kernel_rfl
theorem q_ct(x0:Bool)(x1:LL)(x2:Int)(x3:LL)(x4:LL)(x5:LL)(x6:Int):uO [.bool x0,.list x1,.int .i64 x2,.list x3,.list x4,.list x5,.int .i64 x6]=ai (F_ct x0 x1 x2 x3 x4 x5 x6):=by kernel_rfl
theorem q_cg(x0:Bool)(x1:LL)(x2:Int)(x3:LL)(x4:Int)(x5:Int)(x6:LL):ol [.bool x0,.list x1,.int .i64 x2,.list x3,.int .i64 x4,.int .i64 x5,.list x6]=ai (F_cg x0 x1 x2 x3 x4 x5 x6):=by kernel_rfl
theorem q_fm(x0:Bool)(x1:LL)(x2:Int)(x3:LL)(x4:LL)(x5:LL)(x6:Int)(x7:Int)(x8:Int)(x9:Int):oq [.bool x0,.list x1,.int .i64 x2,.list x3,.list x4,.list x5,.int .i64 x6,.int .i64 x7,.int .i64 x8,.int .i64 x9]=ai (F_fm x0 x1 x2 x3 x4 x5 x6 x7 x8 x9):=by kernel_rfl
theorem q_aa(x0:Bool)(x1:LL)(x2:Int)(x3:LL)(x4:LL)(x5:LL)(x6:Int)(x7:Int)(x8:Int)(x9:Int)(x10:LL)(x11:Int)(x12:Int)(x13:Int)(x14:LL):yw [.bool x0,.list x1,.int .i64 x2,.list x3,.list x4,.list x5,.int .i64 x6,.int .i64 x7,.int .i64 x8,.int .i64 x9,.list x10,.int .i64 x11,.int .i64 x12,.int .i64 x13,.list x14]=ai (Jl x0 x1 x2 x3 x4 x5 x6 x7 x8 x9 x10 x11 x12 x13 x14):=by kernel_rfl
theorem q_bn(x0:Bool)(x1:LL)(x2:Int)(x3:LL)(x4:LL)(x5:LL)(x6:Int)(x7:Int)(x8:Int)(x9:Int):uJ [.bool x0,.list x1,.int .i64 x2,.list x3,.list x4,.list x5,.int .i64 x6,.int .i64 x7,.int .i64 x8,.int .i64 x9]=ai (F_bn x0 x1 x2 x3 x4 x5 x6 x7 x8 x9):=by kernel_rfl
theorem q_gg(x0:ByteArray)(x1:Int):xJ [.str x0,.int .i64 x1]=ai (F_gg x0 x1):=by kernel_rfl
theorem q_ab(x0:Bool)(x1:LL)(x2:Int)(x3:LL)(x4:LL)(x5:LL)(x6:Int):rG [.bool x0,.list x1,.int .i64 x2,.list x3,.list x4,.list x5,.int .i64 x6]=ai (Je x0 x1 x2 x3 x4 x5 x6):=by kernel_rfl
theorem q_gm(x0:LL):nw [.list x0]=ai (F_gm x0):=by kernel_rfl
theorem q_gf(x0:ByteArray)(x1:LL):jp [.str x0,.list x1]=ai (F_gf x0 x1):=by kernel_rfl
theorem q_df(x0:Bool)(x1:LL)(x2:Int)(x3:LL)(x4:Int):yd [.bool x0,.list x1,.int .i64 x2,.list x3,.int .i64 x4]=ai (F_df x0 x1 x2 x3 x4):=by kernel_rfl
theorem q_fr(x0:LL):yN [.list x0]=ai (F_fr x0):=by kernel_rfl
theorem q_ga(x0:Bool)(x1:LL)(x2:Int)(x3:LL)(x4:Int)(x5:LL)(x6:Int):yU [.bool x0,.list x1,.int .i64 x2,.list x3,.int .i64 x4,.list x5,.int .i64 x6]=ai (F_ga x0 x1 x2 x3 x4 x5 x6):=by kernel_rfl
theorem q_cm(x0:LL)(x1:Int)(x2:Int)(x3:Int):nk [.list x0,.int .i64 x1,.int .i64 x2,.int .i64 x3]=ai (F_cm x0 x1 x2 x3):=by kernel_rfl
theorem q_ch(x0:Bool)(x1:LL)(x2:Int)(x3:LL)(x4:Int)(x5:Int)(x6:LL):io [.bool x0,.list x1,.int .i64 x2,.list x3,.int .i64 x4,.int .i64 x5,.list x6]=ai (F_ch x0 x1 x2 x3 x4 x5 x6):=by kernel_rfl
theorem q_ed(x0:Int)(x1:Int):yK [.int .i64 x0,.int .i64 x1]=ai (F_ed x0 x1):=by kernel_rfl
theorem q_eu(x0:Int)(x1:LL):yk [.int .i64 x0,.list x1]=ai (F_eu x0 x1):=by kernel_rfl
theorem q_et:y1 []=ai (F_et):=by kernel_rfl
theorem q_dc(x0:Bool)(x1:LL)(x2:Int)(x3:LL):yp [.bool x0,.list x1,.int .i64 x2,.list x3]=ai (F_dc x0 x1 x2 x3):=by kernel_rfl
theorem q_fe(x0:LL)(x1:Int)(x2:Int):rH [.list x0,.int .i64 x1,.int .i64 x2]=ai (F_fe x0 x1 x2):=by kernel_rfl
theorem q_am(x0:LL):xU [.list x0]=ai (F_am x0):=by kernel_rfl
theorem q_bo(x0:LL):oh [.list x0]=ai (F_bo x0):=by kernel_rfl
theorem q_an(x0:LL):xO [.list x0]=ai (F_an x0):=by kernel_rfl
theorem q_gn(x0:LL)(x1:Int):iI [.list x0,.int .i64 x1]=ai (F_gn x0 x1):=by kernel_rfl
theorem q_fs(x0:Bool)(x1:LL)(x2:Int)(x3:LL)(x4:LL)(x5:LL)(x6:Int)(x7:Int)(x8:Int)(x9:Int):ot [.bool x0,.list x1,.int .i64 x2,.list x3,.list x4,.list x5,.int .i64 x6,.int .i64 x7,.int .i64 x8,.int .i64 x9]=ai (F_fs x0 x1 x2 x3 x4 x5 x6 x7 x8 x9):=by kernel_rfl
theorem q_dg(x0:Bool)(x1:LL)(x2:Int)(x3:LL)(x4:Int):yr [.bool x0,.list x1,.int .i64 x2,.list x3,.int .i64 x4]=ai (F_dg x0 x1 x2 x3 x4):=by kernel_rfl
theorem q_dp(x0:LL)(x1:Int):uA [.list x0,.int .i64 x1]=ai (F_dp x0 x1):=by kernel_rfl
theorem q_gi(x0:Int)(x1:Int)(x2:Int)(x3:Int):yW [.int .i64 x0,.int .i64 x1,.int .i64 x2,.int .i64 x3]=ai (F_gi x0 x1 x2 x3):=by kernel_rfl
theorem q_do(x0:Int):yf [.int .i64 x0]=ai (F_do x0):=by kernel_rfl
theorem q_el(x0:Bool)(x1:LL)(x2:Int)(x3:LL):yR [.bool x0,.list x1,.int .i64 x2,.list x3]=ai (F_el x0 x1 x2 x3):=by kernel_rfl
theorem q_fb(x0:LL)(x1:Int)(x2:LL):lj [.list x0,.int .i64 x1,.list x2]=ai (F_fb x0 x1 x2):=by kernel_rfl
theorem q_cz(x0:Int)(x1:Int)(x2:LL):yQ [.int .i64 x0,.int .i64 x1,.list x2]=ai (F_cz x0 x1 x2):=by kernel_rfl
theorem q_gy(x0:Int)(x1:Int)(x2:Int):bK [.int .i64 x0,.int .i64 x1,.int .i64 x2]=ai (F_gy x0 x1 x2):=by kernel_rfl
theorem q_cu(x0:LL)(x1:Int)(x2:Bool):rz [.list x0,.int .i64 x1,.bool x2]=ai (F_cu x0 x1 x2):=by kernel_rfl
theorem q_ac(x0:LL):xY [.list x0]=ai (F_ac x0):=by kernel_rfl
theorem q_eo(x0:Bool)(x1:LL)(x2:Int)(x3:LL)(x4:Int):y4 [.bool x0,.list x1,.int .i64 x2,.list x3,.int .i64 x4]=ai (F_eo x0 x1 x2 x3 x4):=by kernel_rfl
theorem q_ak(x0:LL):xP [.list x0]=ai (F_ak x0):=by kernel_rfl
theorem q_db(x0:Int)(x1:Int)(x2:Int)(x3:Int):yz [.int .i64 x0,.int .i64 x1,.int .i64 x2,.int .i64 x3]=ai (F_db x0 x1 x2 x3):=by kernel_rfl
theorem q_ep(x0:Int)(x1:Bool)(x2:Int)(x3:LL)(x4:Int):yS [.int .i64 x0,.bool x1,.int .i64 x2,.list x3,.int .i64 x4]=ai (F_ep x0 x1 x2 x3 x4):=by kernel_rfl
theorem q_ff:xK []=ai (F_ff):=by kernel_rfl
theorem q_cd(x0:Int)(x1:Int)(x2:LL):rx [.int .i64 x0,.int .i64 x1,.list x2]=ai (F_cd x0 x1 x2):=by kernel_rfl
end Dx
