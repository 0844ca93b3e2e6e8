import Derived.Test.YtnbhinpnmgbbhaaGreatDoorYb
set_option linter.all false
namespace Dx
open Go
theorem q_fh(x0:LL)(x1:Int):xE [.list x0,.int .i64 x1]=ai (F_fh x0 x1):=by kernel_rfl
theorem q_er(x0:Bool)(x1:LL)(x2:Int)(x3:LL)(x4:LL)(x5:LL)(x6:Int)(x7:LL)(x8:Int):yW [.bool x0,.list x1,.int .i64 x2,.list x3,.list x4,.list x5,.int .i64 x6,.list x7,.int .i64 x8]=ai (F_er x0 x1 x2 x3 x4 x5 x6 x7 x8):=by kernel_rfl
theorem q_ch(x0:Bool)(x1:LL)(x2:Int)(x3:LL)(x4:LL)(x5:LL)(x6:LL):uP [.bool x0,.list x1,.int .i64 x2,.list x3,.list x4,.list x5,.list x6]=ai (F_ch x0 x1 x2 x3 x4 x5 x6):=by kernel_rfl
theorem q_ez(x0:Int)(x1:Bool)(x2:Int)(x3:LL)(x4:Int)(x5:Int)(x6:Int)(x7:Int)(x8:Int):yT [.int .i64 x0,.bool x1,.int .i64 x2,.list x3,.int .i64 x4,.int .i64 x5,.int .i64 x6,.int .i64 x7,.int .i64 x8]=ai (F_ez x0 x1 x2 x3 x4 x5 x6 x7 x8):=by kernel_rfl
theorem q_fe(x0:Bool)(x1:LL)(x2:Int)(x3:LL)(x4:LL)(x5:LL):yU [.bool x0,.list x1,.int .i64 x2,.list x3,.list x4,.list x5]=ai (F_fe x0 x1 x2 x3 x4 x5):=by kernel_rfl
theorem q_ax(x0:Int)(x1:Bool)(x2:Int)(x3:LL)(x4:Int)(x5:Int)(x6:Int)(x7:Int)(x8:Int):yj [.int .i64 x0,.bool x1,.int .i64 x2,.list x3,.int .i64 x4,.int .i64 x5,.int .i64 x6,.int .i64 x7,.int .i64 x8]=ai (F_ax x0 x1 x2 x3 x4 x5 x6 x7 x8):=by kernel_rfl
theorem q_bw(x0:Bool)(x1:LL)(x2:Int)(x3:LL)(x4:LL)(x5:LL):yB [.bool x0,.list x1,.int .i64 x2,.list x3,.list x4,.list x5]=ai (F_bw x0 x1 x2 x3 x4 x5):=by kernel_rfl
theorem q_be(x0:LL):il [.list x0]=ai (F_be x0):=by kernel_rfl
theorem q_ep(x0:LL)(x1:Int)(x2:Int)(x3:LL):xW [.list x0,.int .i64 x1,.int .i64 x2,.list x3]=ai (F_ep x0 x1 x2 x3):=by kernel_rfl
theorem q_dx(x0:LL)(x1:ByteArray):eZ [.list x0,.str x1]=ai (F_dx x0 x1):=by kernel_rfl
theorem q_fv(x0:Bool)(x1:LL)(x2:Int)(x3:LL):gD [.bool x0,.list x1,.int .i64 x2,.list x3]=ai (F_fv x0 x1 x2 x3):=by kernel_rfl
theorem q_gv(x0:ByteArray):yI [.str x0]=ai (F_gv x0):=by kernel_rfl
theorem q_cz(x0:Bool)(x1:LL)(x2:Int)(x3:LL)(x4:Int)(x5:Int)(x6:Int)(x7:Int):nk [.bool x0,.list x1,.int .i64 x2,.list x3,.int .i64 x4,.int .i64 x5,.int .i64 x6,.int .i64 x7]=ai (F_cz x0 x1 x2 x3 x4 x5 x6 x7):=by kernel_rfl
theorem q_dm(x0:LL):yH [.list x0]=ai (F_dm x0):=by kernel_rfl
theorem q_br(x0:Bool)(x1:LL)(x2:Int)(x3:LL)(x4:LL)(x5:LL):yE [.bool x0,.list x1,.int .i64 x2,.list x3,.list x4,.list x5]=ai (F_br x0 x1 x2 x3 x4 x5):=by kernel_rfl
theorem q_da(x0:Bool)(x1:LL)(x2:Int)(x3:LL)(x4:LL)(x5:LL)(x6:Int):uK [.bool x0,.list x1,.int .i64 x2,.list x3,.list x4,.list x5,.int .i64 x6]=ai (F_da x0 x1 x2 x3 x4 x5 x6):=by kernel_rfl
theorem q_bx(x0:Bool)(x1:LL)(x2:Int)(x3:LL)(x4:Int)(x5:Int)(x6:LL):og [.bool x0,.list x1,.int .i64 x2,.list x3,.int .i64 x4,.int .i64 x5,.list x6]=ai (F_bx x0 x1 x2 x3 x4 x5 x6):=by kernel_rfl
theorem q_et(x0:Bool)(x1:LL)(x2:Int)(x3:LL)(x4:LL)(x5:LL)(x6:Int)(x7:Int)(x8:Int)(x9:Int):om [.bool x0,.list x1,.int .i64 x2,.list x3,.list x4,.list x5,.int .i64 x6,.int .i64 x7,.int .i64 x8,.int .i64 x9]=ai (F_et x0 x1 x2 x3 x4 x5 x6 x7 x8 x9):=by kernel_rfl
theorem q_aa(x0:Bool)(x1:LL)(x2:Int)(x3:LL)(x4:LL)(x5:LL)(x6:Int)(x7:Int)(x8:Int)(x9:Int)(x10:LL)(x11:Int)(x12:Int)(x13:Int)(x14:LL):yr [.bool x0,.list x1,.int .i64 x2,.list x3,.list x4,.list x5,.int .i64 x6,.int .i64 x7,.int .i64 x8,.int .i64 x9,.list x10,.int .i64 x11,.int .i64 x12,.int .i64 x13,.list x14]=ai (Jh x0 x1 x2 x3 x4 x5 x6 x7 x8 x9 x10 x11 x12 x13 x14):=by kernel_rfl
theorem q_bh(x0:Bool)(x1:LL)(x2:Int)(x3:LL)(x4:LL)(x5:LL)(x6:Int)(x7:Int)(x8:Int)(x9:Int):uF [.bool x0,.list x1,.int .i64 x2,.list x3,.list x4,.list x5,.int .i64 x6,.int .i64 x7,.int .i64 x8,.int .i64 x9]=ai (F_bh x0 x1 x2 x3 x4 x5 x6 x7 x8 x9):=by kernel_rfl
theorem q_ge(x0:ByteArray)(x1:Int):xF [.str x0,.int .i64 x1]=ai (F_ge x0 x1):=by kernel_rfl
theorem q_ab(x0:Bool)(x1:LL)(x2:Int)(x3:LL)(x4:LL)(x5:LL)(x6:Int):rC [.bool x0,.list x1,.int .i64 x2,.list x3,.list x4,.list x5,.int .i64 x6]=ai (Ja x0 x1 x2 x3 x4 x5 x6):=by kernel_rfl
theorem q_gs(x0:LL):nt [.list x0]=ai (F_gs x0):=by kernel_rfl
theorem q_fn(x0:ByteArray)(x1:LL):jp [.str x0,.list x1]=ai (F_fn x0 x1):=by kernel_rfl
theorem q_dg(x0:Bool)(x1:LL)(x2:Int)(x3:LL)(x4:Int):xZ [.bool x0,.list x1,.int .i64 x2,.list x3,.int .i64 x4]=ai (F_dg x0 x1 x2 x3 x4):=by kernel_rfl
theorem q_gj(x0:LL):yJ [.list x0]=ai (F_gj x0):=by kernel_rfl
theorem q_fo(x0:Bool)(x1:LL)(x2:Int)(x3:LL)(x4:Int)(x5:LL)(x6:Int):yQ [.bool x0,.list x1,.int .i64 x2,.list x3,.int .i64 x4,.list x5,.int .i64 x6]=ai (F_fo x0 x1 x2 x3 x4 x5 x6):=by kernel_rfl
theorem q_cy(x0:LL)(x1:Int)(x2:Int)(x3:Int):ni [.list x0,.int .i64 x1,.int .i64 x2,.int .i64 x3]=ai (F_cy x0 x1 x2 x3):=by kernel_rfl
theorem q_bs(x0:Bool)(x1:LL)(x2:Int)(x3:LL)(x4:Int)(x5:Int)(x6:LL):io [.bool x0,.list x1,.int .i64 x2,.list x3,.int .i64 x4,.int .i64 x5,.list x6]=ai (F_bs x0 x1 x2 x3 x4 x5 x6):=by kernel_rfl
theorem q_dp(x0:Int)(x1:Int):yG [.int .i64 x0,.int .i64 x1]=ai (F_dp x0 x1):=by kernel_rfl
theorem q_fd(x0:Int)(x1:LL):yg [.int .i64 x0,.list x1]=ai (F_fd x0 x1):=by kernel_rfl
theorem q_en:yX []=ai (F_en):=by kernel_rfl
theorem q_cn(x0:Bool)(x1:LL)(x2:Int)(x3:LL):yl [.bool x0,.list x1,.int .i64 x2,.list x3]=ai (F_cn x0 x1 x2 x3):=by kernel_rfl
theorem q_ex(x0:LL)(x1:Int)(x2:Int):rD [.list x0,.int .i64 x1,.int .i64 x2]=ai (F_ex x0 x1 x2):=by kernel_rfl
theorem q_am(x0:LL):xQ [.list x0]=ai (F_am x0):=by kernel_rfl
theorem q_bm(x0:LL):oe [.list x0]=ai (F_bm x0):=by kernel_rfl
theorem q_ao(x0:LL):xK [.list x0]=ai (F_ao x0):=by kernel_rfl
theorem q_gm(x0:LL)(x1:Int):iI [.list x0,.int .i64 x1]=ai (F_gm x0 x1):=by kernel_rfl
theorem q_fu(x0:Bool)(x1:LL)(x2:Int)(x3:LL)(x4:LL)(x5:LL)(x6:Int)(x7:Int)(x8:Int)(x9:Int):oo [.bool x0,.list x1,.int .i64 x2,.list x3,.list x4,.list x5,.int .i64 x6,.int .i64 x7,.int .i64 x8,.int .i64 x9]=ai (F_fu x0 x1 x2 x3 x4 x5 x6 x7 x8 x9):=by kernel_rfl
theorem q_dz(x0:Bool)(x1:LL)(x2:Int)(x3:LL)(x4:Int):yn [.bool x0,.list x1,.int .i64 x2,.list x3,.int .i64 x4]=ai (F_dz x0 x1 x2 x3 x4):=by kernel_rfl
theorem q_ed(x0:LL)(x1:Int):uw [.list x0,.int .i64 x1]=ai (F_ed x0 x1):=by kernel_rfl
theorem q_fr(x0:Int)(x1:Int)(x2:Int)(x3:Int):yS [.int .i64 x0,.int .i64 x1,.int .i64 x2,.int .i64 x3]=ai (F_fr x0 x1 x2 x3):=by kernel_rfl
theorem q_di(x0:Int):ya [.int .i64 x0]=ai (F_di x0):=by kernel_rfl
theorem q_fb(x0:Bool)(x1:LL)(x2:Int)(x3:LL):yN [.bool x0,.list x1,.int .i64 x2,.list x3]=ai (F_fb x0 x1 x2 x3):=by kernel_rfl
theorem q_fm(x0:LL)(x1:Int)(x2:LL):li [.list x0,.int .i64 x1,.list x2]=ai (F_fm x0 x1 x2):=by kernel_rfl
theorem q_dc(x0:Int)(x1:Int)(x2:LL):yM [.int .i64 x0,.int .i64 x1,.list x2]=ai (F_dc x0 x1 x2):=by kernel_rfl
theorem q_gy(x0:Int)(x1:Int)(x2:Int):bK [.int .i64 x0,.int .i64 x1,.int .i64 x2]=ai (F_gy x0 x1 x2):=by kernel_rfl
theorem q_cm(x0:LL)(x1:Int)(x2:Bool):rt [.list x0,.int .i64 x1,.bool x2]=ai (F_cm x0 x1 x2):=by kernel_rfl
theorem q_af(x0:LL):xU [.list x0]=ai (F_af x0):=by kernel_rfl
theorem q_em(x0:Bool)(x1:LL)(x2:Int)(x3:LL)(x4:Int):y0 [.bool x0,.list x1,.int .i64 x2,.list x3,.int .i64 x4]=ai (F_em x0 x1 x2 x3 x4):=by kernel_rfl
theorem q_ak(x0:LL):xL [.list x0]=ai (F_ak x0):=by kernel_rfl
theorem q_cw(x0:Int)(x1:Int)(x2:Int)(x3:Int):yv [.int .i64 x0,.int .i64 x1,.int .i64 x2,.int .i64 x3]=ai (F_cw x0 x1 x2 x3):=by kernel_rfl
theorem q_eo(x0:Int)(x1:Bool)(x2:Int)(x3:LL)(x4:Int):yO [.int .i64 x0,.bool x1,.int .i64 x2,.list x3,.int .i64 x4]=ai (F_eo x0 x1 x2 x3 x4):=by kernel_rfl
theorem q_fg:xG []=ai (F_fg):=by kernel_rfl
theorem q_ce(x0:Int)(x1:Int)(x2:LL):rq [.int .i64 x0,.int .i64 x1,.list x2]=ai (F_ce x0 x1 x2):=by kernel_rfl
end Dx
