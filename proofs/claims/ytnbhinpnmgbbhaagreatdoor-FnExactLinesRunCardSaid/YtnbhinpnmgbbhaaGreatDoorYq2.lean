import Derived.Test.YtnbhinpnmgbbhaaGreatDoorYb
set_option linter.all false
namespace Dx
open Go
theorem q_ei(x0:LL)(x1:Int):xM [.list x0,.int .i64 x1]=ai (F_ei x0 x1):=by kernel_rfl
theorem q_fe(x0:Bool)(x1:LL)(x2:Int)(x3:LL)(x4:LL)(x5:LL)(x6:Int)(x7:LL)(x8:Int):y4 [.bool x0,.list x1,.int .i64 x2,.list x3,.list x4,.list x5,.int .i64 x6,.list x7,.int .i64 x8]=ai (F_fe x0 x1 x2 x3 x4 x5 x6 x7 x8):=by kernel_rfl
theorem q_by(x0:Bool)(x1:LL)(x2:Int)(x3:LL)(x4:LL)(x5:LL)(x6:LL):uW [.bool x0,.list x1,.int .i64 x2,.list x3,.list x4,.list x5,.list x6]=ai (F_by x0 x1 x2 x3 x4 x5 x6):=by kernel_rfl
theorem q_fj(x0:Int)(x1:Bool)(x2:Int)(x3:LL)(x4:Int)(x5:Int)(x6:Int)(x7:Int)(x8:Int):y1 [.int .i64 x0,.bool x1,.int .i64 x2,.list x3,.int .i64 x4,.int .i64 x5,.int .i64 x6,.int .i64 x7,.int .i64 x8]=ai (F_fj x0 x1 x2 x3 x4 x5 x6 x7 x8):=by kernel_rfl
theorem q_ep(x0:Bool)(x1:LL)(x2:Int)(x3:LL)(x4:LL)(x5:LL):y2 [.bool x0,.list x1,.int .i64 x2,.list x3,.list x4,.list x5]=ai (F_ep x0 x1 x2 x3 x4 x5):=by kernel_rfl
theorem q_ax(x0:Int)(x1:Bool)(x2:Int)(x3:LL)(x4:Int)(x5:Int)(x6:Int)(x7:Int)(x8:Int):yr [.int .i64 x0,.bool x1,.int .i64 x2,.list x3,.int .i64 x4,.int .i64 x5,.int .i64 x6,.int .i64 x7,.int .i64 x8]=ai (F_ax x0 x1 x2 x3 x4 x5 x6 x7 x8):=by kernel_rfl
theorem q_cb(x0:Bool)(x1:LL)(x2:Int)(x3:LL)(x4:LL)(x5:LL):yJ [.bool x0,.list x1,.int .i64 x2,.list x3,.list x4,.list x5]=ai (F_cb x0 x1 x2 x3 x4 x5):=by kernel_rfl
theorem q_ba(x0:LL):ij [.list x0]=ai (F_ba x0):=by kernel_rfl
theorem q_fb(x0:LL)(x1:Int)(x2:Int)(x3:LL):yf [.list x0,.int .i64 x1,.int .i64 x2,.list x3]=ai (F_fb x0 x1 x2 x3):=by kernel_rfl
theorem q_dh(x0:LL)(x1:ByteArray):eY [.list x0,.str x1]=ai (F_dh x0 x1):=by kernel_rfl
theorem q_gc(x0:Bool)(x1:LL)(x2:Int)(x3:LL):gC [.bool x0,.list x1,.int .i64 x2,.list x3]=ai (F_gc x0 x1 x2 x3):=by kernel_rfl
theorem q_gv(x0:ByteArray):yQ [.str x0]=ai (F_gv x0):=by kernel_rfl
theorem q_db(x0:Bool)(x1:LL)(x2:Int)(x3:LL)(x4:Int)(x5:Int)(x6:Int)(x7:Int):nt [.bool x0,.list x1,.int .i64 x2,.list x3,.int .i64 x4,.int .i64 x5,.int .i64 x6,.int .i64 x7]=ai (F_db x0 x1 x2 x3 x4 x5 x6 x7):=by kernel_rfl
theorem q_ea(x0:LL):yP [.list x0]=ai (F_ea x0):=by kernel_rfl
theorem q_cc(x0:Bool)(x1:LL)(x2:Int)(x3:LL)(x4:LL)(x5:LL):yM [.bool x0,.list x1,.int .i64 x2,.list x3,.list x4,.list x5]=ai (F_cc x0 x1 x2 x3 x4 x5):=by kernel_rfl
theorem q_cr(x0:Bool)(x1:LL)(x2:Int)(x3:LL)(x4:LL)(x5:LL)(x6:Int):uR [.bool x0,.list x1,.int .i64 x2,.list x3,.list x4,.list x5,.int .i64 x6]=ai (F_cr x0 x1 x2 x3 x4 x5 x6):=by kernel_rfl
theorem q_bx(x0:Bool)(x1:LL)(x2:Int)(x3:LL)(x4:Int)(x5:Int)(x6:LL):ot [.bool x0,.list x1,.int .i64 x2,.list x3,.int .i64 x4,.int .i64 x5,.list x6]=ai (F_bx x0 x1 x2 x3 x4 x5 x6):=by kernel_rfl
theorem q_en(x0:Bool)(x1:LL)(x2:Int)(x3:LL)(x4:LL)(x5:LL)(x6:Int)(x7:Int)(x8:Int)(x9:Int):ox [.bool x0,.list x1,.int .i64 x2,.list x3,.list x4,.list x5,.int .i64 x6,.int .i64 x7,.int .i64 x8,.int .i64 x9]=ai (F_en x0 x1 x2 x3 x4 x5 x6 x7 x8 x9):=by kernel_rfl
theorem q_aa(x0:Bool)(x1:LL)(x2:Int)(x3:LL)(x4:LL)(x5:LL)(x6:Int)(x7:Int)(x8:Int)(x9:Int)(x10:LL)(x11:Int)(x12:Int)(x13:Int)(x14:LL):yA [.bool x0,.list x1,.int .i64 x2,.list x3,.list x4,.list x5,.int .i64 x6,.int .i64 x7,.int .i64 x8,.int .i64 x9,.list x10,.int .i64 x11,.int .i64 x12,.int .i64 x13,.list x14]=ai (Jo x0 x1 x2 x3 x4 x5 x6 x7 x8 x9 x10 x11 x12 x13 x14):=by kernel_rfl
theorem q_bo(x0:Bool)(x1:LL)(x2:Int)(x3:LL)(x4:LL)(x5:LL)(x6:Int)(x7:Int)(x8:Int)(x9:Int):uN [.bool x0,.list x1,.int .i64 x2,.list x3,.list x4,.list x5,.int .i64 x6,.int .i64 x7,.int .i64 x8,.int .i64 x9]=ai (F_bo x0 x1 x2 x3 x4 x5 x6 x7 x8 x9):=by kernel_rfl
theorem q_ft(x0:ByteArray)(x1:Int):xN [.str x0,.int .i64 x1]=ai (F_ft x0 x1):=by kernel_rfl
theorem q_ab(x0:Bool)(x1:LL)(x2:Int)(x3:LL)(x4:LL)(x5:LL)(x6:Int):rK [.bool x0,.list x1,.int .i64 x2,.list x3,.list x4,.list x5,.int .i64 x6]=ai (Jh x0 x1 x2 x3 x4 x5 x6):=by kernel_rfl
theorem q_gr(x0:LL):nA [.list x0]=ai (F_gr x0):=by kernel_rfl
theorem q_fw(x0:ByteArray)(x1:LL):jp [.str x0,.list x1]=ai (F_fw x0 x1):=by kernel_rfl
theorem q_dz(x0:Bool)(x1:LL)(x2:Int)(x3:LL)(x4:Int):yi [.bool x0,.list x1,.int .i64 x2,.list x3,.int .i64 x4]=ai (F_dz x0 x1 x2 x3 x4):=by kernel_rfl
theorem q_gi(x0:LL):yR [.list x0]=ai (F_gi x0):=by kernel_rfl
theorem q_fq(x0:Bool)(x1:LL)(x2:Int)(x3:LL)(x4:Int)(x5:LL)(x6:Int):yY [.bool x0,.list x1,.int .i64 x2,.list x3,.int .i64 x4,.list x5,.int .i64 x6]=ai (F_fq x0 x1 x2 x3 x4 x5 x6):=by kernel_rfl
theorem q_cx(x0:LL)(x1:Int)(x2:Int)(x3:Int):nq [.list x0,.int .i64 x1,.int .i64 x2,.int .i64 x3]=ai (F_cx x0 x1 x2 x3):=by kernel_rfl
theorem q_bv(x0:Bool)(x1:LL)(x2:Int)(x3:LL)(x4:Int)(x5:Int)(x6:LL):im [.bool x0,.list x1,.int .i64 x2,.list x3,.int .i64 x4,.int .i64 x5,.list x6]=ai (F_bv x0 x1 x2 x3 x4 x5 x6):=by kernel_rfl
theorem q_do(x0:Int)(x1:Int):yO [.int .i64 x0,.int .i64 x1]=ai (F_do x0 x1):=by kernel_rfl
theorem q_ef(x0:Int)(x1:LL):yo [.int .i64 x0,.list x1]=ai (F_ef x0 x1):=by kernel_rfl
theorem q_fl:y5 []=ai (F_fl):=by kernel_rfl
theorem q_cq(x0:Bool)(x1:LL)(x2:Int)(x3:LL):yu [.bool x0,.list x1,.int .i64 x2,.list x3]=ai (F_cq x0 x1 x2 x3):=by kernel_rfl
theorem q_fm(x0:LL)(x1:Int)(x2:Int):rL [.list x0,.int .i64 x1,.int .i64 x2]=ai (F_fm x0 x1 x2):=by kernel_rfl
theorem q_am(x0:LL):xY [.list x0]=ai (F_am x0):=by kernel_rfl
theorem q_bj(x0:LL):oq [.list x0]=ai (F_bj x0):=by kernel_rfl
theorem q_ao(x0:LL):xS [.list x0]=ai (F_ao x0):=by kernel_rfl
theorem q_gk(x0:LL)(x1:Int):iH [.list x0,.int .i64 x1]=ai (F_gk x0 x1):=by kernel_rfl
theorem q_ge(x0:Bool)(x1:LL)(x2:Int)(x3:LL)(x4:LL)(x5:LL)(x6:Int)(x7:Int)(x8:Int)(x9:Int):oy [.bool x0,.list x1,.int .i64 x2,.list x3,.list x4,.list x5,.int .i64 x6,.int .i64 x7,.int .i64 x8,.int .i64 x9]=ai (F_ge x0 x1 x2 x3 x4 x5 x6 x7 x8 x9):=by kernel_rfl
theorem q_ed(x0:Bool)(x1:LL)(x2:Int)(x3:LL)(x4:Int):yw [.bool x0,.list x1,.int .i64 x2,.list x3,.int .i64 x4]=ai (F_ed x0 x1 x2 x3 x4):=by kernel_rfl
theorem q_dx(x0:LL)(x1:Int):uE [.list x0,.int .i64 x1]=ai (F_dx x0 x1):=by kernel_rfl
theorem q_fp(x0:Int)(x1:Int)(x2:Int)(x3:Int):y0 [.int .i64 x0,.int .i64 x1,.int .i64 x2,.int .i64 x3]=ai (F_fp x0 x1 x2 x3):=by kernel_rfl
theorem q_dm(x0:Int):yj [.int .i64 x0]=ai (F_dm x0):=by kernel_rfl
theorem q_ff(x0:Bool)(x1:LL)(x2:Int)(x3:LL):yV [.bool x0,.list x1,.int .i64 x2,.list x3]=ai (F_ff x0 x1 x2 x3):=by kernel_rfl
theorem q_ez(x0:LL)(x1:Int)(x2:LL):ll [.list x0,.int .i64 x1,.list x2]=ai (F_ez x0 x1 x2):=by kernel_rfl
theorem q_de(x0:Int)(x1:Int)(x2:LL):yU [.int .i64 x0,.int .i64 x1,.list x2]=ai (F_de x0 x1 x2):=by kernel_rfl
theorem q_gy(x0:Int)(x1:Int)(x2:Int):bK [.int .i64 x0,.int .i64 x1,.int .i64 x2]=ai (F_gy x0 x1 x2):=by kernel_rfl
theorem q_cy(x0:LL)(x1:Int)(x2:Bool):rD [.list x0,.int .i64 x1,.bool x2]=ai (F_cy x0 x1 x2):=by kernel_rfl
theorem q_ae(x0:LL):yc [.list x0]=ai (F_ae x0):=by kernel_rfl
theorem q_ey(x0:Bool)(x1:LL)(x2:Int)(x3:LL)(x4:Int):y8 [.bool x0,.list x1,.int .i64 x2,.list x3,.int .i64 x4]=ai (F_ey x0 x1 x2 x3 x4):=by kernel_rfl
theorem q_al(x0:LL):xT [.list x0]=ai (F_al x0):=by kernel_rfl
theorem q_da(x0:Int)(x1:Int)(x2:Int)(x3:Int):yD [.int .i64 x0,.int .i64 x1,.int .i64 x2,.int .i64 x3]=ai (F_da x0 x1 x2 x3):=by kernel_rfl
theorem q_fg(x0:Int)(x1:Bool)(x2:Int)(x3:LL)(x4:Int):yW [.int .i64 x0,.bool x1,.int .i64 x2,.list x3,.int .i64 x4]=ai (F_fg x0 x1 x2 x3 x4):=by kernel_rfl
theorem q_ee:xO []=ai (F_ee):=by kernel_rfl
theorem q_ch(x0:Int)(x1:Int)(x2:LL):rB [.int .i64 x0,.int .i64 x1,.list x2]=ai (F_ch x0 x1 x2):=by kernel_rfl
end Dx
