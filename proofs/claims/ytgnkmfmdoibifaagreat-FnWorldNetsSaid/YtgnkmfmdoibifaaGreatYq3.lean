import Derived.Test.YtgnkmfmdoibifaaGreatYb
set_option linter.all false
namespace Dx
open Go
theorem q_de(x0:LL)(x1:Int)(x2:Bool)(x3:LL)(x4:Int)(x5:LL)(x6:LL)(x7:LL):qQ [.list x0,.int .i64 x1,.bool x2,.list x3,.int .i64 x4,.list x5,.list x6,.list x7]=ai (F_de x0 x1 x2 x3 x4 x5 x6 x7):=by kernel_rfl
theorem q_cl(x0:Bool)(x1:LL)(x2:Int)(x3:LL)(x4:Int):qM [.bool x0,.list x1,.int .i64 x2,.list x3,.int .i64 x4]=ai (F_cl x0 x1 x2 x3 x4):=by kernel_rfl
theorem q_ek(x0:LL)(x1:Int):t7 [.list x0,.int .i64 x1]=ai (F_ek x0 x1):=by kernel_rfl
theorem q_fp(x0:Bool)(x1:LL)(x2:Int)(x3:LL)(x4:LL)(x5:LL)(x6:Int)(x7:Int)(x8:Int)(x9:LL):li [.bool x0,.list x1,.int .i64 x2,.list x3,.list x4,.list x5,.int .i64 x6,.int .i64 x7,.int .i64 x8,.list x9]=ai (F_fp x0 x1 x2 x3 x4 x5 x6 x7 x8 x9):=by kernel_rfl
theorem q_cp(x0:Int)(x1:Bool)(x2:Int)(x3:LL)(x4:Int)(x5:Int)(x6:Int)(x7:Int)(x8:Int):uE [.int .i64 x0,.bool x1,.int .i64 x2,.list x3,.int .i64 x4,.int .i64 x5,.int .i64 x6,.int .i64 x7,.int .i64 x8]=ai (F_cp x0 x1 x2 x3 x4 x5 x6 x7 x8):=by kernel_rfl
theorem q_ca(x0:Bool)(x1:LL)(x2:Int)(x3:LL):oY [.bool x0,.list x1,.int .i64 x2,.list x3]=ai (F_ca x0 x1 x2 x3):=by kernel_rfl
theorem q_eo(x0:LL)(x1:Int)(x2:Int)(x3:LL):uo [.list x0,.int .i64 x1,.int .i64 x2,.list x3]=ai (F_eo x0 x1 x2 x3):=by kernel_rfl
theorem q_cj(x0:Bool)(x1:LL)(x2:Int)(x3:LL)(x4:LL)(x5:LL)(x6:Int)(x7:Int)(x8:Int)(x9:LL):uG [.bool x0,.list x1,.int .i64 x2,.list x3,.list x4,.list x5,.int .i64 x6,.int .i64 x7,.int .i64 x8,.list x9]=ai (F_cj x0 x1 x2 x3 x4 x5 x6 x7 x8 x9):=by kernel_rfl
theorem q_dc(x0:Bool)(x1:LL)(x2:Int)(x3:LL)(x4:LL)(x5:LL)(x6:Int):tZ [.bool x0,.list x1,.int .i64 x2,.list x3,.list x4,.list x5,.int .i64 x6]=ai (F_dc x0 x1 x2 x3 x4 x5 x6):=by kernel_rfl
theorem q_cm(x0:Bool)(x1:LL)(x2:Int)(x3:LL)(x4:Int)(x5:Int)(x6:Int)(x7:Int):uu [.bool x0,.list x1,.int .i64 x2,.list x3,.int .i64 x4,.int .i64 x5,.int .i64 x6,.int .i64 x7]=ai (F_cm x0 x1 x2 x3 x4 x5 x6 x7):=by kernel_rfl
theorem q_do(x0:LL):ua [.list x0]=ai (F_do x0):=by kernel_rfl
theorem q_el(x0:Bool)(x1:LL)(x2:Int)(x3:LL)(x4:LL)(x5:LL):iT [.bool x0,.list x1,.int .i64 x2,.list x3,.list x4,.list x5]=ai (F_el x0 x1 x2 x3 x4 x5):=by kernel_rfl
theorem q_dk(x0:Int)(x1:LL)(x2:Int)(x3:Int)(x4:LL):o5 [.int .i64 x0,.list x1,.int .i64 x2,.int .i64 x3,.list x4]=ai (F_dk x0 x1 x2 x3 x4):=by kernel_rfl
theorem q_dj(x0:LL)(x1:Int)(x2:Int)(x3:LL):oQ [.list x0,.int .i64 x1,.int .i64 x2,.list x3]=ai (F_dj x0 x1 x2 x3):=by kernel_rfl
theorem q_bh(x0:Bool)(x1:LL)(x2:Int)(x3:LL)(x4:LL)(x5:LL)(x6:Int)(x7:Int)(x8:Int)(x9:Int):uF [.bool x0,.list x1,.int .i64 x2,.list x3,.list x4,.list x5,.int .i64 x6,.int .i64 x7,.int .i64 x8,.int .i64 x9]=ai (F_bh x0 x1 x2 x3 x4 x5 x6 x7 x8 x9):=by kernel_rfl
theorem q_cv(x0:Bool)(x1:LL)(x2:Int)(x3:LL)(x4:LL):ur [.bool x0,.list x1,.int .i64 x2,.list x3,.list x4]=ai (F_cv x0 x1 x2 x3 x4):=by kernel_rfl
theorem q_aw(x0:LL):eV [.list x0]=ai (F_aw x0):=by kernel_rfl
theorem q_fu(x0:LL):oF [.list x0]=ai (F_fu x0):=by kernel_rfl
theorem q_fm(x0:LL)(x1:Int)(x2:Int)(x3:Int)(x4:LL):oV [.list x0,.int .i64 x1,.int .i64 x2,.int .i64 x3,.list x4]=ai (F_fm x0 x1 x2 x3 x4):=by kernel_rfl
theorem q_fo(x0:LL)(x1:LL):ln [.list x0,.list x1]=ai (F_fo x0 x1):=by kernel_rfl
theorem q_eg(x0:LL)(x1:LL):pa [.list x0,.list x1]=ai (F_eg x0 x1):=by kernel_rfl
theorem q_et(x0:Bool)(x1:LL)(x2:Int)(x3:LL)(x4:LL)(x5:LL)(x6:Int)(x7:Int)(x8:Int)(x9:LL):pb [.bool x0,.list x1,.int .i64 x2,.list x3,.list x4,.list x5,.int .i64 x6,.int .i64 x7,.int .i64 x8,.list x9]=ai (F_et x0 x1 x2 x3 x4 x5 x6 x7 x8 x9):=by kernel_rfl
theorem q_ck(x0:LL)(x1:Int)(x2:Int)(x3:Int):lk [.list x0,.int .i64 x1,.int .i64 x2,.int .i64 x3]=ai (F_ck x0 x1 x2 x3):=by kernel_rfl
theorem q_ee(x0:Int)(x1:LL):o6 [.int .i64 x0,.list x1]=ai (F_ee x0 x1):=by kernel_rfl
theorem q_df(x0:Int)(x1:Int):tQ [.int .i64 x0,.int .i64 x1]=ai (F_df x0 x1):=by kernel_rfl
theorem q_eq(x0:LL)(x1:Int)(x2:Int)(x3:Int)(x4:Int):iP [.list x0,.int .i64 x1,.int .i64 x2,.int .i64 x3,.int .i64 x4]=ai (F_eq x0 x1 x2 x3 x4):=by kernel_rfl
theorem q_at(x0:LL):oT [.list x0]=ai (F_at x0):=by kernel_rfl
theorem q_fk(x0:LL)(x1:Int)(x2:Int):oM [.list x0,.int .i64 x1,.int .i64 x2]=ai (F_fk x0 x1 x2):=by kernel_rfl
theorem q_am(x0:LL):ui [.list x0]=ai (F_am x0):=by kernel_rfl
theorem q_ai(x0:LL):uz [.list x0]=ai (F_ai x0):=by kernel_rfl
theorem q_dr(x0:Int)(x1:Bool)(x2:Int)(x3:LL)(x4:Int)(x5:Bool):oK [.int .i64 x0,.bool x1,.int .i64 x2,.list x3,.int .i64 x4,.bool x5]=ai (F_dr x0 x1 x2 x3 x4 x5):=by kernel_rfl
theorem q_fw(x0:LL)(x1:Int):gC [.list x0,.int .i64 x1]=ai (F_fw x0 x1):=by kernel_rfl
theorem q_fj(x0:Bool)(x1:LL)(x2:Int)(x3:LL)(x4:LL)(x5:LL)(x6:Int)(x7:Int)(x8:Int)(x9:Int):lY [.bool x0,.list x1,.int .i64 x2,.list x3,.list x4,.list x5,.int .i64 x6,.int .i64 x7,.int .i64 x8,.int .i64 x9]=ai (F_fj x0 x1 x2 x3 x4 x5 x6 x7 x8 x9):=by kernel_rfl
theorem q_ch(x0:Int)(x1:Bool)(x2:Int)(x3:LL)(x4:Int)(x5:Int):uM [.int .i64 x0,.bool x1,.int .i64 x2,.list x3,.int .i64 x4,.int .i64 x5]=ai (F_ch x0 x1 x2 x3 x4 x5):=by kernel_rfl
theorem q_dm(x0:LL):oO [.list x0]=ai (F_dm x0):=by kernel_rfl
theorem q_fb(x0:Bool)(x1:LL)(x2:Int)(x3:LL)(x4:Bool)(x5:LL)(x6:Int)(x7:LL):uT [.bool x0,.list x1,.int .i64 x2,.list x3,.bool x4,.list x5,.int .i64 x6,.list x7]=ai (F_fb x0 x1 x2 x3 x4 x5 x6 x7):=by kernel_rfl
theorem q_by(x0:Int)(x1:Bool)(x2:Int)(x3:LL)(x4:Int)(x5:Bool):lp [.int .i64 x0,.bool x1,.int .i64 x2,.list x3,.int .i64 x4,.bool x5]=ai (F_by x0 x1 x2 x3 x4 x5):=by kernel_rfl
theorem q_ex(x0:LL):tN [.list x0]=ai (F_ex x0):=by kernel_rfl
theorem q_ct(x0:Bool)(x1:LL)(x2:Int)(x3:LL)(x4:Bool):ev [.bool x0,.list x1,.int .i64 x2,.list x3,.bool x4]=ai (F_ct x0 x1 x2 x3 x4):=by kernel_rfl
theorem q_en(x0:LL):un [.list x0]=ai (F_en x0):=by kernel_rfl
theorem q_gb(x0:Int)(x1:Int)(x2:Int):bD [.int .i64 x0,.int .i64 x1,.int .i64 x2]=ai (F_gb x0 x1 x2):=by kernel_rfl
theorem q_cz(x0:LL)(x1:Int)(x2:Bool):oU [.list x0,.int .i64 x1,.bool x2]=ai (F_cz x0 x1 x2):=by kernel_rfl
theorem q_bi(x0:Bool)(x1:LL)(x2:Int)(x3:LL):gF [.bool x0,.list x1,.int .i64 x2,.list x3]=ai (F_bi x0 x1 x2 x3):=by kernel_rfl
theorem q_af(x0:LL):uZ [.list x0]=ai (F_af x0):=by kernel_rfl
theorem q_al(x0:LL):ud [.list x0]=ai (F_al x0):=by kernel_rfl
theorem q_cf(x0:Int)(x1:Int)(x2:Int)(x3:Int):uX [.int .i64 x0,.int .i64 x1,.int .i64 x2,.int .i64 x3]=ai (F_cf x0 x1 x2 x3):=by kernel_rfl
theorem q_bc(x0:Int)(x1:Bool)(x2:Int)(x3:LL)(x4:Int):iS [.int .i64 x0,.bool x1,.int .i64 x2,.list x3,.int .i64 x4]=ai (F_bc x0 x1 x2 x3 x4):=by kernel_rfl
theorem q_cu(x0:Int)(x1:Int):uy [.int .i64 x0,.int .i64 x1]=ai (F_cu x0 x1):=by kernel_rfl
theorem q_eh(x0:Int):fl [.int .i64 x0]=ai (F_eh x0):=by kernel_rfl
theorem q_bj(x0:Int)(x1:Int)(x2:Int)(x3:Int):iQ [.int .i64 x0,.int .i64 x1,.int .i64 x2,.int .i64 x3]=ai (F_bj x0 x1 x2 x3):=by kernel_rfl
end Dx
