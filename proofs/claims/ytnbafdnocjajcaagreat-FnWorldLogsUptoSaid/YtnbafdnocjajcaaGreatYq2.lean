/- The typed texts are the trees'. -/
import Derived.Test.YtnbafdnocjajcaaGreatYb
set_option linter.all false
set_option linter.unusedVariables false
set_option linter.unusedSimpArgs false
set_option linter.unnecessarySimpa false
namespace Dx
open Go
theorem q_spec_l72Event (x0 : LL) (x1 : Int) (x2 : Bool) (x3 : LL) (x4 : Int) (x5 : LL) (x6 : LL) (x7 : LL) : φ_spec_l72Event [C.list x0, C.int .i64 x1, C.bool x2, C.list x3, C.int .i64 x4, C.list x5, C.list x6, C.list x7] = retOf (F_spec_l72Event x0 x1 x2 x3 x4 x5 x6 x7) := by kernel_rfl
theorem q_spec_l72Play (x0 : LL) (x1 : Int) : φ_spec_l72Play [C.list x0, C.int .i64 x1] = retOf (F_spec_l72Play x0 x1) := by kernel_rfl
theorem q_spec_l13Words (x0 : Bool) (x1 : LL) (x2 : Int) (x3 : LL) : φ_spec_l13Words [C.bool x0, C.list x1, C.int .i64 x2, C.list x3] = retOf (F_spec_l13Words x0 x1 x2 x3) := by kernel_rfl
theorem q_impl_House_answerTo (x0 : Int) (x1 : Bool) (x2 : Int) (x3 : LL) (x4 : Int) (x5 : Int) (x6 : Int) (x7 : Int) (x8 : Int) : φ_impl_House_answerTo [C.int .i64 x0, C.bool x1, C.int .i64 x2, C.list x3, C.int .i64 x4, C.int .i64 x5, C.int .i64 x6, C.int .i64 x7, C.int .i64 x8] = retOf (F_impl_House_answerTo x0 x1 x2 x3 x4 x5 x6 x7 x8) := by kernel_rfl
theorem q_impl_HouseHear (x0 : Int) (x1 : Bool) (x2 : Int) (x3 : LL) (x4 : Int) (x5 : Int) (x6 : Int) (x7 : Int) (x8 : Int) : φ_impl_HouseHear [C.int .i64 x0, C.bool x1, C.int .i64 x2, C.list x3, C.int .i64 x4, C.int .i64 x5, C.int .i64 x6, C.int .i64 x7, C.int .i64 x8] = retOf (F_impl_HouseHear x0 x1 x2 x3 x4 x5 x6 x7 x8) := by kernel_rfl
theorem q_spec_l21Desk (x0 : Bool) (x1 : LL) (x2 : Int) (x3 : LL) (x4 : LL) (x5 : LL) (x6 : Int) (x7 : Int) (x8 : Int) (x9 : LL) : φ_spec_l21Desk [C.bool x0, C.list x1, C.int .i64 x2, C.list x3, C.list x4, C.list x5, C.int .i64 x6, C.int .i64 x7, C.int .i64 x8, C.list x9] = retOf (F_spec_l21Desk x0 x1 x2 x3 x4 x5 x6 x7 x8 x9) := by kernel_rfl
theorem q_spec_l11Answer (x0 : Int) (x1 : Bool) (x2 : Int) (x3 : LL) (x4 : Int) (x5 : Int) (x6 : Int) (x7 : Int) (x8 : Int) (x9 : Int) : φ_spec_l11Answer [C.int .i64 x0, C.bool x1, C.int .i64 x2, C.list x3, C.int .i64 x4, C.int .i64 x5, C.int .i64 x6, C.int .i64 x7, C.int .i64 x8, C.int .i64 x9] = retOf (F_spec_l11Answer x0 x1 x2 x3 x4 x5 x6 x7 x8 x9) := by kernel_rfl
theorem q_impl_DeskOk (x0 : Bool) (x1 : LL) (x2 : Int) (x3 : LL) : φ_impl_DeskOk [C.bool x0, C.list x1, C.int .i64 x2, C.list x3] = retOf (F_impl_DeskOk x0 x1 x2 x3) := by kernel_rfl
theorem q_spec_l21Force (x0 : Bool) (x1 : LL) (x2 : Int) (x3 : LL) (x4 : LL) (x5 : LL) (x6 : Int) : φ_spec_l21Force [C.bool x0, C.list x1, C.int .i64 x2, C.list x3, C.list x4, C.list x5, C.int .i64 x6] = retOf (F_spec_l21Force x0 x1 x2 x3 x4 x5 x6) := by kernel_rfl
theorem q_impl_WorldNew (x0 : LL) : φ_impl_WorldNew [C.list x0] = retOf (F_impl_WorldNew x0) := by kernel_rfl
theorem q_spec_WorldPlay (x0 : LL) (x1 : LL) : φ_spec_WorldPlay [C.list x0, C.list x1] = retOf (F_spec_WorldPlay x0 x1) := by kernel_rfl
theorem q_laws_lnWorld (x0 : Bool) (x1 : LL) (x2 : Int) (x3 : LL) (x4 : LL) (x5 : LL) (x6 : Bool) (x7 : LL) (x8 : Int) (x9 : LL) (x10 : LL) (x11 : LL) : φ_laws_lnWorld [C.bool x0, C.list x1, C.int .i64 x2, C.list x3, C.list x4, C.list x5, C.bool x6, C.list x7, C.int .i64 x8, C.list x9, C.list x10, C.list x11] = retOf (F_laws_lnWorld x0 x1 x2 x3 x4 x5 x6 x7 x8 x9 x10 x11) := by kernel_rfl
theorem q_spec_l2Do (x0 : Int) (x1 : LL) (x2 : Int) (x3 : Int) (x4 : LL) : φ_spec_l2Do [C.int .i64 x0, C.list x1, C.int .i64 x2, C.int .i64 x3, C.list x4] = retOf (F_spec_l2Do x0 x1 x2 x3 x4) := by kernel_rfl
theorem q_impl_StockDo (x0 : Int) (x1 : LL) (x2 : Int) (x3 : Int) (x4 : LL) : φ_impl_StockDo [C.int .i64 x0, C.list x1, C.int .i64 x2, C.int .i64 x3, C.list x4] = retOf (F_impl_StockDo x0 x1 x2 x3 x4) := by kernel_rfl
theorem q_spec_l12May (x0 : LL) (x1 : Int) (x2 : Int) (x3 : LL) : φ_spec_l12May [C.list x0, C.int .i64 x1, C.int .i64 x2, C.list x3] = retOf (F_spec_l12May x0 x1 x2 x3) := by kernel_rfl
theorem q_spec_l12Of (x0 : LL) : φ_spec_l12Of [C.list x0] = retOf (F_spec_l12Of x0) := by kernel_rfl
theorem q_impl_World_each_impl_DeskRise_impl_HouseRise (x0 : Bool) (x1 : LL) (x2 : Int) (x3 : LL) (x4 : LL) (x5 : LL) (x6 : Int) : φ_impl_World_each_impl_DeskRise_impl_HouseRise [C.bool x0, C.list x1, C.int .i64 x2, C.list x3, C.list x4, C.list x5, C.int .i64 x6] = retOf (F_impl_World_each_impl_DeskRise_impl_HouseRise x0 x1 x2 x3 x4 x5 x6) := by kernel_rfl
theorem q_spec_RecOk (x0 : Int) (x1 : Int) (x2 : LL) : φ_spec_RecOk [C.int .i64 x0, C.int .i64 x1, C.list x2] = retOf (F_spec_RecOk x0 x1 x2) := by kernel_rfl
theorem q_laws_lnRecs (x0 : LL) (x1 : LL) : φ_laws_lnRecs [C.list x0, C.list x1] = retOf (F_laws_lnRecs x0 x1) := by kernel_rfl
theorem q_impl_Stock_free (x0 : Int) (x1 : LL) : φ_impl_Stock_free [C.int .i64 x0, C.list x1] = retOf (F_impl_Stock_free x0 x1) := by kernel_rfl
theorem q_spec_WordOk (x0 : Int) (x1 : Int) (x2 : Int) (x3 : Int) : φ_spec_WordOk [C.int .i64 x0, C.int .i64 x1, C.int .i64 x2, C.int .i64 x3] = retOf (F_spec_WordOk x0 x1 x2 x3) := by kernel_rfl
theorem q_impl_StockOf (x0 : Int) (x1 : LL) : φ_impl_StockOf [C.int .i64 x0, C.list x1] = retOf (F_impl_StockOf x0 x1) := by kernel_rfl
theorem q_spec_l13Write (x0 : Bool) (x1 : LL) (x2 : Int) (x3 : LL) (x4 : Int) (x5 : Int) (x6 : LL) : φ_spec_l13Write [C.bool x0, C.list x1, C.int .i64 x2, C.list x3, C.int .i64 x4, C.int .i64 x5, C.list x6] = retOf (F_spec_l13Write x0 x1 x2 x3 x4 x5 x6) := by kernel_rfl
theorem q_impl_StockOk (x0 : Int) (x1 : LL) : φ_impl_StockOk [C.int .i64 x0, C.list x1] = retOf (F_impl_StockOk x0 x1) := by kernel_rfl
theorem q_spec_l13Told (x0 : LL) (x1 : Int) (x2 : Int) (x3 : Int) (x4 : Int) : φ_spec_l13Told [C.list x0, C.int .i64 x1, C.int .i64 x2, C.int .i64 x3, C.int .i64 x4] = retOf (F_spec_l13Told x0 x1 x2 x3 x4) := by kernel_rfl
theorem q_slices_Clone_impl_Word (x0 : LL) : φ_slices_Clone_impl_Word [C.list x0] = retOf (F_slices_Clone_impl_Word x0) := by kernel_rfl
theorem q_impl_LogFall (x0 : LL) (x1 : Int) (x2 : Int) : φ_impl_LogFall [C.list x0, C.int .i64 x1, C.int .i64 x2] = retOf (F_impl_LogFall x0 x1 x2) := by kernel_rfl
theorem q_slices_IndexFunc_impl_Trip_impl_TripsOk_1 (x0 : LL) : φ_slices_IndexFunc_impl_Trip_impl_TripsOk_1 [C.list x0] = retOf (F_slices_IndexFunc_impl_Trip_impl_TripsOk_1 x0) := by kernel_rfl
theorem q_slices_IndexFunc_impl_Hold_impl_StockOk_1 (x0 : LL) : φ_slices_IndexFunc_impl_Hold_impl_StockOk_1 [C.list x0] = retOf (F_slices_IndexFunc_impl_Hold_impl_StockOk_1 x0) := by kernel_rfl
theorem q_spec_l11Stock (x0 : Int) (x1 : Bool) (x2 : Int) (x3 : LL) (x4 : Int) (x5 : Bool) : φ_spec_l11Stock [C.int .i64 x0, C.bool x1, C.int .i64 x2, C.list x3, C.int .i64 x4, C.bool x5] = retOf (F_spec_l11Stock x0 x1 x2 x3 x4 x5) := by kernel_rfl
theorem q_impl_World_send (x0 : Bool) (x1 : LL) (x2 : Int) (x3 : LL) (x4 : LL) (x5 : LL) (x6 : Int) (x7 : Int) (x8 : Int) (x9 : Int) : φ_impl_World_send [C.bool x0, C.list x1, C.int .i64 x2, C.list x3, C.list x4, C.list x5, C.int .i64 x6, C.int .i64 x7, C.int .i64 x8, C.int .i64 x9] = retOf (F_impl_World_send x0 x1 x2 x3 x4 x5 x6 x7 x8 x9) := by kernel_rfl
theorem q_impl_HouseOk (x0 : Int) (x1 : Bool) (x2 : Int) (x3 : LL) (x4 : Int) : φ_impl_HouseOk [C.int .i64 x0, C.bool x1, C.int .i64 x2, C.list x3, C.int .i64 x4] = retOf (F_impl_HouseOk x0 x1 x2 x3 x4) := by kernel_rfl
theorem q_impl_wantedOk (x0 : LL) : φ_impl_wantedOk [C.list x0] = retOf (F_impl_wantedOk x0) := by kernel_rfl
theorem q_spec_l72Rooms (x0 : LL) (x1 : Int) : φ_spec_l72Rooms [C.list x0, C.int .i64 x1] = retOf (F_spec_l72Rooms x0 x1) := by kernel_rfl
theorem q_laws_lnRec (x0 : Int) (x1 : Int) (x2 : LL) (x3 : Int) (x4 : Int) (x5 : LL) : φ_laws_lnRec [C.int .i64 x0, C.int .i64 x1, C.list x2, C.int .i64 x3, C.int .i64 x4, C.list x5] = retOf (F_laws_lnRec x0 x1 x2 x3 x4 x5) := by kernel_rfl
theorem q_impl_StockNew (x0 : Int) : φ_impl_StockNew [C.int .i64 x0] = retOf (F_impl_StockNew x0) := by kernel_rfl
theorem q_impl_TripsOk_1 (x0 : LL) (x1 : Int) : φ_impl_TripsOk_1 [C.list x0, C.int .i64 x1] = retOf (F_impl_TripsOk_1 x0 x1) := by kernel_rfl
theorem q_impl_World_do_2 (x0 : Int) (x1 : Bool) (x2 : Int) (x3 : LL) (x4 : Int) (x5 : Int) (x6 : Int) (x7 : Int) (x8 : LL) : φ_impl_World_do_2 [C.int .i64 x0, C.bool x1, C.int .i64 x2, C.list x3, C.int .i64 x4, C.int .i64 x5, C.int .i64 x6, C.int .i64 x7, C.list x8] = retOf (F_impl_World_do_2 x0 x1 x2 x3 x4 x5 x6 x7 x8) := by kernel_rfl
theorem q_spec_l6In (x0 : Int) (x1 : Int) (x2 : Int) : φ_spec_l6In [C.int .i64 x0, C.int .i64 x1, C.int .i64 x2] = retOf (F_spec_l6In x0 x1 x2) := by kernel_rfl
theorem q_impl_World_do_1 (x0 : Bool) (x1 : LL) (x2 : Int) (x3 : LL) (x4 : Int) (x5 : Int) (x6 : Int) (x7 : LL) : φ_impl_World_do_1 [C.bool x0, C.list x1, C.int .i64 x2, C.list x3, C.int .i64 x4, C.int .i64 x5, C.int .i64 x6, C.list x7] = retOf (F_impl_World_do_1 x0 x1 x2 x3 x4 x5 x6 x7) := by kernel_rfl
theorem q_spec_l13Fall (x0 : Bool) (x1 : LL) (x2 : Int) (x3 : LL) (x4 : Int) : φ_spec_l13Fall [C.bool x0, C.list x1, C.int .i64 x2, C.list x3, C.int .i64 x4] = retOf (F_spec_l13Fall x0 x1 x2 x3 x4) := by kernel_rfl
theorem q_slices_ContainsFunc_impl_Hold_impl_StockOk_1 (x0 : LL) : φ_slices_ContainsFunc_impl_Hold_impl_StockOk_1 [C.list x0] = retOf (F_slices_ContainsFunc_impl_Hold_impl_StockOk_1 x0) := by kernel_rfl
theorem q_slices_ContainsFunc_int_impl_wantedOk_2 (x0 : LL) : φ_slices_ContainsFunc_int_impl_wantedOk_2 [C.list x0] = retOf (F_slices_ContainsFunc_int_impl_wantedOk_2 x0) := by kernel_rfl
theorem q_impl_wantedOk_1 (x0 : Int) : φ_impl_wantedOk_1 [C.int .i64 x0] = retOf (F_impl_wantedOk_1 x0) := by kernel_rfl
theorem q_impl_StockOk_1 (x0 : Int) (x1 : Int) : φ_impl_StockOk_1 [C.int .i64 x0, C.int .i64 x1] = retOf (F_impl_StockOk_1 x0 x1) := by kernel_rfl
theorem q_impl_Rec_copied (x0 : Int) (x1 : Int) (x2 : LL) : φ_impl_Rec_copied [C.int .i64 x0, C.int .i64 x1, C.list x2] = retOf (F_impl_Rec_copied x0 x1 x2) := by kernel_rfl
theorem q_impl_isTrip (x0 : Int) : φ_impl_isTrip [C.int .i64 x0] = retOf (F_impl_isTrip x0) := by kernel_rfl
end Dx
