/- The typed texts are the trees'. -/
import Derived.Test.YtnbafdnocjajcaaGreatYb
set_option linter.all false
set_option linter.unusedVariables false
set_option linter.unusedSimpArgs false
set_option linter.unnecessarySimpa false
namespace Dx
open Go
theorem q_spec_l21Take (x0 : Bool) (x1 : LL) (x2 : Int) (x3 : LL) (x4 : LL) (x5 : LL) (x6 : Int) : φ_spec_l21Take [C.bool x0, C.list x1, C.int .i64 x2, C.list x3, C.list x4, C.list x5, C.int .i64 x6] = retOf (F_spec_l21Take x0 x1 x2 x3 x4 x5 x6) := by kernel_rfl
theorem q_impl_TripsDo (x0 : LL) (x1 : Int) (x2 : Int) (x3 : LL) : φ_impl_TripsDo [C.list x0, C.int .i64 x1, C.int .i64 x2, C.list x3] = retOf (F_impl_TripsDo x0 x1 x2 x3) := by kernel_rfl
theorem q_impl_RecOk (x0 : Int) (x1 : Int) (x2 : LL) : φ_impl_RecOk [C.int .i64 x0, C.int .i64 x1, C.list x2] = retOf (F_impl_RecOk x0 x1 x2) := by kernel_rfl
theorem q_spec_l12Do (x0 : LL) (x1 : Int) (x2 : Int) (x3 : LL) : φ_spec_l12Do [C.list x0, C.int .i64 x1, C.int .i64 x2, C.list x3] = retOf (F_spec_l12Do x0 x1 x2 x3) := by kernel_rfl
theorem q_spec_WorldNew (x0 : LL) : φ_spec_WorldNew [C.list x0] = retOf (F_spec_WorldNew x0) := by kernel_rfl
theorem q_spec_l13Hear (x0 : Bool) (x1 : LL) (x2 : Int) (x3 : LL) (x4 : Int) (x5 : Int) (x6 : Int) (x7 : Int) : φ_spec_l13Hear [C.bool x0, C.list x1, C.int .i64 x2, C.list x3, C.int .i64 x4, C.int .i64 x5, C.int .i64 x6, C.int .i64 x7] = retOf (F_spec_l13Hear x0 x1 x2 x3 x4 x5 x6 x7) := by kernel_rfl
theorem q_impl_Desk_tally (x0 : Bool) (x1 : LL) (x2 : Int) (x3 : LL) (x4 : Int) (x5 : Int) (x6 : LL) : φ_impl_Desk_tally [C.bool x0, C.list x1, C.int .i64 x2, C.list x3, C.int .i64 x4, C.int .i64 x5, C.list x6] = retOf (F_impl_Desk_tally x0 x1 x2 x3 x4 x5 x6) := by kernel_rfl
theorem q_impl_TripsMay (x0 : LL) (x1 : Int) (x2 : Int) (x3 : LL) : φ_impl_TripsMay [C.list x0, C.int .i64 x1, C.int .i64 x2, C.list x3] = retOf (F_impl_TripsMay x0 x1 x2 x3) := by kernel_rfl
theorem q_impl_World_heard (x0 : Bool) (x1 : LL) (x2 : Int) (x3 : LL) (x4 : LL) (x5 : LL) (x6 : Int) (x7 : Int) (x8 : Int) (x9 : Int) : φ_impl_World_heard [C.bool x0, C.list x1, C.int .i64 x2, C.list x3, C.list x4, C.list x5, C.int .i64 x6, C.int .i64 x7, C.int .i64 x8, C.int .i64 x9] = retOf (F_impl_World_heard x0 x1 x2 x3 x4 x5 x6 x7 x8 x9) := by kernel_rfl
theorem q_impl_WordOk (x0 : Int) (x1 : Int) (x2 : Int) (x3 : Int) : φ_impl_WordOk [C.int .i64 x0, C.int .i64 x1, C.int .i64 x2, C.int .i64 x3] = retOf (F_impl_WordOk x0 x1 x2 x3) := by kernel_rfl
theorem q_impl_DeskBegin (x0 : Bool) (x1 : LL) (x2 : Int) (x3 : LL) (x4 : LL) : φ_impl_DeskBegin [C.bool x0, C.list x1, C.int .i64 x2, C.list x3, C.list x4] = retOf (F_impl_DeskBegin x0 x1 x2 x3 x4) := by kernel_rfl
theorem q_spec_l2May (x0 : Int) (x1 : LL) (x2 : Int) (x3 : Int) (x4 : LL) : φ_spec_l2May [C.int .i64 x0, C.list x1, C.int .i64 x2, C.int .i64 x3, C.list x4] = retOf (F_spec_l2May x0 x1 x2 x3 x4) := by kernel_rfl
theorem q_impl_LogAdd (x0 : LL) (x1 : Int) (x2 : Int) (x3 : Int) (x4 : LL) : φ_impl_LogAdd [C.list x0, C.int .i64 x1, C.int .i64 x2, C.int .i64 x3, C.list x4] = retOf (F_impl_LogAdd x0 x1 x2 x3 x4) := by kernel_rfl
theorem q_laws_lnWords (x0 : LL) (x1 : LL) : φ_laws_lnWords [C.list x0, C.list x1] = retOf (F_laws_lnWords x0 x1) := by kernel_rfl
theorem q_spec_l13Any (x0 : Bool) (x1 : LL) (x2 : Int) (x3 : LL) (x4 : Int) (x5 : LL) (x6 : Int) : φ_spec_l13Any [C.bool x0, C.list x1, C.int .i64 x2, C.list x3, C.int .i64 x4, C.list x5, C.int .i64 x6] = retOf (F_spec_l13Any x0 x1 x2 x3 x4 x5 x6) := by kernel_rfl
theorem q_impl_Log_first (x0 : LL) (x1 : Int) (x2 : Int) (x3 : Int) : φ_impl_Log_first [C.list x0, C.int .i64 x1, C.int .i64 x2, C.int .i64 x3] = retOf (F_impl_Log_first x0 x1 x2 x3) := by kernel_rfl
theorem q_impl_Desk_write (x0 : Bool) (x1 : LL) (x2 : Int) (x3 : LL) (x4 : Int) (x5 : Int) (x6 : LL) : φ_impl_Desk_write [C.bool x0, C.list x1, C.int .i64 x2, C.list x3, C.int .i64 x4, C.int .i64 x5, C.list x6] = retOf (F_impl_Desk_write x0 x1 x2 x3 x4 x5 x6) := by kernel_rfl
theorem q_impl_HouseNew (x0 : Int) (x1 : Int) : φ_impl_HouseNew [C.int .i64 x0, C.int .i64 x1] = retOf (F_impl_HouseNew x0 x1) := by kernel_rfl
theorem q_impl_TripsOf (x0 : LL) : φ_impl_TripsOf [C.list x0] = retOf (F_impl_TripsOf x0) := by kernel_rfl
theorem q_slices_Index_impl_Word (x0 : LL) (x1 : Int) (x2 : Int) (x3 : Int) (x4 : Int) : φ_slices_Index_impl_Word [C.list x0, C.int .i64 x1, C.int .i64 x2, C.int .i64 x3, C.int .i64 x4] = retOf (F_slices_Index_impl_Word x0 x1 x2 x3 x4) := by kernel_rfl
theorem q_slices_Clone_impl_Hold (x0 : LL) : φ_slices_Clone_impl_Hold [C.list x0] = retOf (F_slices_Clone_impl_Hold x0) := by kernel_rfl
theorem q_slices_IndexFunc_impl_Rec_impl_LogOk_1 (x0 : LL) : φ_slices_IndexFunc_impl_Rec_impl_LogOk_1 [C.list x0] = retOf (F_slices_IndexFunc_impl_Rec_impl_LogOk_1 x0) := by kernel_rfl
theorem q_slices_IndexFunc_int_impl_wantedOk_1 (x0 : LL) : φ_slices_IndexFunc_int_impl_wantedOk_1 [C.list x0] = retOf (F_slices_IndexFunc_int_impl_wantedOk_1 x0) := by kernel_rfl
theorem q_slices_IndexFunc_int_impl_wantedOk_2 (x0 : LL) : φ_slices_IndexFunc_int_impl_wantedOk_2 [C.list x0] = retOf (F_slices_IndexFunc_int_impl_wantedOk_2 x0) := by kernel_rfl
theorem q_spec_l21Put (x0 : Bool) (x1 : LL) (x2 : Int) (x3 : LL) (x4 : LL) (x5 : LL) (x6 : Int) (x7 : Int) (x8 : Int) (x9 : Int) : φ_spec_l21Put [C.bool x0, C.list x1, C.int .i64 x2, C.list x3, C.list x4, C.list x5, C.int .i64 x6, C.int .i64 x7, C.int .i64 x8, C.int .i64 x9] = retOf (F_spec_l21Put x0 x1 x2 x3 x4 x5 x6 x7 x8 x9) := by kernel_rfl
theorem q_impl_DeskRise (x0 : Bool) (x1 : LL) (x2 : Int) (x3 : LL) : φ_impl_DeskRise [C.bool x0, C.list x1, C.int .i64 x2, C.list x3] = retOf (F_impl_DeskRise x0 x1 x2 x3) := by kernel_rfl
theorem q_impl_HouseFall (x0 : Int) (x1 : Bool) (x2 : Int) (x3 : LL) (x4 : Int) (x5 : Int) : φ_impl_HouseFall [C.int .i64 x0, C.bool x1, C.int .i64 x2, C.list x3, C.int .i64 x4, C.int .i64 x5] = retOf (F_impl_HouseFall x0 x1 x2 x3 x4 x5) := by kernel_rfl
theorem q_laws_lnDesk (x0 : Bool) (x1 : LL) (x2 : Int) (x3 : LL) (x4 : Bool) (x5 : LL) (x6 : Int) (x7 : LL) : φ_laws_lnDesk [C.bool x0, C.list x1, C.int .i64 x2, C.list x3, C.bool x4, C.list x5, C.int .i64 x6, C.list x7] = retOf (F_laws_lnDesk x0 x1 x2 x3 x4 x5 x6 x7) := by kernel_rfl
theorem q_impl_LogForce (x0 : LL) (x1 : Int) : φ_impl_LogForce [C.list x0, C.int .i64 x1] = retOf (F_impl_LogForce x0 x1) := by kernel_rfl
theorem q_spec_StockNew (x0 : Int) : φ_spec_StockNew [C.int .i64 x0] = retOf (F_spec_StockNew x0) := by kernel_rfl
theorem q_spec_l6Open (x0 : LL) : φ_spec_l6Open [C.list x0] = retOf (F_spec_l6Open x0) := by kernel_rfl
theorem q_impl_TripsOk (x0 : LL) : φ_impl_TripsOk [C.list x0] = retOf (F_impl_TripsOk x0) := by kernel_rfl
theorem q_impl_Log_known (x0 : LL) (x1 : Int) (x2 : Bool) : φ_impl_Log_known [C.list x0, C.int .i64 x1, C.bool x2] = retOf (F_impl_Log_known x0 x1 x2) := by kernel_rfl
theorem q_slices_Contains_impl_Word (x0 : LL) (x1 : Int) (x2 : Int) (x3 : Int) (x4 : Int) : φ_slices_Contains_impl_Word [C.list x0, C.int .i64 x1, C.int .i64 x2, C.int .i64 x3, C.int .i64 x4] = retOf (F_slices_Contains_impl_Word x0 x1 x2 x3 x4) := by kernel_rfl
theorem q_slices_ContainsFunc_impl_Trip_impl_TripsOk_1 (x0 : LL) : φ_slices_ContainsFunc_impl_Trip_impl_TripsOk_1 [C.list x0] = retOf (F_slices_ContainsFunc_impl_Trip_impl_TripsOk_1 x0) := by kernel_rfl
theorem q_impl_Log_copied (x0 : LL) (x1 : Int) : φ_impl_Log_copied [C.list x0, C.int .i64 x1] = retOf (F_impl_Log_copied x0 x1) := by kernel_rfl
theorem q_impl_Desk_trips (x0 : Bool) (x1 : LL) (x2 : Int) (x3 : LL) (x4 : Bool) : φ_impl_Desk_trips [C.bool x0, C.list x1, C.int .i64 x2, C.list x3, C.bool x4] = retOf (F_impl_Desk_trips x0 x1 x2 x3 x4) := by kernel_rfl
theorem q_impl_LogOk_1 (x0 : Int) (x1 : Int) (x2 : LL) : φ_impl_LogOk_1 [C.int .i64 x0, C.int .i64 x1, C.list x2] = retOf (F_impl_LogOk_1 x0 x1 x2) := by kernel_rfl
theorem q_spec_DeskNew : φ_spec_DeskNew [] = retOf (F_spec_DeskNew) := by kernel_rfl
theorem q_impl_isHouse (x0 : Int) : φ_impl_isHouse [C.int .i64 x0] = retOf (F_impl_isHouse x0) := by kernel_rfl
theorem q_impl_wantedOk_2 (x0 : Int) : φ_impl_wantedOk_2 [C.int .i64 x0] = retOf (F_impl_wantedOk_2 x0) := by kernel_rfl
end Dx
