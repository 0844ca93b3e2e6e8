/- The typed texts are the trees'. -/
import Derived.Test.YtnbafdnocjajcaaGreatYb
set_option linter.all false
set_option linter.unusedVariables false
set_option linter.unusedSimpArgs false
set_option linter.unnecessarySimpa false
namespace Dx
open Go
theorem q_spec_l13Decide (x0 : Bool) (x1 : LL) (x2 : Int) (x3 : LL) (x4 : Int) : φ_spec_l13Decide [C.bool x0, C.list x1, C.int .i64 x2, C.list x3, C.int .i64 x4] = retOf (F_spec_l13Decide x0 x1 x2 x3 x4) := by kernel_rfl
theorem q_impl_World_do (x0 : Bool) (x1 : LL) (x2 : Int) (x3 : LL) (x4 : LL) (x5 : LL) (x6 : Int) (x7 : Int) (x8 : Int) (x9 : LL) : φ_impl_World_do [C.bool x0, C.list x1, C.int .i64 x2, C.list x3, C.list x4, C.list x5, C.int .i64 x6, C.int .i64 x7, C.int .i64 x8, C.list x9] = retOf (F_impl_World_do x0 x1 x2 x3 x4 x5 x6 x7 x8 x9) := by kernel_rfl
theorem q_spec_l11Hear (x0 : Int) (x1 : Bool) (x2 : Int) (x3 : LL) (x4 : Int) (x5 : Int) (x6 : Int) (x7 : Int) (x8 : Int) : φ_spec_l11Hear [C.int .i64 x0, C.bool x1, C.int .i64 x2, C.list x3, C.int .i64 x4, C.int .i64 x5, C.int .i64 x6, C.int .i64 x7, C.int .i64 x8] = retOf (F_spec_l11Hear x0 x1 x2 x3 x4 x5 x6 x7 x8) := by kernel_rfl
theorem q_spec_l21Do (x0 : Bool) (x1 : LL) (x2 : Int) (x3 : LL) (x4 : LL) (x5 : LL) (x6 : Int) (x7 : Int) (x8 : Int) (x9 : LL) : φ_spec_l21Do [C.bool x0, C.list x1, C.int .i64 x2, C.list x3, C.list x4, C.list x5, C.int .i64 x6, C.int .i64 x7, C.int .i64 x8, C.list x9] = retOf (F_spec_l21Do x0 x1 x2 x3 x4 x5 x6 x7 x8 x9) := by kernel_rfl
theorem q_spec_l21Node (x0 : Bool) (x1 : LL) (x2 : Int) (x3 : LL) (x4 : LL) (x5 : LL) (x6 : Int) (x7 : Int) (x8 : Int) (x9 : LL) : φ_spec_l21Node [C.bool x0, C.list x1, C.int .i64 x2, C.list x3, C.list x4, C.list x5, C.int .i64 x6, C.int .i64 x7, C.int .i64 x8, C.list x9] = retOf (F_spec_l21Node x0 x1 x2 x3 x4 x5 x6 x7 x8 x9) := by kernel_rfl
theorem q_impl_Desk_words (x0 : Bool) (x1 : LL) (x2 : Int) (x3 : LL) : φ_impl_Desk_words [C.bool x0, C.list x1, C.int .i64 x2, C.list x3] = retOf (F_impl_Desk_words x0 x1 x2 x3) := by kernel_rfl
theorem q_spec_l6Rd_pick (x0 : LL) (x1 : Int) (x2 : Int) : φ_spec_l6Rd_pick [C.list x0, C.int .i64 x1, C.int .i64 x2] = retOf (F_spec_l6Rd_pick x0 x1 x2) := by kernel_rfl
theorem q_spec_l21Net (x0 : Bool) (x1 : LL) (x2 : Int) (x3 : LL) (x4 : LL) (x5 : LL) (x6 : Int) (x7 : Int) (x8 : Int) (x9 : LL) : φ_spec_l21Net [C.bool x0, C.list x1, C.int .i64 x2, C.list x3, C.list x4, C.list x5, C.int .i64 x6, C.int .i64 x7, C.int .i64 x8, C.list x9] = retOf (F_spec_l21Net x0 x1 x2 x3 x4 x5 x6 x7 x8 x9) := by kernel_rfl
theorem q_impl_World_net (x0 : Bool) (x1 : LL) (x2 : Int) (x3 : LL) (x4 : LL) (x5 : LL) (x6 : Int) (x7 : Int) (x8 : Int) (x9 : LL) : φ_impl_World_net [C.bool x0, C.list x1, C.int .i64 x2, C.list x3, C.list x4, C.list x5, C.int .i64 x6, C.int .i64 x7, C.int .i64 x8, C.list x9] = retOf (F_impl_World_net x0 x1 x2 x3 x4 x5 x6 x7 x8 x9) := by kernel_rfl
theorem q_impl_Desk_hear (x0 : Bool) (x1 : LL) (x2 : Int) (x3 : LL) (x4 : Int) (x5 : Int) (x6 : Int) (x7 : Int) : φ_impl_Desk_hear [C.bool x0, C.list x1, C.int .i64 x2, C.list x3, C.int .i64 x4, C.int .i64 x5, C.int .i64 x6, C.int .i64 x7] = retOf (F_impl_Desk_hear x0 x1 x2 x3 x4 x5 x6 x7) := by kernel_rfl
theorem q_impl_WorldPlay (x0 : LL) (x1 : LL) : φ_impl_WorldPlay [C.list x0, C.list x1] = retOf (F_impl_WorldPlay x0 x1) := by kernel_rfl
theorem q_spec_l2Of (x0 : Int) (x1 : LL) : φ_spec_l2Of [C.int .i64 x0, C.list x1] = retOf (F_spec_l2Of x0 x1) := by kernel_rfl
theorem q_impl_StockMay (x0 : Int) (x1 : LL) (x2 : Int) (x3 : Int) (x4 : LL) : φ_impl_StockMay [C.int .i64 x0, C.list x1, C.int .i64 x2, C.int .i64 x3, C.list x4] = retOf (F_impl_StockMay x0 x1 x2 x3 x4) := by kernel_rfl
theorem q_spec_l21Hear (x0 : Bool) (x1 : LL) (x2 : Int) (x3 : LL) (x4 : LL) (x5 : LL) (x6 : Int) (x7 : Int) (x8 : Int) (x9 : Int) : φ_spec_l21Hear [C.bool x0, C.list x1, C.int .i64 x2, C.list x3, C.list x4, C.list x5, C.int .i64 x6, C.int .i64 x7, C.int .i64 x8, C.int .i64 x9] = retOf (F_spec_l21Hear x0 x1 x2 x3 x4 x5 x6 x7 x8 x9) := by kernel_rfl
theorem q_impl_World_each_impl_World_do_1_impl_World_do_2 (x0 : Bool) (x1 : LL) (x2 : Int) (x3 : LL) (x4 : LL) (x5 : LL) (x6 : Int) (x7 : Int) (x8 : Int) (x9 : Int) (x10 : LL) (x11 : Int) (x12 : Int) (x13 : Int) (x14 : LL) : φ_impl_World_each_impl_World_do_1_impl_World_do_2 [C.bool x0, C.list x1, C.int .i64 x2, C.list x3, C.list x4, C.list x5, C.int .i64 x6, C.int .i64 x7, C.int .i64 x8, C.int .i64 x9, C.list x10, C.int .i64 x11, C.int .i64 x12, C.int .i64 x13, C.list x14] = retOf (F_impl_World_each_impl_World_do_1_impl_World_do_2 x0 x1 x2 x3 x4 x5 x6 x7 x8 x9 x10 x11 x12 x13 x14) := by kernel_rfl
theorem q_spec_DrawWorldPlay (x0 : LL) : φ_spec_DrawWorldPlay [C.list x0] = retOf (F_spec_DrawWorldPlay x0) := by kernel_rfl
theorem q_impl_World_each_impl_DeskForce_impl_HouseForce (x0 : Bool) (x1 : LL) (x2 : Int) (x3 : LL) (x4 : LL) (x5 : LL) (x6 : Int) : φ_impl_World_each_impl_DeskForce_impl_HouseForce [C.bool x0, C.list x1, C.int .i64 x2, C.list x3, C.list x4, C.list x5, C.int .i64 x6] = retOf (F_impl_World_each_impl_DeskForce_impl_HouseForce x0 x1 x2 x3 x4 x5 x6) := by kernel_rfl
theorem q_spec_l2Free (x0 : Int) (x1 : LL) : φ_spec_l2Free [C.int .i64 x0, C.list x1] = retOf (F_spec_l2Free x0 x1) := by kernel_rfl
theorem q_impl_DeskGive (x0 : Bool) (x1 : LL) (x2 : Int) (x3 : LL) (x4 : Int) : φ_impl_DeskGive [C.bool x0, C.list x1, C.int .i64 x2, C.list x3, C.int .i64 x4] = retOf (F_impl_DeskGive x0 x1 x2 x3 x4) := by kernel_rfl
theorem q_spec_l1Many (x0 : LL) : φ_spec_l1Many [C.list x0] = retOf (F_spec_l1Many x0) := by kernel_rfl
theorem q_spec_l13All (x0 : Bool) (x1 : LL) (x2 : Int) (x3 : LL) (x4 : Int) (x5 : LL) (x6 : Int) : φ_spec_l13All [C.bool x0, C.list x1, C.int .i64 x2, C.list x3, C.int .i64 x4, C.list x5, C.int .i64 x6] = retOf (F_spec_l13All x0 x1 x2 x3 x4 x5 x6) := by kernel_rfl
theorem q_laws_lnInts (x0 : LL) (x1 : LL) : φ_laws_lnInts [C.list x0, C.list x1] = retOf (F_laws_lnInts x0 x1) := by kernel_rfl
theorem q_impl_Hold_ok (x0 : Int) (x1 : Int) : φ_impl_Hold_ok [C.int .i64 x0, C.int .i64 x1] = retOf (F_impl_Hold_ok x0 x1) := by kernel_rfl
theorem q_spec_HouseNew (x0 : Int) (x1 : Int) : φ_spec_HouseNew [C.int .i64 x0, C.int .i64 x1] = retOf (F_spec_HouseNew x0 x1) := by kernel_rfl
theorem q_impl_HouseForce (x0 : Int) (x1 : Bool) (x2 : Int) (x3 : LL) (x4 : Int) : φ_impl_HouseForce [C.int .i64 x0, C.bool x1, C.int .i64 x2, C.list x3, C.int .i64 x4] = retOf (F_impl_HouseForce x0 x1 x2 x3 x4) := by kernel_rfl
theorem q_impl_DeskForce (x0 : Bool) (x1 : LL) (x2 : Int) (x3 : LL) : φ_impl_DeskForce [C.bool x0, C.list x1, C.int .i64 x2, C.list x3] = retOf (F_impl_DeskForce x0 x1 x2 x3) := by kernel_rfl
theorem q_spec_l1Fall (x0 : LL) (x1 : Int) (x2 : Int) : φ_spec_l1Fall [C.list x0, C.int .i64 x1, C.int .i64 x2] = retOf (F_spec_l1Fall x0 x1 x2) := by kernel_rfl
theorem q_slices_Clone_int (x0 : LL) : φ_slices_Clone_int [C.list x0] = retOf (F_slices_Clone_int x0) := by kernel_rfl
theorem q_laws_lnHouse (x0 : Int) (x1 : Bool) (x2 : Int) (x3 : LL) (x4 : Int) (x5 : Int) (x6 : Bool) (x7 : Int) (x8 : LL) (x9 : Int) : φ_laws_lnHouse [C.int .i64 x0, C.bool x1, C.int .i64 x2, C.list x3, C.int .i64 x4, C.int .i64 x5, C.bool x6, C.int .i64 x7, C.list x8, C.int .i64 x9] = retOf (F_laws_lnHouse x0 x1 x2 x3 x4 x5 x6 x7 x8 x9) := by kernel_rfl
theorem q_impl_LogOk (x0 : LL) (x1 : Int) : φ_impl_LogOk [C.list x0, C.int .i64 x1] = retOf (F_impl_LogOk x0 x1) := by kernel_rfl
theorem q_impl_HouseRise (x0 : Int) (x1 : Bool) (x2 : Int) (x3 : LL) (x4 : Int) : φ_impl_HouseRise [C.int .i64 x0, C.bool x1, C.int .i64 x2, C.list x3, C.int .i64 x4] = retOf (F_impl_HouseRise x0 x1 x2 x3 x4) := by kernel_rfl
theorem q_spec_l13Trips (x0 : Bool) (x1 : LL) (x2 : Int) (x3 : LL) (x4 : Bool) : φ_spec_l13Trips [C.bool x0, C.list x1, C.int .i64 x2, C.list x3, C.bool x4] = retOf (F_spec_l13Trips x0 x1 x2 x3 x4) := by kernel_rfl
theorem q_impl_DeskFall (x0 : Bool) (x1 : LL) (x2 : Int) (x3 : LL) (x4 : Int) : φ_impl_DeskFall [C.bool x0, C.list x1, C.int .i64 x2, C.list x3, C.int .i64 x4] = retOf (F_impl_DeskFall x0 x1 x2 x3 x4) := by kernel_rfl
theorem q_spec_l1Add (x0 : LL) (x1 : Int) (x2 : Int) (x3 : Int) (x4 : LL) : φ_spec_l1Add [C.list x0, C.int .i64 x1, C.int .i64 x2, C.int .i64 x3, C.list x4] = retOf (F_spec_l1Add x0 x1 x2 x3 x4) := by kernel_rfl
theorem q_spec_l11Rec (x0 : Int) (x1 : Int) (x2 : Int) (x3 : Int) : φ_spec_l11Rec [C.int .i64 x0, C.int .i64 x1, C.int .i64 x2, C.int .i64 x3] = retOf (F_spec_l11Rec x0 x1 x2 x3) := by kernel_rfl
theorem q_impl_stateOf (x0 : LL) (x1 : Int) : φ_impl_stateOf [C.list x0, C.int .i64 x1] = retOf (F_impl_stateOf x0 x1) := by kernel_rfl
theorem q_impl_DeskTrips (x0 : Bool) (x1 : LL) (x2 : Int) (x3 : LL) (x4 : Bool) : φ_impl_DeskTrips [C.bool x0, C.list x1, C.int .i64 x2, C.list x3, C.bool x4] = retOf (F_impl_DeskTrips x0 x1 x2 x3 x4) := by kernel_rfl
theorem q_laws_lnLog (x0 : LL) (x1 : Int) (x2 : LL) (x3 : Int) : φ_laws_lnLog [C.list x0, C.int .i64 x1, C.list x2, C.int .i64 x3] = retOf (F_laws_lnLog x0 x1 x2 x3) := by kernel_rfl
theorem q_impl_in (x0 : Int) (x1 : Int) (x2 : Int) : φ_impl_in [C.int .i64 x0, C.int .i64 x1, C.int .i64 x2] = retOf (F_impl_in x0 x1 x2) := by kernel_rfl
theorem q_impl_House_stock (x0 : Int) (x1 : Bool) (x2 : Int) (x3 : LL) (x4 : Int) (x5 : Bool) : φ_impl_House_stock [C.int .i64 x0, C.bool x1, C.int .i64 x2, C.list x3, C.int .i64 x4, C.bool x5] = retOf (F_impl_House_stock x0 x1 x2 x3 x4 x5) := by kernel_rfl
theorem q_impl_Desk_copied (x0 : Bool) (x1 : LL) (x2 : Int) (x3 : LL) : φ_impl_Desk_copied [C.bool x0, C.list x1, C.int .i64 x2, C.list x3] = retOf (F_impl_Desk_copied x0 x1 x2 x3) := by kernel_rfl
theorem q_slices_ContainsFunc_impl_Rec_impl_LogOk_1 (x0 : LL) : φ_slices_ContainsFunc_impl_Rec_impl_LogOk_1 [C.list x0] = retOf (F_slices_ContainsFunc_impl_Rec_impl_LogOk_1 x0) := by kernel_rfl
theorem q_slices_ContainsFunc_int_impl_wantedOk_1 (x0 : LL) : φ_slices_ContainsFunc_int_impl_wantedOk_1 [C.list x0] = retOf (F_slices_ContainsFunc_int_impl_wantedOk_1 x0) := by kernel_rfl
theorem q_impl_House_copied (x0 : Int) (x1 : Bool) (x2 : Int) (x3 : LL) (x4 : Int) : φ_impl_House_copied [C.int .i64 x0, C.bool x1, C.int .i64 x2, C.list x3, C.int .i64 x4] = retOf (F_impl_House_copied x0 x1 x2 x3 x4) := by kernel_rfl
theorem q_impl_Desk_told (x0 : Bool) (x1 : LL) (x2 : Int) (x3 : LL) (x4 : Int) (x5 : Int) (x6 : Int) : φ_impl_Desk_told [C.bool x0, C.list x1, C.int .i64 x2, C.list x3, C.int .i64 x4, C.int .i64 x5, C.int .i64 x6] = retOf (F_impl_Desk_told x0 x1 x2 x3 x4 x5 x6) := by kernel_rfl
theorem q_impl_DeskNew : φ_impl_DeskNew [] = retOf (F_impl_DeskNew) := by kernel_rfl
theorem q_impl_Word_answer (x0 : Int) (x1 : Int) (x2 : Int) (x3 : Int) : φ_impl_Word_answer [C.int .i64 x0, C.int .i64 x1, C.int .i64 x2, C.int .i64 x3] = retOf (F_impl_Word_answer x0 x1 x2 x3) := by kernel_rfl
end Dx
