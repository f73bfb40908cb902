/- Merged texts of this claim: V5, V6, V7, V8, V9, V10, V11, V12. -/
import Derived.Test.YtgmimgmdbpcecaaGreatDoorZbF
section
namespace Go.Proofs.YtgmimgmdbpcecaaGreatDoor
open Go Go.Ah
set_option linter.unusedSimpArgs false
set_option linter.unusedVariables false
set_option maxRecDepth 10000
set_option maxHeartbeats 4000000
/-! 44 loop.example/g00066/spec.TimeRead: parameters 2, live [0, 1], slots [0:r, 1:text, 2:r, 3:text, 6:b, 7:list, 8:i, 9:k, 10:n, 11:m] -/
def c44_0 : List SOper := [⟨some 2, .a (.box (.t 0)), none⟩, ⟨some 4, .q (.mv (.c (.int .i64 0))), none⟩, ⟨some 5, .q (.mv (.c (.bool false))), none⟩]
def c44_1 : List SOper := [⟨some 12, .q (.ldn 3 (.t 2)), none⟩, ⟨some 13, .e (.call 64 [(.t 12)]), none⟩, ⟨some 6, .q (.mv (.t 13)), none⟩]
def c44_2 : List SOper := [⟨some 14, .q (.mv (.t 6)), none⟩, ⟨some 15, .q (.bin .eql (.t 14) (.c (.int .i64 0))), none⟩, ⟨some 16, .q (.mv (.t 15)), none⟩, ⟨some 17, .q (.mv (.t 1)), some (16, false)⟩, ⟨some 18, .q (.lens (.t 17)), some (16, false)⟩, ⟨some 19, .q (.bin .lss (.t 18) (.c (.int .i64 11))), some (16, false)⟩, ⟨some 20, .q (.pick (.t 16) (.c (.bool true)) (.t 19)), none⟩, ⟨some 21, .q (.mv (.t 20)), none⟩, ⟨some 22, .q (.mv (.t 1)), some (21, false)⟩, ⟨some 23, .q (.lens (.t 22)), some (21, false)⟩, ⟨some 24, .q (.bin .gtr (.t 23) (.c (.int .i64 12))), some (21, false)⟩, ⟨some 25, .q (.pick (.t 21) (.c (.bool true)) (.t 24)), none⟩]
def c44_3 : List SOper := [⟨some 4, .q (.mv (.c (.int .i64 0))), none⟩, ⟨some 5, .q (.mv (.c (.bool false))), none⟩]
def c44_4 : SCode := .seq (.region c44_3 [4, 5]) .ret
def c44_5 : SCode := .cond (.t 25) c44_4 .skip
def c44_6 : SCode := .seq (.region c44_2 [1, 2, 6, 25]) c44_5
def c44_7 : List SOper := [⟨some 26, .a (.bsl 4 1 [(.int .i64 0), (.int .i64 0), (.int .i64 0), (.int .i64 0)] [(0, 1, (.c (.int .i64 0))), (1, 1, (.c (.int .i64 0))), (2, 1, (.c (.int .i64 0))), (3, 1, (.c (.int .i64 0)))]), none⟩, ⟨some 7, .q (.mv (.t 26)), none⟩]
def c44_8 : List SOper := [⟨some 8, .q (.mv (.c (.int .i64 0))), none⟩]
def c44_9 : List SOper := [⟨some 27, .q (.mv (.t 8)), none⟩, ⟨some 28, .q (.bin .lss (.t 27) (.c (.int .i64 4))), none⟩]
def c44_10 : SCode := .cond (.t 28) .skip (.exit 0)
def c44_11 : SCode := .seq (.region c44_9 [1, 2, 6, 7, 8, 28]) c44_10
def c44_12 : List SOper := [⟨some 31, .q (.mv (.t 8)), none⟩, ⟨some 32, .q (.bin .mul (.c (.int .i64 3)) (.t 31)), none⟩, ⟨some 9, .q (.mv (.t 32)), none⟩]
def c44_13 : List SOper := [⟨some 33, .q (.mv (.t 9)), none⟩, ⟨some 34, .q (.mv (.t 1)), none⟩, ⟨some 35, .q (.lens (.t 34)), none⟩, ⟨some 36, .q (.bin .lss (.t 33) (.t 35)), none⟩, ⟨some 37, .q (.mv (.t 36)), none⟩, ⟨some 38, .q (.mv (.t 9)), some (37, true)⟩, ⟨some 39, .q (.mv (.t 8)), some (37, true)⟩, ⟨some 40, .q (.bin .mul (.c (.int .i64 3)) (.t 39)), some (37, true)⟩, ⟨some 41, .q (.bin .add (.t 40) (.c (.int .i64 2))), some (37, true)⟩, ⟨some 42, .q (.bin .lss (.t 38) (.t 41)), some (37, true)⟩, ⟨some 43, .q (.mv (.t 42)), some (37, true)⟩, ⟨some 44, .q (.mv (.t 8)), some (43, false)⟩, ⟨some 45, .q (.bin .eql (.t 44) (.c (.int .i64 3))), some (43, false)⟩, ⟨some 46, .q (.pick (.t 43) (.c (.bool true)) (.t 45)), some (37, true)⟩, ⟨some 47, .q (.pick (.t 37) (.t 46) (.c (.bool false))), none⟩]
def c44_14 : SCode := .cond (.t 47) .skip (.exit 2)
def c44_15 : SCode := .seq (.region c44_13 [1, 2, 6, 7, 8, 9, 47]) c44_14
def c44_16 : List SOper := [⟨some 50, .q (.mv (.t 1)), none⟩, ⟨some 51, .q (.mv (.t 9)), none⟩, ⟨some 52, .q (.ivs (.t 50) (.t 51)), none⟩, ⟨some 53, .q (.bin .lss (.t 52) (.c (.int .u8 48))), none⟩, ⟨some 54, .q (.mv (.t 53)), none⟩, ⟨some 55, .q (.mv (.t 1)), some (54, false)⟩, ⟨some 56, .q (.mv (.t 9)), some (54, false)⟩, ⟨some 57, .q (.ivs (.t 55) (.t 56)), some (54, false)⟩, ⟨some 58, .q (.bin .gtr (.t 57) (.c (.int .u8 57))), some (54, false)⟩, ⟨some 59, .q (.pick (.t 54) (.c (.bool true)) (.t 58)), none⟩]
def c44_17 : List SOper := [⟨some 4, .q (.mv (.c (.int .i64 0))), none⟩, ⟨some 5, .q (.mv (.c (.bool false))), none⟩]
def c44_18 : SCode := .seq (.region c44_17 [4, 5]) .ret
def c44_19 : SCode := .cond (.t 59) c44_18 .skip
def c44_20 : SCode := .seq (.region c44_16 [1, 2, 6, 7, 8, 9, 59]) c44_19
def c44_21 : List SOper := [⟨some 60, .q (.mv (.t 7)), none⟩, ⟨some 61, .q (.mv (.t 8)), none⟩, ⟨some 62, .q (.mv (.t 7)), none⟩, ⟨some 63, .q (.mv (.t 8)), none⟩, ⟨some 64, .q (.ia 1 (.t 62) (.t 63)), none⟩, ⟨some 65, .q (.ld (.t 64)), none⟩, ⟨some 66, .q (.bin .mul (.t 65) (.c (.int .i64 10))), none⟩, ⟨some 67, .q (.mv (.t 1)), none⟩, ⟨some 68, .q (.mv (.t 9)), none⟩, ⟨some 69, .q (.ivs (.t 67) (.t 68)), none⟩, ⟨some 70, .q (.bin .sub (.t 69) (.c (.int .u8 48))), none⟩, ⟨some 71, .q (.cvi .i64 (.t 70)), none⟩, ⟨some 72, .q (.bin .add (.t 66) (.t 71)), none⟩, ⟨some 73, .q (.ia 1 (.t 60) (.t 61)), none⟩, ⟨none, .e (.st 1 (.t 73) (.t 72)), none⟩]
def c44_22 : SCode := .seq c44_20 (.region c44_21 [1, 2, 6, 7, 8, 9])
def c44_23 : SCode := .block 3 c44_22
def c44_24 : List SOper := [⟨some 48, .q (.mv (.t 9)), none⟩, ⟨some 49, .q (.bin .add (.t 48) (.c (.int .i64 1))), none⟩, ⟨some 9, .q (.mv (.t 49)), none⟩]
def c44_25 : SCode := .seq c44_23 (.region c44_24 [1, 2, 6, 7, 8, 9])
def c44_26 : SCode := .seq c44_15 c44_25
def c44_27 : SCode := .loop c44_26
def c44_28 : SCode := .block 2 c44_27
def c44_29 : SCode := .seq (.region c44_12 [1, 2, 6, 7, 8, 9]) c44_28
def c44_30 : SCode := .block 1 c44_29
def c44_31 : List SOper := [⟨some 29, .q (.mv (.t 8)), none⟩, ⟨some 30, .q (.bin .add (.t 29) (.c (.int .i64 1))), none⟩, ⟨some 8, .q (.mv (.t 30)), none⟩]
def c44_32 : SCode := .seq c44_30 (.region c44_31 [1, 2, 6, 7, 8])
def c44_33 : SCode := .seq c44_11 c44_32
def c44_34 : SCode := .loop c44_33
def c44_35 : SCode := .block 0 c44_34
def c44_36 : SCode := .seq (.region c44_8 [1, 2, 6, 7, 8]) c44_35
def c44_37 : List SOper := [⟨some 74, .q (.mv (.t 7)), none⟩, ⟨some 75, .q (.ia 1 (.t 74) (.c (.int .i64 0))), none⟩, ⟨some 76, .q (.ld (.t 75)), none⟩, ⟨some 77, .q (.bin .mul (.t 76) (.c (.int .i64 60))), none⟩, ⟨some 78, .q (.mv (.t 7)), none⟩, ⟨some 79, .q (.ia 1 (.t 78) (.c (.int .i64 1))), none⟩, ⟨some 80, .q (.ld (.t 79)), none⟩, ⟨some 81, .q (.bin .add (.t 77) (.t 80)), none⟩, ⟨some 82, .q (.bin .mul (.t 81) (.c (.int .i64 60))), none⟩, ⟨some 83, .q (.mv (.t 7)), none⟩, ⟨some 84, .q (.ia 1 (.t 83) (.c (.int .i64 2))), none⟩, ⟨some 85, .q (.ld (.t 84)), none⟩, ⟨some 86, .q (.bin .add (.t 82) (.t 85)), none⟩, ⟨some 87, .q (.mv (.t 6)), none⟩, ⟨some 88, .q (.bin .mul (.t 86) (.t 87)), none⟩, ⟨some 89, .q (.mv (.t 7)), none⟩, ⟨some 90, .q (.ia 1 (.t 89) (.c (.int .i64 3))), none⟩, ⟨some 91, .q (.ld (.t 90)), none⟩, ⟨some 92, .q (.bin .add (.t 88) (.t 91)), none⟩, ⟨some 10, .q (.mv (.t 92)), none⟩]
def c44_38 : List SOper := [⟨some 93, .q (.fa 2 (.t 2)), none⟩, ⟨some 94, .q (.ld (.t 93)), none⟩]
def c44_39 : List SOper := [⟨some 95, .q (.mv (.t 7)), none⟩, ⟨some 96, .q (.ia 1 (.t 95) (.c (.int .i64 0))), none⟩, ⟨some 97, .q (.ld (.t 96)), none⟩, ⟨some 98, .q (.bin .mul (.t 97) (.c (.int .i64 60))), none⟩, ⟨some 99, .q (.mv (.t 7)), none⟩, ⟨some 100, .q (.ia 1 (.t 99) (.c (.int .i64 1))), none⟩, ⟨some 101, .q (.ld (.t 100)), none⟩, ⟨some 102, .q (.bin .add (.t 98) (.t 101)), none⟩, ⟨some 11, .q (.mv (.t 102)), none⟩]
def c44_40 : List SOper := [⟨some 103, .q (.mv (.t 10)), none⟩, ⟨some 104, .q (.mv (.t 6)), none⟩, ⟨some 105, .q (.bin .quo (.t 104) (.c (.int .i64 15))), none⟩, ⟨some 106, .q (.mv (.t 11)), none⟩, ⟨some 107, .q (.mv (.t 11)), none⟩, ⟨some 108, .q (.bin .quo (.t 107) (.c (.int .i64 10))), none⟩, ⟨some 109, .q (.bin .sub (.t 106) (.t 108)), none⟩, ⟨some 110, .q (.bin .mul (.t 105) (.t 109)), none⟩, ⟨some 111, .q (.bin .sub (.t 103) (.t 110)), none⟩, ⟨some 10, .q (.mv (.t 111)), none⟩]
def c44_41 : SCode := .seq (.region c44_39 [1, 2, 6, 10, 11]) (.region c44_40 [1, 2, 10])
def c44_42 : SCode := .cond (.t 94) c44_41 .skip
def c44_43 : SCode := .seq (.region c44_38 [1, 2, 6, 7, 10, 94]) c44_42
def c44_44 : List SOper := [⟨some 112, .q (.mv (.t 10)), none⟩, ⟨some 113, .q (.bin .lss (.t 112) (.c (.int .i64 0))), none⟩, ⟨some 114, .q (.mv (.t 113)), none⟩, ⟨some 115, .q (.ldn 3 (.t 2)), some (114, false)⟩, ⟨some 116, .q (.mv (.t 10)), some (114, false)⟩, ⟨some 117, .e (.call 36 [(.t 115), (.t 116)]), some (114, false)⟩, ⟨some 118, .q (.mv (.t 1)), some (114, false)⟩, ⟨some 119, .q (.bin .neq (.t 117) (.t 118)), some (114, false)⟩, ⟨some 120, .q (.pick (.t 114) (.c (.bool true)) (.t 119)), none⟩]
def c44_45 : List SOper := [⟨some 4, .q (.mv (.c (.int .i64 0))), none⟩, ⟨some 5, .q (.mv (.c (.bool false))), none⟩]
def c44_46 : SCode := .seq (.region c44_45 [4, 5]) .ret
def c44_47 : SCode := .cond (.t 120) c44_46 .skip
def c44_48 : SCode := .seq (.region c44_44 [10, 120]) c44_47
def c44_49 : List SOper := [⟨some 121, .q (.mv (.t 10)), none⟩, ⟨some 4, .q (.mv (.t 121)), none⟩, ⟨some 5, .q (.mv (.c (.bool true))), none⟩]
def c44_50 : SCode := .seq (.region c44_49 [4, 5]) .ret
def c44_51 : SCode := .seq c44_48 c44_50
def c44_52 : SCode := .seq c44_43 c44_51
def c44_53 : SCode := .seq (.region c44_37 [1, 2, 6, 7, 10]) c44_52
def c44_54 : SCode := .seq c44_36 c44_53
def c44_55 : SCode := .seq (.region c44_7 [1, 2, 6, 7]) c44_54
def c44_56 : SCode := .seq c44_6 c44_55
def c44_57 : SCode := .seq (.region c44_1 [1, 2, 6]) c44_56
def c44_58 : SCode := .seq (.region c44_0 [1, 2]) c44_57
def c44 : SCode := c44_58
theorem w44 : type_of% (And.intro (uR Tryz.prog c44_0.eq_1) (And.intro (uR Tryz.prog c44_1.eq_1) (And.intro (uR Tryz.prog c44_2.eq_1) (And.intro (uR Tryz.prog c44_3.eq_1) (And.intro (uC Tryz.prog c44_4.eq_1) (And.intro (uC Tryz.prog c44_5.eq_1) (And.intro (uC Tryz.prog c44_6.eq_1) (And.intro (uR Tryz.prog c44_7.eq_1) (And.intro (uR Tryz.prog c44_8.eq_1) (And.intro (uR Tryz.prog c44_9.eq_1) (And.intro (uC Tryz.prog c44_10.eq_1) (And.intro (uC Tryz.prog c44_11.eq_1) (And.intro (uR Tryz.prog c44_12.eq_1) (And.intro (uR Tryz.prog c44_13.eq_1) (And.intro (uC Tryz.prog c44_14.eq_1) (And.intro (uC Tryz.prog c44_15.eq_1) (And.intro (uR Tryz.prog c44_16.eq_1) (And.intro (uR Tryz.prog c44_17.eq_1) (And.intro (uC Tryz.prog c44_18.eq_1) (And.intro (uC Tryz.prog c44_19.eq_1) (And.intro (uC Tryz.prog c44_20.eq_1) (And.intro (uR Tryz.prog c44_21.eq_1) (And.intro (uC Tryz.prog c44_22.eq_1) (And.intro (uC Tryz.prog c44_23.eq_1) (And.intro (uR Tryz.prog c44_24.eq_1) (And.intro (uC Tryz.prog c44_25.eq_1) (And.intro (uC Tryz.prog c44_26.eq_1) (And.intro (uC Tryz.prog c44_27.eq_1) (And.intro (uC Tryz.prog c44_28.eq_1) (And.intro (uC Tryz.prog c44_29.eq_1) (And.intro (uC Tryz.prog c44_30.eq_1) (And.intro (uR Tryz.prog c44_31.eq_1) (And.intro (uC Tryz.prog c44_32.eq_1) (And.intro (uC Tryz.prog c44_33.eq_1) (And.intro (uC Tryz.prog c44_34.eq_1) (And.intro (uC Tryz.prog c44_35.eq_1) (And.intro (uC Tryz.prog c44_36.eq_1) (And.intro (uR Tryz.prog c44_37.eq_1) (And.intro (uR Tryz.prog c44_38.eq_1) (And.intro (uR Tryz.prog c44_39.eq_1) (And.intro (uR Tryz.prog c44_40.eq_1) (And.intro (uC Tryz.prog c44_41.eq_1) (And.intro (uC Tryz.prog c44_42.eq_1) (And.intro (uC Tryz.prog c44_43.eq_1) (And.intro (uR Tryz.prog c44_44.eq_1) (And.intro (uR Tryz.prog c44_45.eq_1) (And.intro (uC Tryz.prog c44_46.eq_1) (And.intro (uC Tryz.prog c44_47.eq_1) (And.intro (uC Tryz.prog c44_48.eq_1) (And.intro (uR Tryz.prog c44_49.eq_1) (And.intro (uC Tryz.prog c44_50.eq_1) (And.intro (uC Tryz.prog c44_51.eq_1) (And.intro (uC Tryz.prog c44_52.eq_1) (And.intro (uC Tryz.prog c44_53.eq_1) (And.intro (uC Tryz.prog c44_54.eq_1) (And.intro (uC Tryz.prog c44_55.eq_1) (And.intro (uC Tryz.prog c44_56.eq_1) (And.intro (uC Tryz.prog c44_57.eq_1) (And.intro (uC Tryz.prog c44_58.eq_1) (uC Tryz.prog c44.eq_1)))))))))))))))))))))))))))))))))))))))))))))))))))))))))))) := (And.intro (uR Tryz.prog c44_0.eq_1) (And.intro (uR Tryz.prog c44_1.eq_1) (And.intro (uR Tryz.prog c44_2.eq_1) (And.intro (uR Tryz.prog c44_3.eq_1) (And.intro (uC Tryz.prog c44_4.eq_1) (And.intro (uC Tryz.prog c44_5.eq_1) (And.intro (uC Tryz.prog c44_6.eq_1) (And.intro (uR Tryz.prog c44_7.eq_1) (And.intro (uR Tryz.prog c44_8.eq_1) (And.intro (uR Tryz.prog c44_9.eq_1) (And.intro (uC Tryz.prog c44_10.eq_1) (And.intro (uC Tryz.prog c44_11.eq_1) (And.intro (uR Tryz.prog c44_12.eq_1) (And.intro (uR Tryz.prog c44_13.eq_1) (And.intro (uC Tryz.prog c44_14.eq_1) (And.intro (uC Tryz.prog c44_15.eq_1) (And.intro (uR Tryz.prog c44_16.eq_1) (And.intro (uR Tryz.prog c44_17.eq_1) (And.intro (uC Tryz.prog c44_18.eq_1) (And.intro (uC Tryz.prog c44_19.eq_1) (And.intro (uC Tryz.prog c44_20.eq_1) (And.intro (uR Tryz.prog c44_21.eq_1) (And.intro (uC Tryz.prog c44_22.eq_1) (And.intro (uC Tryz.prog c44_23.eq_1) (And.intro (uR Tryz.prog c44_24.eq_1) (And.intro (uC Tryz.prog c44_25.eq_1) (And.intro (uC Tryz.prog c44_26.eq_1) (And.intro (uC Tryz.prog c44_27.eq_1) (And.intro (uC Tryz.prog c44_28.eq_1) (And.intro (uC Tryz.prog c44_29.eq_1) (And.intro (uC Tryz.prog c44_30.eq_1) (And.intro (uR Tryz.prog c44_31.eq_1) (And.intro (uC Tryz.prog c44_32.eq_1) (And.intro (uC Tryz.prog c44_33.eq_1) (And.intro (uC Tryz.prog c44_34.eq_1) (And.intro (uC Tryz.prog c44_35.eq_1) (And.intro (uC Tryz.prog c44_36.eq_1) (And.intro (uR Tryz.prog c44_37.eq_1) (And.intro (uR Tryz.prog c44_38.eq_1) (And.intro (uR Tryz.prog c44_39.eq_1) (And.intro (uR Tryz.prog c44_40.eq_1) (And.intro (uC Tryz.prog c44_41.eq_1) (And.intro (uC Tryz.prog c44_42.eq_1) (And.intro (uC Tryz.prog c44_43.eq_1) (And.intro (uR Tryz.prog c44_44.eq_1) (And.intro (uR Tryz.prog c44_45.eq_1) (And.intro (uC Tryz.prog c44_46.eq_1) (And.intro (uC Tryz.prog c44_47.eq_1) (And.intro (uC Tryz.prog c44_48.eq_1) (And.intro (uR Tryz.prog c44_49.eq_1) (And.intro (uC Tryz.prog c44_50.eq_1) (And.intro (uC Tryz.prog c44_51.eq_1) (And.intro (uC Tryz.prog c44_52.eq_1) (And.intro (uC Tryz.prog c44_53.eq_1) (And.intro (uC Tryz.prog c44_54.eq_1) (And.intro (uC Tryz.prog c44_55.eq_1) (And.intro (uC Tryz.prog c44_56.eq_1) (And.intro (uC Tryz.prog c44_57.eq_1) (And.intro (uC Tryz.prog c44_58.eq_1) (uC Tryz.prog c44.eq_1))))))))))))))))))))))))))))))))))))))))))))))))))))))))))))
def v44 : List RV := [.t 4, .t 5]
theorem s44 : slimF Tryz.prog Tryz.f44 = some (c44.bare, v44) := by kernel_rfl

def cs5 (F : Nat → Int) (i : Nat) (x : Int) : List Value :=
  [.int .i64 (if 0 < i then F 0 else if 0 = i then x else 0), .int .i64 (if 1 < i then F 1 else if 1 = i then x else 0), .int .i64 (if 2 < i then F 2 else if 2 = i then x else 0), .int .i64 (if 3 < i then F 3 else if 3 = i then x else 0)]
theorem cs5_ld (F : Nat → Int) (i : Nat) (x : Int) (hi : i < 4) : (cs5 F i x)[i]? = some (.int .i64 x) := by
  have : i = 0 ∨ i = 1 ∨ i = 2 ∨ i = 3 := by omega
  rcases this with rfl | rfl | rfl | rfl <;> rfl
theorem cs5_put (F : Nat → Int) (i : Nat) (x y : Int) (hi : i < 4) : splice (cs5 F i x) i [.int .i64 y] = cs5 F i y := by
  have : i = 0 ∨ i = 1 ∨ i = 2 ∨ i = 3 := by omega
  rcases this with rfl | rfl | rfl | rfl <;> rfl
theorem cs5_next (F : Nat → Int) (i : Nat) (hi : i < 4) : cs5 F i (F i) = cs5 F (i + 1) 0 := by
  have : i = 0 ∨ i = 1 ∨ i = 2 ∨ i = 3 := by omega
  rcases this with rfl | rfl | rfl | rfl <;> rfl
/-- Where a field ends. -/
def fEnd (l : List UInt8) (i : Nat) : Nat := if i = 3 then l.length else 3 * i + 2
def fieldI (l : List UInt8) (i : Nat) : List UInt8 := (l.drop (3 * i)).take (fEnd l i - 3 * i)
theorem fieldsL_eq (l : List UInt8) : fieldsL l = [fieldI l 0, fieldI l 1, fieldI l 2, fieldI l 3] := by
  simp [fieldsL, fieldI, fEnd]
  exact (List.take_of_length_le (by simp)).symm
theorem fieldI_ok {l : List UInt8} (h : 11 ≤ l.length ∧ l.length ≤ 12) {i : Nat} (hi : i < 4) (hd : ∀ b ∈ fieldI l i, isD b) : digOk (fieldI l i) := by
  have hlen : (fieldI l i).length = fEnd l i - 3 * i := by
    unfold fieldI fEnd; simp; split <;> omega
  have : 1 ≤ fEnd l i - 3 * i ∧ fEnd l i - 3 * i ≤ 9 := by unfold fEnd; split <;> omega
  refine ⟨fun q => ?_, by omega, hd⟩
  rw [q] at hlen; simp at hlen; omega
theorem fieldI_mem {l : List UInt8} {i k : Nat} (h : 11 ≤ l.length) (hi : i < 4) (h1 : 3 * i ≤ k) (h2 : k < fEnd l i) (hk : k < l.length) : l[k] ∈ fieldI l i := by
  unfold fieldI
  rw [List.mem_take_iff_getElem]
  refine ⟨k - 3 * i, by simp; omega, ?_⟩
  rw [List.getElem_drop]; congr 1; omega
theorem part_take {l : List UInt8} {i k : Nat} (h1 : 3 * i ≤ k) (hk : k < l.length) : (l.drop (3 * i)).take (k + 1 - 3 * i) = (l.drop (3 * i)).take (k - 3 * i) ++ [l[k]] := by
  rw [show k + 1 - 3 * i = (k - 3 * i) + 1 from by omega, List.take_succ_eq_append_getElem (by simp; omega), List.getElem_drop]
  congr 3; omega
theorem timeOkL_all {r : Rate} {l : List UInt8} (q : timeOkL r l) {i : Nat} (hi : i < 4) : digOk (fieldI l i) := by
  have h3 := q.2.2.1
  rw [fieldsL_eq] at h3
  have : i = 0 ∨ i = 1 ∨ i = 2 ∨ i = 3 := by omega
  rcases this with rfl | rfl | rfl | rfl <;> exact h3 _ (by simp)
theorem valD_step (p : List UInt8) (b : UInt8) : valD (p ++ [b]) = 10 * valD p + (b.toNat - 48) := by
  unfold valD; rw [List.foldl_append]; rfl
theorem specTimeRead_ok (h : Heap) (r : Rate) (l : List UInt8) (hl : l.length ≤ 1000000) : ACall Tryz.prog 44 [.agg (encRate r).toArray, .string (bL l)] h fun x h' => Ext h h' ∧ x = timeRes r l := by
  have B := Bx.new h (encRate r) []
  have eM := Ext.more h [encRate r]
  have rk := specBase_ok (h.more [encRate r]) r
  have hsz : (bL l).size = l.length := bL_size l
  simp only [encRate] at B eM rk
  refine ACall.of Tryz.func44 s44 (of_decide_eq_true rfl) ?_
  simp (maxSteps := 4000000) (disch := omega) only [ah, am, Nat.reduceEqDiff, reduceCtorEq, Nat.reduceAdd, Nat.reduceLeDiff, Nat.reduceMul, Nat.reduceLT, if_true, if_false, true_and, and_true, and_self, Nat.reduceBEq, QOp.loads, boxO, bslO, buildO, cutL, fillV, putL, w44, v44, encRate, B.ld]
  refine stepC.of rk ?_
  rintro _ H1 ⟨e1, rfl⟩
  have B1 := B.ext e1
  have E1 := eM.trans e1
  by_cases hr : rateOk r
  rotate_left
  · rw [if_neg hr]
    simp (maxSteps := 4000000) (disch := omega) only [ah, am, Nat.reduceEqDiff, reduceCtorEq, Nat.reduceAdd, Nat.reduceLeDiff, Nat.reduceMul, Nat.reduceLT, if_true, if_false, true_and, and_true, and_self, Nat.reduceBEq, QOp.loads, boxO, bslO, buildO, cutL, fillV, putL, w44, v44, decide_eq_true (rfl : (0 : Int) = 0)]
    exact ⟨E1, timeRes_bad fun q => hr q.1⟩
  rw [if_pos hr]
  obtain ⟨b1, b2, b3⟩ := base_bd hr
  have cb : decide (((baseN r : Nat) : Int) = 0) = false := decide_eq_false (by omega)
  by_cases n1 : (l.length : Int) < 11
  · simp (maxSteps := 4000000) (disch := omega) only [ah, am, Nat.reduceEqDiff, reduceCtorEq, Nat.reduceAdd, Nat.reduceLeDiff, Nat.reduceMul, Nat.reduceLT, if_true, if_false, true_and, and_true, and_self, Nat.reduceBEq, QOp.loads, boxO, bslO, buildO, cutL, fillV, putL, w44, v44, cb, hsz, decide_eq_true n1]
    exact ⟨E1, timeRes_bad fun q => by have := q.2.1; omega⟩
  by_cases n2 : (12 : Int) < l.length
  · simp (maxSteps := 4000000) (disch := omega) only [ah, am, Nat.reduceEqDiff, reduceCtorEq, Nat.reduceAdd, Nat.reduceLeDiff, Nat.reduceMul, Nat.reduceLT, if_true, if_false, true_and, and_true, and_self, Nat.reduceBEq, QOp.loads, boxO, bslO, buildO, cutL, fillV, putL, w44, v44, cb, hsz, decide_eq_false n1, decide_eq_true n2]
    exact ⟨E1, timeRes_bad fun q => by have := q.2.1; omega⟩
  have hn : 11 ≤ l.length ∧ l.length ≤ 12 := by omega
  obtain ⟨F, hF⟩ : ∃ F : Nat → Int, F = fun i => (valD (fieldI l i) : Int) := ⟨_, rfl⟩
  have e2 := Ext.more H1 [[.int .i64 0, .int .i64 0, .int .i64 0, .int .i64 0]]
  have BF : Bx (H1.more [[.int .i64 0, .int .i64 0, .int .i64 0, .int .i64 0]]) H1.size (cs5 F 0 0) := Bx.new H1 _ []
  have h0 := E1.1
  have hbx := Heap.get_lt B1
  simp (maxSteps := 4000000) (disch := omega) only [ah, am, Nat.reduceEqDiff, reduceCtorEq, Nat.reduceAdd, Nat.reduceLeDiff, Nat.reduceMul, Nat.reduceLT, if_true, if_false, true_and, and_true, and_self, Nat.reduceBEq, QOp.loads, boxO, bslO, buildO, cutL, fillV, putL, w44, v44, cb, hsz, decide_eq_false n1, decide_eq_false n2]
  obtain ⟨H2, hH2⟩ : ∃ H2, H2 = H1.more [[.int .i64 0, .int .i64 0, .int .i64 0, .int .i64 0]] := ⟨_, rfl⟩
  rw [← hH2] at e2 BF ⊢
  have E2 := E1.trans e2
  have B2 := B1.ext e2
  refine SW_loop_up (fun i E K => ExtG H1.size H2 K ∧ Bx K H1.size (cs5 F i 0) ∧ (∀ j, j < i → ∀ b ∈ fieldI l j, isD b) ∧
    E = [(1, .string (bL l)), (2, .pointer (some ⟨h.size, 0, none⟩)), (6, .int .i64 (baseN r : Int)), (7, .slice (some ⟨H1.size, 0, none⟩) 4 1), (8, .int .i64 (i : Int))]) 4 0 (by omega) ⟨ExtG.refl _ _, BF, fun j hj => by omega, rfl⟩ ?_
  rintro i E K hi ⟨G, BK, A, rfl⟩
  have wi : IntKind.i64.wrap ((i : Int) + 1) = ((i + 1 : Nat) : Int) := i64e (by omega) (by omega)
  have w3 : IntKind.i64.wrap (3 * (i : Int)) = ((3 * i : Nat) : Int) := i64e (by omega) (by omega)
  have EK : Ext h K := G.ext E2 h0
  simp (maxSteps := 4000000) (disch := omega) only [ah, am, Nat.reduceEqDiff, reduceCtorEq, Nat.reduceAdd, Nat.reduceLeDiff, Nat.reduceMul, Nat.reduceLT, if_true, if_false, true_and, and_true, and_self, Nat.reduceBEq, QOp.loads, boxO, bslO, buildO, cutL, fillV, putL, w44, v44, w3]
  refine stepI.split (fun hp => ?_) (fun hp => ?_)
  · have hi4 : i < 4 := by omega
    have hE : 3 * i ≤ fEnd l i ∧ fEnd l i ≤ l.length := by unfold fEnd; split <;> omega
    simp (maxSteps := 4000000) (disch := omega) only [ah, am, Nat.reduceEqDiff, reduceCtorEq, Nat.reduceAdd, Nat.reduceLeDiff, Nat.reduceMul, Nat.reduceLT, if_true, if_false, true_and, and_true, and_self, Nat.reduceBEq, QOp.loads, boxO, bslO, buildO, cutL, fillV, putL, w44, v44, w3]
    refine SW_loop_up (fun k E K' => 3 * i ≤ k ∧ ExtG H1.size H2 K' ∧ Bx K' H1.size (cs5 F i (valD ((l.drop (3 * i)).take (k - 3 * i)) : Int)) ∧ (∀ b ∈ (l.drop (3 * i)).take (k - 3 * i), isD b) ∧
      E = [(1, .string (bL l)), (2, .pointer (some ⟨h.size, 0, none⟩)), (6, .int .i64 (baseN r : Int)), (7, .slice (some ⟨H1.size, 0, none⟩) 4 1), (8, .int .i64 (i : Int)), (9, .int .i64 (k : Int))]) (fEnd l i) (3 * i) hE.1
      ⟨Nat.le_refl _, G, by rw [Nat.sub_self, List.take_zero]; exact BK, by simp, rfl⟩ ?_
    rintro k E K' hk ⟨hk0, G', BK', D, rfl⟩
    have wk : IntKind.i64.wrap ((k : Int) + 1) = ((k + 1 : Nat) : Int) := i64e (by omega) (by omega)
    have w32 : IntKind.i64.wrap (((3 * i : Nat) : Int) + 2) = ((3 * i + 2 : Nat) : Int) := i64e (by omega) (by omega)
    by_cases ck : k < fEnd l i
    · have kl : k < l.length := by omega
      have c1 : decide ((k : Int) < (l.length : Int)) = true := decide_eq_true (by omega)
      have IV := ivs_bL l .i64 k kl
      have E' : Ext h K' := G'.ext E2 h0
      have hmem := fieldI_mem hn.1 hi4 hk0 ck kl
      have bad : ¬ isD l[k] → Ext h K' ∧ (.tuple #[.int .i64 0, .bool false] : Value) = timeRes r l := fun q => ⟨E', timeRes_bad fun t => q ((timeOkL_all t hi4).2.2 _ hmem)⟩
      by_cases d1 : (l[k].toNat : Int) < 48
      · by_cases c2 : k < 3 * i + 2
        · have c2' : decide ((k : Int) < ((3 * i + 2 : Nat) : Int)) = true := decide_eq_true (by omega)
          simp (maxSteps := 4000000) (disch := omega) only [ah, am, Nat.reduceEqDiff, reduceCtorEq, Nat.reduceAdd, Nat.reduceLeDiff, Nat.reduceMul, Nat.reduceLT, if_true, if_false, true_and, and_true, and_self, Nat.reduceBEq, QOp.loads, boxO, bslO, buildO, cutL, fillV, putL, w44, v44, w3, w32, c1, c2', hsz, IV, decide_eq_true d1]
          exact bad fun q => by unfold isD at q; omega
        · have c2' : decide ((k : Int) < ((3 * i + 2 : Nat) : Int)) = false := decide_eq_false (by omega)
          have c3' : decide ((i : Int) = 3) = true := decide_eq_true (by unfold fEnd at ck; split at ck <;> omega)
          simp (maxSteps := 4000000) (disch := omega) only [ah, am, Nat.reduceEqDiff, reduceCtorEq, Nat.reduceAdd, Nat.reduceLeDiff, Nat.reduceMul, Nat.reduceLT, if_true, if_false, true_and, and_true, and_self, Nat.reduceBEq, QOp.loads, boxO, bslO, buildO, cutL, fillV, putL, w44, v44, w3, w32, c1, c2', c3', hsz, IV, decide_eq_true d1]
          exact bad fun q => by unfold isD at q; omega
      by_cases d2 : (57 : Int) < (l[k].toNat : Int)
      · by_cases c2 : k < 3 * i + 2
        · have c2' : decide ((k : Int) < ((3 * i + 2 : Nat) : Int)) = true := decide_eq_true (by omega)
          simp (maxSteps := 4000000) (disch := omega) only [ah, am, Nat.reduceEqDiff, reduceCtorEq, Nat.reduceAdd, Nat.reduceLeDiff, Nat.reduceMul, Nat.reduceLT, if_true, if_false, true_and, and_true, and_self, Nat.reduceBEq, QOp.loads, boxO, bslO, buildO, cutL, fillV, putL, w44, v44, w3, w32, c1, c2', hsz, IV, decide_eq_false d1, decide_eq_true d2]
          exact bad fun q => by unfold isD at q; omega
        · have c2' : decide ((k : Int) < ((3 * i + 2 : Nat) : Int)) = false := decide_eq_false (by omega)
          have c3' : decide ((i : Int) = 3) = true := decide_eq_true (by unfold fEnd at ck; split at ck <;> omega)
          simp (maxSteps := 4000000) (disch := omega) only [ah, am, Nat.reduceEqDiff, reduceCtorEq, Nat.reduceAdd, Nat.reduceLeDiff, Nat.reduceMul, Nat.reduceLT, if_true, if_false, true_and, and_true, and_self, Nat.reduceBEq, QOp.loads, boxO, bslO, buildO, cutL, fillV, putL, w44, v44, w3, w32, c1, c2', c3', hsz, IV, decide_eq_false d1, decide_eq_true d2]
          exact bad fun q => by unfold isD at q; omega
      have hpl : ((l.drop (3 * i)).take (k - 3 * i)).length ≤ 9 := by simp; unfold fEnd at ck; split at ck <;> omega
      have hv := valD_lt9 D hpl
      have hpt := part_take hk0 kl
      have hvs := valD_step ((l.drop (3 * i)).take (k - 3 * i)) l[k]
      rw [← hpt] at hvs
      have IA : iaV 1 (.slice (some ⟨H1.size, 0, none⟩) 4 1) (.int .i64 (i : Int)) = some (.pointer (some ⟨H1.size, i, none⟩)) := by
        rw [iaV_slice _ _ _ _ _ _ (by omega) (by omega)]; simp
      have LD : ldV K' (.pointer (some ⟨H1.size, i, none⟩)) = some (.int .i64 (valD ((l.drop (3 * i)).take (k - 3 * i)) : Int)) := by rw [BK'.ld.1, cs5_ld _ _ _ hi4]
      obtain ⟨K2, es, BK2, G2⟩ := BK'.put (o := i) (n := 1) (y := .int .i64 (valD ((l.drop (3 * i)).take (k + 1 - 3 * i)) : Int)) rfl (by simp [cs5]; omega) rfl
      rw [show ((Value.int .i64 (valD ((l.drop (3 * i)).take (k + 1 - 3 * i)) : Int)).cells.toList) = [Value.int .i64 (valD ((l.drop (3 * i)).take (k + 1 - 3 * i)) : Int)] from rfl, cs5_put _ _ _ _ hi4] at BK2
      have D2 : ∀ b ∈ (l.drop (3 * i)).take (k + 1 - 3 * i), isD b := by
        rw [hpt]
        intro b hb
        rcases List.mem_append.mp hb with hb | hb
        · exact D b hb
        · rw [List.mem_singleton] at hb; rw [hb]; unfold isD; omega
      have u1 : IntKind.i64.wrap ((valD ((l.drop (3 * i)).take (k - 3 * i)) : Int) * 10) = ((10 * valD ((l.drop (3 * i)).take (k - 3 * i)) : Nat) : Int) := i64e (by omega) (by omega)
      have u2 : IntKind.u8.wrap ((l[k].toNat : Int) - 48) = ((l[k].toNat - 48 : Nat) : Int) := by rw [u8w (by omega)]; omega
      have u3 : IntKind.i64.wrap ((l[k].toNat - 48 : Nat) : Int) = ((l[k].toNat - 48 : Nat) : Int) := i64e rfl (by omega)
      have u4 : IntKind.i64.wrap (((10 * valD ((l.drop (3 * i)).take (k - 3 * i)) : Nat) : Int) + ((l[k].toNat - 48 : Nat) : Int)) = (valD ((l.drop (3 * i)).take (k + 1 - 3 * i)) : Int) := i64e (by rw [hvs]; omega) (by rw [hvs]; omega)
      by_cases c2 : k < 3 * i + 2
      · have c2' : decide ((k : Int) < ((3 * i + 2 : Nat) : Int)) = true := decide_eq_true (by omega)
        simp (maxSteps := 4000000) (disch := omega) only [ah, am, Nat.reduceEqDiff, reduceCtorEq, Nat.reduceAdd, Nat.reduceLeDiff, Nat.reduceMul, Nat.reduceLT, if_true, if_false, true_and, and_true, and_self, Nat.reduceBEq, QOp.loads, boxO, bslO, buildO, cutL, fillV, putL, w44, v44, w3, w32, c1, c2', hsz, IV, decide_eq_false d1, decide_eq_false d2, IA, LD, u1, u2, u3, u4, es, wk]
        exact ⟨ck, by omega, G'.trans G2, BK2, D2⟩
      · have c2' : decide ((k : Int) < ((3 * i + 2 : Nat) : Int)) = false := decide_eq_false (by omega)
        have c3' : decide ((i : Int) = 3) = true := decide_eq_true (by unfold fEnd at ck; split at ck <;> omega)
        simp (maxSteps := 4000000) (disch := omega) only [ah, am, Nat.reduceEqDiff, reduceCtorEq, Nat.reduceAdd, Nat.reduceLeDiff, Nat.reduceMul, Nat.reduceLT, if_true, if_false, true_and, and_true, and_self, Nat.reduceBEq, QOp.loads, boxO, bslO, buildO, cutL, fillV, putL, w44, v44, w3, w32, c1, c2', c3', hsz, IV, decide_eq_false d1, decide_eq_false d2, IA, LD, u1, u2, u3, u4, es, wk]
        exact ⟨ck, by omega, G'.trans G2, BK2, D2⟩
    · have hke : k = fEnd l i := by omega
      have Dn : ∀ j, j < i + 1 → ∀ b ∈ fieldI l j, isD b := fun j hj => by
        by_cases e : j = i
        · rw [e]; rw [hke] at D; exact D
        · exact A j (by omega)
      have BN : Bx K' H1.size (cs5 F (i + 1) 0) := by
        rw [← cs5_next F i hi4]
        rw [hke] at BK'
        rw [hF]
        rw [hF] at BK'
        exact BK'
      by_cases i3 : i = 3
      · have c1 : decide ((k : Int) < (l.length : Int)) = false := decide_eq_false (by rw [hke]; unfold fEnd; rw [if_pos i3]; omega)
        simp (maxSteps := 4000000) (disch := omega) only [ah, am, Nat.reduceEqDiff, reduceCtorEq, Nat.reduceAdd, Nat.reduceLeDiff, Nat.reduceMul, Nat.reduceLT, if_true, if_false, true_and, and_true, and_self, Nat.reduceBEq, QOp.loads, boxO, bslO, buildO, cutL, fillV, putL, w44, v44, w3, w32, c1, hsz, wi]
        exact ⟨hi4, G', BN, Dn⟩
      · have hk2 : k = 3 * i + 2 := by rw [hke]; unfold fEnd; rw [if_neg i3]
        have c1 : decide ((k : Int) < (l.length : Int)) = true := decide_eq_true (by omega)
        have c2 : decide ((k : Int) < ((3 * i + 2 : Nat) : Int)) = false := decide_eq_false (by omega)
        have c3 : decide ((i : Int) = 3) = false := decide_eq_false (by omega)
        simp (maxSteps := 4000000) (disch := omega) only [ah, am, Nat.reduceEqDiff, reduceCtorEq, Nat.reduceAdd, Nat.reduceLeDiff, Nat.reduceMul, Nat.reduceLT, if_true, if_false, true_and, and_true, and_self, Nat.reduceBEq, QOp.loads, boxO, bslO, buildO, cutL, fillV, putL, w44, v44, w3, w32, c1, c2, c3, hsz, wi]
        exact ⟨hi4, G', BN, Dn⟩
  · have hi4 : i = 4 := by omega
    subst hi4
    have f0 : fieldI l 0 = l.take 2 := by simp [fieldI, fEnd]
    have f1 : fieldI l 1 = (l.drop 3).take 2 := by simp [fieldI, fEnd]
    have f2 : fieldI l 2 = (l.drop 6).take 2 := by simp [fieldI, fEnd]
    have f3 : fieldI l 3 = l.drop 9 := by simp [fieldI, fEnd]; exact List.take_of_length_le (by simp)
    have BK4 : Bx K H1.size [.int .i64 (valD (l.take 2) : Int), .int .i64 (valD ((l.drop 3).take 2) : Int), .int .i64 (valD ((l.drop 6).take 2) : Int), .int .i64 (valD (l.drop 9) : Int)] := by
      have h4 : Bx K H1.size [.int .i64 (F 0), .int .i64 (F 1), .int .i64 (F 2), .int .i64 (F 3)] := BK
      rw [hF] at h4
      simp only [f0, f1, f2, f3] at h4
      exact h4
    have BR := B2.step G (by omega)
    have hlf := left_le r
    have AF : ∀ f ∈ fieldsL l, digOk f := by
      rw [fieldsL_eq]
      intro f hf
      simp only [List.mem_cons, List.not_mem_nil, or_false] at hf
      rcases hf with rfl | rfl | rfl | rfl
      · exact fieldI_ok hn (by omega) (A 0 (by omega))
      · exact fieldI_ok hn (by omega) (A 1 (by omega))
      · exact fieldI_ok hn (by omega) (A 2 (by omega))
      · exact fieldI_ok hn (by omega) (A 3 (by omega))
    have fin : timeL r (frameI r l) = l → timeOkL r l := fun q => ⟨hr, hn, AF, q⟩
    have bad : timeL r (frameI r l) ≠ l → ¬ timeOkL r l := fun q t => q t.2.2.2
    have da := AF (l.take 2) (by simp [fieldsL])
    have db := AF ((l.drop 3).take 2) (by simp [fieldsL])
    have dc := AF ((l.drop 6).take 2) (by simp [fieldsL])
    have dd := AF (l.drop 9) (by simp [fieldsL])
    have va : valD (l.take 2) < 100 := Nat.lt_of_lt_of_le (valD_lt _ da.2.2) (Nat.pow_le_pow_right (by omega) (by simp; omega) : 10 ^ _ ≤ 10 ^ 2)
    have vb : valD ((l.drop 3).take 2) < 100 := Nat.lt_of_lt_of_le (valD_lt _ db.2.2) (Nat.pow_le_pow_right (by omega) (by simp; omega) : 10 ^ _ ≤ 10 ^ 2)
    have vc : valD ((l.drop 6).take 2) < 100 := Nat.lt_of_lt_of_le (valD_lt _ dc.2.2) (Nat.pow_le_pow_right (by omega) (by simp; omega) : 10 ^ _ ≤ 10 ^ 2)
    have vd : valD (l.drop 9) < 1000 := Nat.lt_of_lt_of_le (valD_lt _ dd.2.2) (Nat.pow_le_pow_right (by omega) (by simp; omega) : 10 ^ _ ≤ 10 ^ 3)
    have hFI : frameI r l = ((60 * (60 * valD (l.take 2) + valD ((l.drop 3).take 2)) + valD ((l.drop 6).take 2)) * baseN r + valD (l.drop 9) : Nat) - (leftN r * ((60 * valD (l.take 2) + valD ((l.drop 3).take 2)) - (60 * valD (l.take 2) + valD ((l.drop 3).take 2)) / 10) : Nat) := rfl
    clear AF da db dc dd A BK f0 f1 f2 f3
    generalize valD (l.take 2) = a at *
    generalize valD ((l.drop 3).take 2) = b at *
    generalize valD ((l.drop 6).take 2) = c at *
    generalize valD (l.drop 9) = d at *
    obtain ⟨m, hm⟩ : ∃ m, m = 60 * a + b := ⟨_, rfl⟩
    rw [← hm] at hFI
    obtain ⟨sc, hsc⟩ : ∃ q, q = 60 * m + c := ⟨_, rfl⟩
    rw [← hsc] at hFI
    have w1 : IntKind.i64.wrap ((a : Int) * 60) = ((60 * a : Nat) : Int) := i64e (by omega) (by omega)
    have w2 : IntKind.i64.wrap (((60 * a : Nat) : Int) + (b : Int)) = (m : Int) := i64e (by omega) (by omega)
    have w3' : IntKind.i64.wrap ((m : Int) * 60) = ((60 * m : Nat) : Int) := i64e (by omega) (by omega)
    have w4 : IntKind.i64.wrap (((60 * m : Nat) : Int) + (c : Int)) = (sc : Int) := i64e (by omega) (by omega)
    have q10 : IntKind.i64.wrap ((m : Int).tdiv 10) = ((m / 10 : Nat) : Int) := i64e (tdivN m 10) (by omega)
    have n10 : (10 : Int) ≠ 0 := by omega
    have n15 : (15 : Int) ≠ 0 := by omega
    have w5 : IntKind.i64.wrap ((m : Int) - ((m / 10 : Nat) : Int)) = ((m - m / 10 : Nat) : Int) := i64e (by omega) (by omega)
    have pm : sc * baseN r ≤ 1000000 * 120 := Nat.mul_le_mul (by omega) (by omega)
    have w6 : IntKind.i64.wrap ((sc : Int) * (baseN r : Int)) = ((sc * baseN r : Nat) : Int) := i64e (by rw [Int.natCast_mul sc]) (by omega)
    have w7 : IntKind.i64.wrap (((sc * baseN r : Nat) : Int) + (d : Int)) = ((sc * baseN r + d : Nat) : Int) := i64e (by omega) (by omega)
    have pl : leftN r * (m - m / 10) ≤ 4 * 1000000 := Nat.mul_le_mul hlf (by omega)
    have w8 : IntKind.i64.wrap ((leftN r : Int) * ((m - m / 10 : Nat) : Int)) = ((leftN r * (m - m / 10) : Nat) : Int) := i64e (by rw [Int.natCast_mul (leftN r)]) (by omega)
    have w9 : IntKind.i64.wrap (((sc * baseN r + d : Nat) : Int) - ((leftN r * (m - m / 10) : Nat) : Int)) = frameI r l := i64e (by rw [hFI]) (by rw [hFI]; omega)
    have IAs : ∀ q : Nat, q < 4 → iaV 1 (.slice (some ⟨H1.size, 0, none⟩) 4 1) (.int .i64 (q : Int)) = some (.pointer (some ⟨H1.size, q, none⟩)) := fun q hq => by rw [iaV_slice _ _ _ _ _ _ (by omega) (by omega)]; simp
    have IA0 : iaV 1 (.slice (some ⟨H1.size, 0, none⟩) 4 1) (.int .i64 0) = some (.pointer (some ⟨H1.size, 0, none⟩)) := IAs 0 (by omega)
    have IA1 : iaV 1 (.slice (some ⟨H1.size, 0, none⟩) 4 1) (.int .i64 1) = some (.pointer (some ⟨H1.size, 1, none⟩)) := IAs 1 (by omega)
    have IA2 : iaV 1 (.slice (some ⟨H1.size, 0, none⟩) 4 1) (.int .i64 2) = some (.pointer (some ⟨H1.size, 2, none⟩)) := IAs 2 (by omega)
    have IA3 : iaV 1 (.slice (some ⟨H1.size, 0, none⟩) 4 1) (.int .i64 3) = some (.pointer (some ⟨H1.size, 3, none⟩)) := IAs 3 (by omega)
    have last : ∀ E : Env, E.get 1 = some (.string (bL l)) → E.get 2 = some (.pointer (some ⟨h.size, 0, none⟩)) → E.get 10 = some (.int .i64 (frameI r l)) → SW Tryz.prog c44_51 (retQ v44 fun x h' => Ext h h' ∧ x = timeRes r l) E K := by
      intro E g1 g2 g10
      by_cases c0 : frameI r l < 0
      · simp (maxSteps := 4000000) (disch := omega) only [ah, am, Nat.reduceEqDiff, reduceCtorEq, Nat.reduceAdd, Nat.reduceLeDiff, Nat.reduceMul, Nat.reduceLT, if_true, if_false, true_and, and_true, and_self, Nat.reduceBEq, QOp.loads, boxO, bslO, buildO, cutL, fillV, putL, w44, v44, g1, g2, g10, decide_eq_true c0]
        refine ⟨EK, timeRes_bad (bad fun q => ?_)⟩
        have : timeL r (frameI r l) = [] := if_neg fun t => by omega
        rw [this] at q
        rw [← q] at hn; simp at hn
      have tk := specTimeText_ok K r (frameI r l)
      simp only [encRate] at tk
      simp (maxSteps := 4000000) (disch := omega) only [ah, am, Nat.reduceEqDiff, reduceCtorEq, Nat.reduceAdd, Nat.reduceLeDiff, Nat.reduceMul, Nat.reduceLT, if_true, if_false, true_and, and_true, and_self, Nat.reduceBEq, QOp.loads, boxO, bslO, buildO, cutL, fillV, putL, w44, v44, g1, g2, g10, decide_eq_false c0, BR.ld]
      refine stepC.of tk ?_
      rintro _ K4 ⟨e4, rfl⟩
      by_cases ct : timeL r (frameI r l) = l
      · have N : strB .neq (bL (timeL r (frameI r l))) (bL l) = some (.bool false) := by rw [ct, strB_neq]; simp
        simp (maxSteps := 4000000) (disch := omega) only [ah, am, Nat.reduceEqDiff, reduceCtorEq, Nat.reduceAdd, Nat.reduceLeDiff, Nat.reduceMul, Nat.reduceLT, if_true, if_false, true_and, and_true, and_self, Nat.reduceBEq, QOp.loads, boxO, bslO, buildO, cutL, fillV, putL, w44, v44, g1, g2, g10, N]
        exact ⟨EK.trans e4, timeRes_ok (fin ct)⟩
      · have N : strB .neq (bL (timeL r (frameI r l))) (bL l) = some (.bool true) := by rw [strB_neq, bL_data, bL_data, decide_eq_false ct]; rfl
        simp (maxSteps := 4000000) (disch := omega) only [ah, am, Nat.reduceEqDiff, reduceCtorEq, Nat.reduceAdd, Nat.reduceLeDiff, Nat.reduceMul, Nat.reduceLT, if_true, if_false, true_and, and_true, and_self, Nat.reduceBEq, QOp.loads, boxO, bslO, buildO, cutL, fillV, putL, w44, v44, g1, g2, g10, N]
        exact ⟨EK.trans e4, timeRes_bad (bad ct)⟩
    rw [c44_53.eq_1, c44_52.eq_1]
    generalize c44_51 = fc at last ⊢
    cases hd : r.drop with
    | false =>
      rw [hd] at BR
      have z : frameI r l = ((sc * baseN r + d : Nat) : Int) := by rw [hFI]; unfold leftN; rw [hd]; simp
      rw [z] at last
      simp (maxSteps := 4000000) (disch := omega) only [ah, am, Nat.reduceEqDiff, reduceCtorEq, Nat.reduceAdd, Nat.reduceLeDiff, Nat.reduceMul, Nat.reduceLT, if_true, if_false, true_and, and_true, and_self, Nat.reduceBEq, QOp.loads, boxO, bslO, buildO, cutL, fillV, putL, w44, v44, IA0, IA1, IA2, IA3, BK4.ld, BR.ld, w1, w2, w3', w4, w6, w7]
      exact last _ rfl rfl rfl
    | true =>
      rw [hd] at BR
      have hbl := drop_two hr hd
      have wo : IntKind.i64.wrap ((baseN r : Int).tdiv 15) = (leftN r : Int) := i64e ((tdivN (baseN r) 15).trans (by omega)) (by omega)
      simp (maxSteps := 4000000) (disch := omega) only [ah, am, Nat.reduceEqDiff, reduceCtorEq, Nat.reduceAdd, Nat.reduceLeDiff, Nat.reduceMul, Nat.reduceLT, if_true, if_false, true_and, and_true, and_self, Nat.reduceBEq, QOp.loads, boxO, bslO, buildO, cutL, fillV, putL, w44, v44, IA0, IA1, IA2, IA3, BK4.ld, BR.ld, w1, w2, w3', w4, w6, w7, n10, n15, ne_eq, not_false_eq_true, wo, q10, w5, w8, w9]
      exact last _ rfl rfl rfl
end Go.Proofs.YtgmimgmdbpcecaaGreatDoor
end

section
namespace Go.Proofs.YtgmimgmdbpcecaaGreatDoor
open Go Go.Ah
set_option linter.unusedSimpArgs false
set_option linter.unusedVariables false
set_option maxRecDepth 10000
set_option maxHeartbeats 4000000
/-! 94 strings.HasPrefix: parameters 2, live [0, 1], slots [0:s, 1:prefix, 2:s, 3:prefix] -/
def c94_0 : List SOper := [⟨some 4, .q (.mv (.c (.bool false))), none⟩]
def c94_1 : List SOper := [⟨some 5, .q (.mv (.t 0)), none⟩, ⟨some 6, .q (.mv (.t 1)), none⟩, ⟨some 7, .e (.call 111 [(.t 5), (.t 6)]), none⟩, ⟨some 4, .q (.mv (.t 7)), none⟩]
def c94_2 : SCode := .seq (.region c94_1 [4]) .ret
def c94_3 : SCode := .seq (.region c94_0 [0, 1]) c94_2
def c94 : SCode := c94_3
theorem w94 : type_of% (And.intro (uR Tryz.prog c94_0.eq_1) (And.intro (uR Tryz.prog c94_1.eq_1) (And.intro (uC Tryz.prog c94_2.eq_1) (And.intro (uC Tryz.prog c94_3.eq_1) (uC Tryz.prog c94.eq_1))))) := (And.intro (uR Tryz.prog c94_0.eq_1) (And.intro (uR Tryz.prog c94_1.eq_1) (And.intro (uC Tryz.prog c94_2.eq_1) (And.intro (uC Tryz.prog c94_3.eq_1) (uC Tryz.prog c94.eq_1)))))
def v94 : List RV := [.t 4]
theorem s94 : slimF Tryz.prog Tryz.f94 = some (c94.bare, v94) := by kernel_rfl
/-! 111 internal/stringslite.HasPrefix: parameters 2, live [0, 1], slots [0:s, 1:prefix, 2:s, 3:prefix] -/
def c111_0 : List SOper := [⟨some 4, .q (.mv (.c (.bool false))), none⟩]
def c111_1 : List SOper := [⟨some 5, .q (.mv (.t 0)), none⟩, ⟨some 6, .q (.lens (.t 5)), none⟩, ⟨some 7, .q (.mv (.t 1)), none⟩, ⟨some 8, .q (.lens (.t 7)), none⟩, ⟨some 9, .q (.bin .geq (.t 6) (.t 8)), none⟩, ⟨some 10, .q (.mv (.t 9)), none⟩, ⟨some 11, .q (.mv (.t 0)), some (10, true)⟩, ⟨some 12, .q (.mv (.t 1)), some (10, true)⟩, ⟨some 13, .q (.lens (.t 12)), some (10, true)⟩, ⟨some 14, .q (.sls (.t 11) none (some (.t 13))), some (10, true)⟩, ⟨some 15, .q (.mv (.t 1)), some (10, true)⟩, ⟨some 16, .q (.bin .eql (.t 14) (.t 15)), some (10, true)⟩, ⟨some 17, .q (.pick (.t 10) (.t 16) (.c (.bool false))), none⟩, ⟨some 4, .q (.mv (.t 17)), none⟩]
def c111_2 : SCode := .seq (.region c111_1 [4]) .ret
def c111_3 : SCode := .seq (.region c111_0 [0, 1]) c111_2
def c111 : SCode := c111_3
theorem w111 : type_of% (And.intro (uR Tryz.prog c111_0.eq_1) (And.intro (uR Tryz.prog c111_1.eq_1) (And.intro (uC Tryz.prog c111_2.eq_1) (And.intro (uC Tryz.prog c111_3.eq_1) (uC Tryz.prog c111.eq_1))))) := (And.intro (uR Tryz.prog c111_0.eq_1) (And.intro (uR Tryz.prog c111_1.eq_1) (And.intro (uC Tryz.prog c111_2.eq_1) (And.intro (uC Tryz.prog c111_3.eq_1) (uC Tryz.prog c111.eq_1)))))
def v111 : List RV := [.t 4]
theorem s111 : slimF Tryz.prog Tryz.f111 = some (c111.bare, v111) := by kernel_rfl
/-! 97 strings.TrimPrefix: parameters 2, live [0, 1], slots [0:s, 1:prefix, 2:s, 3:prefix] -/
def c97_0 : List SOper := [⟨some 4, .q (.mv (.c (.string ⟨#[]⟩))), none⟩]
def c97_1 : List SOper := [⟨some 5, .q (.mv (.t 0)), none⟩, ⟨some 6, .q (.mv (.t 1)), none⟩, ⟨some 7, .e (.call 112 [(.t 5), (.t 6)]), none⟩, ⟨some 4, .q (.mv (.t 7)), none⟩]
def c97_2 : SCode := .seq (.region c97_1 [4]) .ret
def c97_3 : SCode := .seq (.region c97_0 [0, 1]) c97_2
def c97 : SCode := c97_3
theorem w97 : type_of% (And.intro (uR Tryz.prog c97_0.eq_1) (And.intro (uR Tryz.prog c97_1.eq_1) (And.intro (uC Tryz.prog c97_2.eq_1) (And.intro (uC Tryz.prog c97_3.eq_1) (uC Tryz.prog c97.eq_1))))) := (And.intro (uR Tryz.prog c97_0.eq_1) (And.intro (uR Tryz.prog c97_1.eq_1) (And.intro (uC Tryz.prog c97_2.eq_1) (And.intro (uC Tryz.prog c97_3.eq_1) (uC Tryz.prog c97.eq_1)))))
def v97 : List RV := [.t 4]
theorem s97 : slimF Tryz.prog Tryz.f97 = some (c97.bare, v97) := by kernel_rfl
/-! 112 internal/stringslite.TrimPrefix: parameters 2, live [0, 1], slots [0:s, 1:prefix, 2:s, 3:prefix] -/
def c112_0 : List SOper := [⟨some 4, .q (.mv (.c (.string ⟨#[]⟩))), none⟩]
def c112_1 : List SOper := [⟨some 5, .q (.mv (.t 0)), none⟩, ⟨some 6, .q (.mv (.t 1)), none⟩, ⟨some 7, .e (.call 111 [(.t 5), (.t 6)]), none⟩]
def c112_2 : List SOper := [⟨some 8, .q (.mv (.t 0)), none⟩, ⟨some 9, .q (.mv (.t 1)), none⟩, ⟨some 10, .q (.lens (.t 9)), none⟩, ⟨some 11, .q (.sls (.t 8) (some (.t 10)) none), none⟩, ⟨some 4, .q (.mv (.t 11)), none⟩]
def c112_3 : SCode := .seq (.region c112_2 [4]) .ret
def c112_4 : SCode := .cond (.t 7) c112_3 .skip
def c112_5 : SCode := .seq (.region c112_1 [0, 1, 7]) c112_4
def c112_6 : List SOper := [⟨some 12, .q (.mv (.t 0)), none⟩, ⟨some 4, .q (.mv (.t 12)), none⟩]
def c112_7 : SCode := .seq (.region c112_6 [4]) .ret
def c112_8 : SCode := .seq c112_5 c112_7
def c112_9 : SCode := .seq (.region c112_0 [0, 1]) c112_8
def c112 : SCode := c112_9
theorem w112 : type_of% (And.intro (uR Tryz.prog c112_0.eq_1) (And.intro (uR Tryz.prog c112_1.eq_1) (And.intro (uR Tryz.prog c112_2.eq_1) (And.intro (uC Tryz.prog c112_3.eq_1) (And.intro (uC Tryz.prog c112_4.eq_1) (And.intro (uC Tryz.prog c112_5.eq_1) (And.intro (uR Tryz.prog c112_6.eq_1) (And.intro (uC Tryz.prog c112_7.eq_1) (And.intro (uC Tryz.prog c112_8.eq_1) (And.intro (uC Tryz.prog c112_9.eq_1) (uC Tryz.prog c112.eq_1))))))))))) := (And.intro (uR Tryz.prog c112_0.eq_1) (And.intro (uR Tryz.prog c112_1.eq_1) (And.intro (uR Tryz.prog c112_2.eq_1) (And.intro (uC Tryz.prog c112_3.eq_1) (And.intro (uC Tryz.prog c112_4.eq_1) (And.intro (uC Tryz.prog c112_5.eq_1) (And.intro (uR Tryz.prog c112_6.eq_1) (And.intro (uC Tryz.prog c112_7.eq_1) (And.intro (uC Tryz.prog c112_8.eq_1) (And.intro (uC Tryz.prog c112_9.eq_1) (uC Tryz.prog c112.eq_1)))))))))))
def v112 : List RV := [.t 4]
theorem s112 : slimF Tryz.prog Tryz.f112 = some (c112.bare, v112) := by kernel_rfl
/-! 73 strings.CutPrefix: parameters 2, live [0, 1], slots [0:s, 1:prefix, 2:s, 3:prefix, 4:after, 5:found] -/
def c73_0 : List SOper := [⟨some 4, .q (.mv (.c (.string ⟨#[]⟩))), none⟩, ⟨some 5, .q (.mv (.c (.bool false))), none⟩]
def c73_1 : List SOper := [⟨some 6, .q (.mv (.t 0)), none⟩, ⟨some 7, .q (.mv (.t 1)), none⟩, ⟨some 8, .e (.call 96 [(.t 6), (.t 7)]), none⟩, ⟨some 9, .q (.ext (.t 8) 0), none⟩, ⟨some 10, .q (.ext (.t 8) 1), none⟩, ⟨some 4, .q (.mv (.t 9)), none⟩, ⟨some 5, .q (.mv (.t 10)), none⟩]
def c73_2 : SCode := .seq (.region c73_1 [4, 5]) .ret
def c73_3 : SCode := .seq (.region c73_0 [0, 1]) c73_2
def c73 : SCode := c73_3
theorem w73 : type_of% (And.intro (uR Tryz.prog c73_0.eq_1) (And.intro (uR Tryz.prog c73_1.eq_1) (And.intro (uC Tryz.prog c73_2.eq_1) (And.intro (uC Tryz.prog c73_3.eq_1) (uC Tryz.prog c73.eq_1))))) := (And.intro (uR Tryz.prog c73_0.eq_1) (And.intro (uR Tryz.prog c73_1.eq_1) (And.intro (uC Tryz.prog c73_2.eq_1) (And.intro (uC Tryz.prog c73_3.eq_1) (uC Tryz.prog c73.eq_1)))))
def v73 : List RV := [.t 4, .t 5]
theorem s73 : slimF Tryz.prog Tryz.f73 = some (c73.bare, v73) := by kernel_rfl
/-! 96 internal/stringslite.CutPrefix: parameters 2, live [0, 1], slots [0:s, 1:prefix, 2:s, 3:prefix, 4:after, 5:found] -/
def c96_0 : List SOper := [⟨some 4, .q (.mv (.c (.string ⟨#[]⟩))), none⟩, ⟨some 5, .q (.mv (.c (.bool false))), none⟩]
def c96_1 : List SOper := [⟨some 6, .q (.mv (.t 0)), none⟩, ⟨some 7, .q (.mv (.t 1)), none⟩, ⟨some 8, .e (.call 111 [(.t 6), (.t 7)]), none⟩, ⟨some 9, .q (.not (.t 8)), none⟩]
def c96_2 : List SOper := [⟨some 10, .q (.mv (.t 0)), none⟩, ⟨some 4, .q (.mv (.t 10)), none⟩, ⟨some 5, .q (.mv (.c (.bool false))), none⟩]
def c96_3 : SCode := .seq (.region c96_2 [4, 5]) .ret
def c96_4 : SCode := .cond (.t 9) c96_3 .skip
def c96_5 : SCode := .seq (.region c96_1 [0, 1, 9]) c96_4
def c96_6 : List SOper := [⟨some 11, .q (.mv (.t 0)), none⟩, ⟨some 12, .q (.mv (.t 1)), none⟩, ⟨some 13, .q (.lens (.t 12)), none⟩, ⟨some 14, .q (.sls (.t 11) (some (.t 13)) none), none⟩, ⟨some 4, .q (.mv (.t 14)), none⟩, ⟨some 5, .q (.mv (.c (.bool true))), none⟩]
def c96_7 : SCode := .seq (.region c96_6 [4, 5]) .ret
def c96_8 : SCode := .seq c96_5 c96_7
def c96_9 : SCode := .seq (.region c96_0 [0, 1]) c96_8
def c96 : SCode := c96_9
theorem w96 : type_of% (And.intro (uR Tryz.prog c96_0.eq_1) (And.intro (uR Tryz.prog c96_1.eq_1) (And.intro (uR Tryz.prog c96_2.eq_1) (And.intro (uC Tryz.prog c96_3.eq_1) (And.intro (uC Tryz.prog c96_4.eq_1) (And.intro (uC Tryz.prog c96_5.eq_1) (And.intro (uR Tryz.prog c96_6.eq_1) (And.intro (uC Tryz.prog c96_7.eq_1) (And.intro (uC Tryz.prog c96_8.eq_1) (And.intro (uC Tryz.prog c96_9.eq_1) (uC Tryz.prog c96.eq_1))))))))))) := (And.intro (uR Tryz.prog c96_0.eq_1) (And.intro (uR Tryz.prog c96_1.eq_1) (And.intro (uR Tryz.prog c96_2.eq_1) (And.intro (uC Tryz.prog c96_3.eq_1) (And.intro (uC Tryz.prog c96_4.eq_1) (And.intro (uC Tryz.prog c96_5.eq_1) (And.intro (uR Tryz.prog c96_6.eq_1) (And.intro (uC Tryz.prog c96_7.eq_1) (And.intro (uC Tryz.prog c96_8.eq_1) (And.intro (uC Tryz.prog c96_9.eq_1) (uC Tryz.prog c96.eq_1)))))))))))
def v96 : List RV := [.t 4, .t 5]
theorem s96 : slimF Tryz.prog Tryz.f96 = some (c96.bare, v96) := by kernel_rfl

/-- Whether a text begins with a byte. -/
def hp (c : UInt8) (l : List UInt8) : Prop := l.take 1 = [c]
instance (c : UInt8) (l : List UInt8) : Decidable (hp c l) := by unfold hp; infer_instance
theorem slHasPrefix_ok (h : Heap) (l : List UInt8) (c : UInt8) (hl : l.length ≤ 1000000) : ACall Tryz.prog 111 [.string (bL l), .string (bL [c])] h fun r h' => h' = h ∧ r = .bool (decide (hp c l)) := by
  have hsz : (bL l).size = l.length := bL_size l
  have hs1 : (((bL [c]).size : Nat) : Int) = 1 := rfl
  refine ACall.of Tryz.func111 s111 (of_decide_eq_true rfl) ?_
  by_cases c1 : (1 : Int) ≤ l.length
  · have s1 : slsV (.string (bL l)) none (some (.int .i64 1)) = _ := sls_b l .i64 1 (by omega)
    have e : strB .eql (bL (l.take 1)) (bL [c]) = some (.bool (decide (hp c l))) := strB_eql _ _
    simp (maxSteps := 4000000) (disch := omega) only [ah, am, Nat.reduceEqDiff, reduceCtorEq, Nat.reduceAdd, Nat.reduceLeDiff, Nat.reduceMul, Nat.reduceLT, if_true, if_false, true_and, and_true, and_self, Nat.reduceBEq, QOp.loads, boxO, bslO, buildO, cutL, fillV, putL, w111, v111, hsz, hs1, decide_eq_true c1, s1, e, ge_iff_le]
  · simp (maxSteps := 4000000) (disch := omega) only [ah, am, Nat.reduceEqDiff, reduceCtorEq, Nat.reduceAdd, Nat.reduceLeDiff, Nat.reduceMul, Nat.reduceLT, if_true, if_false, true_and, and_true, and_self, Nat.reduceBEq, QOp.loads, boxO, bslO, buildO, cutL, fillV, putL, w111, v111, hsz, hs1, decide_eq_false c1, ge_iff_le]
    rw [decide_eq_false]
    intro q
    unfold hp at q
    have : l = [] := List.eq_nil_of_length_eq_zero (by omega)
    rw [this] at q; cases q
theorem HasPrefix_ok (h : Heap) (l : List UInt8) (c : UInt8) (hl : l.length ≤ 1000000) : ACall Tryz.prog 94 [.string (bL l), .string (bL [c])] h fun r h' => h' = h ∧ r = .bool (decide (hp c l)) := by
  refine ACall.of Tryz.func94 s94 (of_decide_eq_true rfl) ?_
  simp (maxSteps := 4000000) (disch := omega) only [ah, am, Nat.reduceEqDiff, reduceCtorEq, Nat.reduceAdd, Nat.reduceLeDiff, Nat.reduceMul, Nat.reduceLT, if_true, if_false, true_and, and_true, and_self, Nat.reduceBEq, QOp.loads, boxO, bslO, buildO, cutL, fillV, putL, w94, v94]
  refine stepC.of (slHasPrefix_ok h l c hl) ?_
  rintro _ Hx ⟨hx, rfl⟩; rw [hx]; clear hx Hx
  simp (maxSteps := 4000000) (disch := omega) only [ah, am, Nat.reduceEqDiff, reduceCtorEq, Nat.reduceAdd, Nat.reduceLeDiff, Nat.reduceMul, Nat.reduceLT, if_true, if_false, true_and, and_true, and_self, Nat.reduceBEq, QOp.loads, boxO, bslO, buildO, cutL, fillV, putL, w94, v94]
theorem slTrimPrefix_ok (h : Heap) (l : List UInt8) (c : UInt8) (hl : l.length ≤ 1000000) : ACall Tryz.prog 112 [.string (bL l), .string (bL [c])] h fun r h' => h' = h ∧ r = .string (bL (if hp c l then l.drop 1 else l)) := by
  have hs1 : (((bL [c]).size : Nat) : Int) = 1 := rfl
  refine ACall.of Tryz.func112 s112 (of_decide_eq_true rfl) ?_
  simp (maxSteps := 4000000) (disch := omega) only [ah, am, Nat.reduceEqDiff, reduceCtorEq, Nat.reduceAdd, Nat.reduceLeDiff, Nat.reduceMul, Nat.reduceLT, if_true, if_false, true_and, and_true, and_self, Nat.reduceBEq, QOp.loads, boxO, bslO, buildO, cutL, fillV, putL, w112, v112]
  refine stepC.of (slHasPrefix_ok h l c hl) ?_
  rintro _ Hx ⟨hx, rfl⟩; rw [hx]; clear hx Hx
  by_cases q : hp c l
  · have hl1 : 1 ≤ l.length := by
      cases l with
      | nil => cases q
      | cons b t => simp
    have s1 : slsV (.string (bL l)) (some (.int .i64 1)) none = _ := sls_a l .i64 1 hl1
    simp (maxSteps := 4000000) (disch := omega) only [ah, am, Nat.reduceEqDiff, reduceCtorEq, Nat.reduceAdd, Nat.reduceLeDiff, Nat.reduceMul, Nat.reduceLT, if_true, if_false, true_and, and_true, and_self, Nat.reduceBEq, QOp.loads, boxO, bslO, buildO, cutL, fillV, putL, w112, v112, decide_eq_true q, hs1, s1]
    rw [if_pos q]
  · simp (maxSteps := 4000000) (disch := omega) only [ah, am, Nat.reduceEqDiff, reduceCtorEq, Nat.reduceAdd, Nat.reduceLeDiff, Nat.reduceMul, Nat.reduceLT, if_true, if_false, true_and, and_true, and_self, Nat.reduceBEq, QOp.loads, boxO, bslO, buildO, cutL, fillV, putL, w112, v112, decide_eq_false q]
    rw [if_neg q]
theorem TrimPrefix_ok (h : Heap) (l : List UInt8) (c : UInt8) (hl : l.length ≤ 1000000) : ACall Tryz.prog 97 [.string (bL l), .string (bL [c])] h fun r h' => h' = h ∧ r = .string (bL (if hp c l then l.drop 1 else l)) := by
  refine ACall.of Tryz.func97 s97 (of_decide_eq_true rfl) ?_
  simp (maxSteps := 4000000) (disch := omega) only [ah, am, Nat.reduceEqDiff, reduceCtorEq, Nat.reduceAdd, Nat.reduceLeDiff, Nat.reduceMul, Nat.reduceLT, if_true, if_false, true_and, and_true, and_self, Nat.reduceBEq, QOp.loads, boxO, bslO, buildO, cutL, fillV, putL, w97, v97]
  refine stepC.of (slTrimPrefix_ok h l c hl) ?_
  rintro _ Hx ⟨hx, rfl⟩; rw [hx]; clear hx Hx
  simp (maxSteps := 4000000) (disch := omega) only [ah, am, Nat.reduceEqDiff, reduceCtorEq, Nat.reduceAdd, Nat.reduceLeDiff, Nat.reduceMul, Nat.reduceLT, if_true, if_false, true_and, and_true, and_self, Nat.reduceBEq, QOp.loads, boxO, bslO, buildO, cutL, fillV, putL, w97, v97]
theorem slCutPrefix_ok (h : Heap) (l : List UInt8) (c : UInt8) (hl : l.length ≤ 1000000) : ACall Tryz.prog 96 [.string (bL l), .string (bL [c])] h fun r h' => h' = h ∧ r = .tuple #[.string (bL (if hp c l then l.drop 1 else l)), .bool (decide (hp c l))] := by
  have hs1 : (((bL [c]).size : Nat) : Int) = 1 := rfl
  refine ACall.of Tryz.func96 s96 (of_decide_eq_true rfl) ?_
  simp (maxSteps := 4000000) (disch := omega) only [ah, am, Nat.reduceEqDiff, reduceCtorEq, Nat.reduceAdd, Nat.reduceLeDiff, Nat.reduceMul, Nat.reduceLT, if_true, if_false, true_and, and_true, and_self, Nat.reduceBEq, QOp.loads, boxO, bslO, buildO, cutL, fillV, putL, w96, v96]
  refine stepC.of (slHasPrefix_ok h l c hl) ?_
  rintro _ Hx ⟨hx, rfl⟩; rw [hx]; clear hx Hx
  by_cases q : hp c l
  · have hl1 : 1 ≤ l.length := by
      cases l with
      | nil => cases q
      | cons b t => simp
    have s1 : slsV (.string (bL l)) (some (.int .i64 1)) none = _ := sls_a l .i64 1 hl1
    simp (maxSteps := 4000000) (disch := omega) only [ah, am, Nat.reduceEqDiff, reduceCtorEq, Nat.reduceAdd, Nat.reduceLeDiff, Nat.reduceMul, Nat.reduceLT, if_true, if_false, true_and, and_true, and_self, Nat.reduceBEq, QOp.loads, boxO, bslO, buildO, cutL, fillV, putL, w96, v96, decide_eq_true q, hs1, s1]
    rw [if_pos q]
  · simp (maxSteps := 4000000) (disch := omega) only [ah, am, Nat.reduceEqDiff, reduceCtorEq, Nat.reduceAdd, Nat.reduceLeDiff, Nat.reduceMul, Nat.reduceLT, if_true, if_false, true_and, and_true, and_self, Nat.reduceBEq, QOp.loads, boxO, bslO, buildO, cutL, fillV, putL, w96, v96, decide_eq_false q]
    rw [if_neg q]
theorem CutPrefix_ok (h : Heap) (l : List UInt8) (c : UInt8) (hl : l.length ≤ 1000000) : ACall Tryz.prog 73 [.string (bL l), .string (bL [c])] h fun r h' => h' = h ∧ r = .tuple #[.string (bL (if hp c l then l.drop 1 else l)), .bool (decide (hp c l))] := by
  refine ACall.of Tryz.func73 s73 (of_decide_eq_true rfl) ?_
  simp (maxSteps := 4000000) (disch := omega) only [ah, am, Nat.reduceEqDiff, reduceCtorEq, Nat.reduceAdd, Nat.reduceLeDiff, Nat.reduceMul, Nat.reduceLT, if_true, if_false, true_and, and_true, and_self, Nat.reduceBEq, QOp.loads, boxO, bslO, buildO, cutL, fillV, putL, w73, v73]
  refine stepC.of (slCutPrefix_ok h l c hl) ?_
  rintro _ Hx ⟨hx, rfl⟩; rw [hx]; clear hx Hx
  simp (maxSteps := 4000000) (disch := omega) only [ah, am, Nat.reduceEqDiff, reduceCtorEq, Nat.reduceAdd, Nat.reduceLeDiff, Nat.reduceMul, Nat.reduceLT, if_true, if_false, true_and, and_true, and_self, Nat.reduceBEq, QOp.loads, boxO, bslO, buildO, cutL, fillV, putL, w73, v73]
end Go.Proofs.YtgmimgmdbpcecaaGreatDoor
end

section
namespace Go.Proofs.YtgmimgmdbpcecaaGreatDoor
open Go Go.Ah
set_option linter.unusedSimpArgs false
set_option linter.unusedVariables false
set_option maxRecDepth 10000
set_option maxHeartbeats 4000000
/-! ### Numbers as they are written -/
def digB (d : Nat) : UInt8 := UInt8.ofNat (48 + d)
theorem digB_of {b : UInt8} (h : isD b) : UInt8.ofNat (48 + (b.toNat - 48)) = b := by
  unfold isD at h
  rw [show 48 + (b.toNat - 48) = b.toNat from by omega, UInt8.ofNat_toNat]
theorem digB_toNat {d : Nat} (h : d < 10) : (UInt8.ofNat (48 + d)).toNat = 48 + d := by
  rw [UInt8.toNat_ofNat']; omega
theorem digs_all (n : Nat) : ∀ b ∈ digs n, isD b := by
  induction n using Nat.strongRecOn with
  | ind n ih =>
    by_cases h : n < 10
    · rw [digs_small h]
      intro b hb
      rw [List.mem_singleton] at hb
      rw [hb]; unfold isD; rw [digB_toNat h]; omega
    · rw [digs_step h]
      intro b hb
      rcases List.mem_append.mp hb with hb | hb
      · exact ih (n / 10) (by omega) b hb
      · rw [List.mem_singleton] at hb
        rw [hb]; unfold isD; rw [digB_toNat (by omega)]; omega
theorem valD_digs (n : Nat) : valD (digs n) = n := by
  induction n using Nat.strongRecOn with
  | ind n ih =>
    by_cases h : n < 10
    · rw [digs_small h]
      show 10 * 0 + ((UInt8.ofNat (48 + n)).toNat - 48) = n
      rw [digB_toNat h]; omega
    · rw [digs_step h, valD_step, ih (n / 10) (by omega), digB_toNat (by omega)]; omega
theorem digs_head {n : Nat} (h : 0 < n) : (digs n).head? ≠ some 48 := by
  induction n using Nat.strongRecOn with
  | ind n ih =>
    by_cases h10 : n < 10
    · rw [digs_small h10]
      intro q
      simp only [List.head?_cons, Option.some.injEq] at q
      have := congrArg UInt8.toNat q
      rw [digB_toNat h10] at this
      have e : (48 : UInt8).toNat = 48 := rfl
      omega
    · rw [digs_step h10]
      have hp := digs_pos (n / 10)
      intro q
      refine ih (n / 10) (by omega) (by omega) ?_
      cases hd : digs (n / 10) with
      | nil => rw [hd] at hp; simp at hp
      | cons b t => rw [hd] at q; simpa using q
/-- Digits are those of their value, if no nought stands ahead. -/
theorem digs_valD : ∀ (k : Nat) (l : List UInt8), l.length = k + 1 → (∀ b ∈ l, isD b) → (l.length = 1 ∨ l.head? ≠ some 48) → digs (valD l) = l := by
  intro k
  induction k with
  | zero =>
    intro l hl hd _
    match l, hl with
    | [b], _ =>
      have hb := hd b (by simp)
      have hb' := hb
      unfold isD at hb'
      show digs (10 * 0 + (b.toNat - 48)) = [b]
      rw [Nat.mul_zero, Nat.zero_add, digs_small (by omega), digB_of hb]
  | succ k ih =>
    intro l hl hd hz
    have hne : l ≠ [] := by intro q; rw [q] at hl; simp at hl
    have e := List.dropLast_concat_getLast hne
    have hil : l.dropLast.length = k + 1 := by simp; omega
    have hh : l.dropLast.head? = l.head? := by
      cases l with
      | nil => simp at hl
      | cons b t => cases t with
        | nil => simp at hl
        | cons c t => rfl
    have hh2 : l.head? ≠ some 48 := by rcases hz with hz | hz; omega; exact hz
    have ihd := ih l.dropLast hil (fun b hb => hd b (by rw [← e]; exact List.mem_append_left _ hb)) (.inr (by rw [hh]; exact hh2))
    have hlast := hd (l.getLast hne) (List.getLast_mem hne)
    have hpos : 0 < valD l.dropLast := by
      rcases Nat.eq_zero_or_pos (valD l.dropLast) with q | q
      · exfalso
        rw [q] at ihd
        rw [← hh, ← ihd] at hh2
        exact hh2 (by rw [digs_small (by omega)]; rfl)
      · exact q
    have hb' := hlast
    unfold isD at hb'
    rw [← e, valD_step, digs_step (by omega), show (10 * valD l.dropLast + ((l.getLast hne).toNat - 48)) / 10 = valD l.dropLast from by omega, ihd,
      show (10 * valD l.dropLast + ((l.getLast hne).toNat - 48)) % 10 = (l.getLast hne).toNat - 48 from by omega, digB_of hlast]
end Go.Proofs.YtgmimgmdbpcecaaGreatDoor
end

section
namespace Go.Proofs.YtgmimgmdbpcecaaGreatDoor
open Go Go.Ah
set_option linter.unusedSimpArgs false
set_option linter.unusedVariables false
set_option maxRecDepth 10000
set_option maxHeartbeats 4000000
def bodyL (l : List UInt8) : List UInt8 := if hp 45 l then l.drop 1 else l
def numV (l : List UInt8) : Int := if hp 45 l then -(valD (bodyL l) : Int) else (valD (bodyL l) : Int)
def numOk (l : List UInt8) : Prop := digOk (bodyL l) ∧ ((bodyL l).head? ≠ some 48 ∨ (¬ hp 45 l ∧ (bodyL l).length = 1))
instance (l : List UInt8) : Decidable (numOk l) := by unfold numOk; infer_instance
theorem hp_cons {c : UInt8} {l : List UInt8} (h : hp c l) : l = c :: l.drop 1 := by
  cases l with
  | nil => cases h
  | cons b t =>
    unfold hp at h
    simp only [List.take_succ_cons, List.take_zero, List.cons.injEq, and_true] at h
    rw [h]; rfl
theorem digs_iff {l : List UInt8} (h : digOk l) : digs (valD l) = l ↔ (l.head? ≠ some 48 ∨ l.length = 1) := by
  have hne : 0 < l.length := by cases l with
    | nil => exact absurd rfl h.1
    | cons b t => simp
  constructor
  · intro e
    rcases Nat.eq_zero_or_pos (valD l) with q | q
    · right; rw [← e, q, digs_small (by omega)]; rfl
    · left; rw [← e]; exact digs_head q
  · intro e
    exact digs_valD (l.length - 1) l (by omega) h.2.2 (e.elim .inr .inl)
theorem num_iff {l : List UInt8} (h : digOk (bodyL l)) : Go.Lib.itoa (numV l) = l ↔ ((bodyL l).head? ≠ some 48 ∨ (¬ hp 45 l ∧ (bodyL l).length = 1)) := by
  by_cases q : hp 45 l
  · have hl := hp_cons q
    have hb : bodyL l = l.drop 1 := if_pos q
    have hv : numV l = -(valD (bodyL l) : Int) := if_pos q
    rw [hv]
    have di := digs_iff h
    rcases Nat.eq_zero_or_pos (valD (bodyL l)) with z | z
    · rw [z] at di
      have hz : digs 0 = [48] := by rw [digs_small (by omega)]; rfl
      rw [hz] at di
      constructor
      · intro e
        exfalso
        rw [z] at e
        have : Go.Lib.itoa (-((0 : Nat) : Int)) = [48] := by
          unfold Go.Lib.itoa; rw [if_neg (by omega)]; exact hz
        rw [this] at e
        rw [hl] at e
        exact absurd (List.cons.inj e).1 (by decide)
      · rintro (e | ⟨e, _⟩)
        · exfalso
          have := di.mpr (.inl e)
          rw [← this] at e; exact e rfl
        · exact absurd q e
    · have ei : Go.Lib.itoa (-(valD (bodyL l) : Int)) = 45 :: digs (valD (bodyL l)) := by
        unfold Go.Lib.itoa
        rw [if_pos (by omega), show (-(valD (bodyL l) : Int)).natAbs = valD (bodyL l) from by omega]
      rw [ei]
      constructor
      · intro e
        left
        have e2 : digs (valD (bodyL l)) = bodyL l := by rw [hb]; rw [hb] at e; rw [hl] at e; exact (List.cons.inj e).2
        rw [← e2]; exact digs_head z
      · rintro (e | ⟨e, _⟩)
        · rw [di.mpr (.inl e), hb]; exact hl.symm
        · exact absurd q e
  · have hb : bodyL l = l := if_neg q
    have hv : numV l = (valD l : Int) := by unfold numV; rw [if_neg q, hb]
    rw [hb] at h ⊢
    rw [hv]
    have ei : Go.Lib.itoa (valD l : Int) = digs (valD l) := by
      unfold Go.Lib.itoa; rw [if_neg (by omega)]; rfl
    rw [ei, digs_iff h]
    constructor
    · rintro (e | e)
      · exact .inl e
      · exact .inr ⟨q, e⟩
    · rintro (e | ⟨_, e⟩)
      · exact .inl e
      · exact .inr e
end Go.Proofs.YtgmimgmdbpcecaaGreatDoor
end

section
namespace Go.Proofs.YtgmimgmdbpcecaaGreatDoor
open Go Go.Ah
set_option linter.unusedSimpArgs false
set_option linter.unusedVariables false
set_option maxRecDepth 10000
set_option maxHeartbeats 4000000
/-! 74 loop.example/g00066/impl.number: parameters 1, live [0], slots [0:s, 1:s, 4:n, 5:ok] -/
def c74_0 : List SOper := [⟨some 2, .q (.mv (.c (.int .i64 0))), none⟩, ⟨some 3, .q (.mv (.c (.bool false))), none⟩]
def c74_1 : List SOper := [⟨some 7, .q (.mv (.t 0)), none⟩, ⟨some 8, .e (.call 97 [(.t 7), (.c (.string ⟨#[45]⟩))]), none⟩, ⟨some 9, .e (.call 75 [(.t 8)]), none⟩, ⟨some 6, .q (.mv (.t 9)), none⟩, ⟨some 10, .q (.ext (.t 6) 0), none⟩, ⟨some 11, .q (.ext (.t 6) 1), none⟩, ⟨some 4, .q (.mv (.t 10)), none⟩, ⟨some 5, .q (.mv (.t 11)), none⟩]
def c74_2 : List SOper := [⟨some 12, .q (.mv (.t 5)), none⟩, ⟨some 13, .q (.not (.t 12)), none⟩, ⟨some 14, .q (.mv (.t 13)), none⟩, ⟨some 15, .q (.mv (.t 0)), some (14, false)⟩, ⟨some 16, .q (.lens (.t 15)), some (14, false)⟩, ⟨some 17, .q (.bin .gtr (.t 16) (.c (.int .i64 10))), some (14, false)⟩, ⟨some 18, .q (.pick (.t 14) (.c (.bool true)) (.t 17)), none⟩]
def c74_3 : List SOper := [⟨some 2, .q (.mv (.c (.int .i64 0))), none⟩, ⟨some 3, .q (.mv (.c (.bool false))), none⟩]
def c74_4 : SCode := .seq (.region c74_3 [2, 3]) .ret
def c74_5 : SCode := .cond (.t 18) c74_4 .skip
def c74_6 : SCode := .seq (.region c74_2 [0, 4, 18]) c74_5
def c74_7 : List SOper := [⟨some 19, .q (.mv (.t 0)), none⟩, ⟨some 20, .e (.call 94 [(.t 19), (.c (.string ⟨#[45]⟩))]), none⟩]
def c74_8 : List SOper := [⟨some 21, .q (.mv (.t 4)), none⟩, ⟨some 22, .q (.neg (.t 21)), none⟩, ⟨some 4, .q (.mv (.t 22)), none⟩]
def c74_9 : SCode := .cond (.t 20) (.region c74_8 [0, 4]) .skip
def c74_10 : SCode := .seq (.region c74_7 [0, 4, 20]) c74_9
def c74_11 : List SOper := [⟨some 23, .q (.mv (.t 4)), none⟩, ⟨some 24, .q (.mv (.t 4)), none⟩, ⟨some 25, .e (.call 71 [(.t 24), (.c (.int .i64 10))]), none⟩, ⟨some 26, .q (.mv (.t 0)), none⟩, ⟨some 27, .q (.bin .eql (.t 25) (.t 26)), none⟩, ⟨some 2, .q (.mv (.t 23)), none⟩, ⟨some 3, .q (.mv (.t 27)), none⟩]
def c74_12 : SCode := .seq (.region c74_11 [2, 3]) .ret
def c74_13 : SCode := .seq c74_10 c74_12
def c74_14 : SCode := .seq c74_6 c74_13
def c74_15 : SCode := .seq (.region c74_1 [0, 4, 5]) c74_14
def c74_16 : SCode := .seq (.region c74_0 [0]) c74_15
def c74 : SCode := c74_16
theorem w74 : type_of% (And.intro (uR Tryz.prog c74_0.eq_1) (And.intro (uR Tryz.prog c74_1.eq_1) (And.intro (uR Tryz.prog c74_2.eq_1) (And.intro (uR Tryz.prog c74_3.eq_1) (And.intro (uC Tryz.prog c74_4.eq_1) (And.intro (uC Tryz.prog c74_5.eq_1) (And.intro (uC Tryz.prog c74_6.eq_1) (And.intro (uR Tryz.prog c74_7.eq_1) (And.intro (uR Tryz.prog c74_8.eq_1) (And.intro (uC Tryz.prog c74_9.eq_1) (And.intro (uC Tryz.prog c74_10.eq_1) (And.intro (uR Tryz.prog c74_11.eq_1) (And.intro (uC Tryz.prog c74_12.eq_1) (And.intro (uC Tryz.prog c74_13.eq_1) (And.intro (uC Tryz.prog c74_14.eq_1) (And.intro (uC Tryz.prog c74_15.eq_1) (And.intro (uC Tryz.prog c74_16.eq_1) (uC Tryz.prog c74.eq_1)))))))))))))))))) := (And.intro (uR Tryz.prog c74_0.eq_1) (And.intro (uR Tryz.prog c74_1.eq_1) (And.intro (uR Tryz.prog c74_2.eq_1) (And.intro (uR Tryz.prog c74_3.eq_1) (And.intro (uC Tryz.prog c74_4.eq_1) (And.intro (uC Tryz.prog c74_5.eq_1) (And.intro (uC Tryz.prog c74_6.eq_1) (And.intro (uR Tryz.prog c74_7.eq_1) (And.intro (uR Tryz.prog c74_8.eq_1) (And.intro (uC Tryz.prog c74_9.eq_1) (And.intro (uC Tryz.prog c74_10.eq_1) (And.intro (uR Tryz.prog c74_11.eq_1) (And.intro (uC Tryz.prog c74_12.eq_1) (And.intro (uC Tryz.prog c74_13.eq_1) (And.intro (uC Tryz.prog c74_14.eq_1) (And.intro (uC Tryz.prog c74_15.eq_1) (And.intro (uC Tryz.prog c74_16.eq_1) (uC Tryz.prog c74.eq_1))))))))))))))))))
def v74 : List RV := [.t 2, .t 3]
theorem s74 : slimF Tryz.prog Tryz.f74 = some (c74.bare, v74) := by kernel_rfl

theorem bodyL_len (l : List UInt8) : (bodyL l).length ≤ l.length ∧ l.length ≤ (bodyL l).length + 1 := by
  unfold bodyL; split <;> simp <;> omega
theorem number_ok (h : Heap) (l : List UInt8) (hl : l.length ≤ 1000000) : ACall Tryz.prog 74 [.string (bL l)] h fun r h' => h' = h ∧ ∃ n, r = .tuple #[.int .i64 n, .bool (decide (numOk l))] ∧ (numOk l → n = numV l) := by
  have hsz : (bL l).size = l.length := bL_size l
  have bl := bodyL_len l
  have bad : ¬ numOk l → ∃ n, (.tuple #[.int .i64 0, .bool false] : Value) = .tuple #[.int .i64 n, .bool (decide (numOk l))] ∧ (numOk l → n = numV l) := fun q => ⟨0, by rw [decide_eq_false q], fun t => absurd t q⟩
  refine ACall.of Tryz.func74 s74 (of_decide_eq_true rfl) ?_
  simp (maxSteps := 4000000) (disch := omega) only [ah, am, Nat.reduceEqDiff, reduceCtorEq, Nat.reduceAdd, Nat.reduceLeDiff, Nat.reduceMul, Nat.reduceLT, if_true, if_false, true_and, and_true, and_self, Nat.reduceBEq, QOp.loads, boxO, bslO, buildO, cutL, fillV, putL, w74, v74]
  refine stepC.of (TrimPrefix_ok h l 45 hl) ?_
  rintro _ Hx ⟨hx, rfl⟩; rw [hx]; clear hx Hx
  simp (maxSteps := 4000000) (disch := omega) only [ah, am, Nat.reduceEqDiff, reduceCtorEq, Nat.reduceAdd, Nat.reduceLeDiff, Nat.reduceMul, Nat.reduceLT, if_true, if_false, true_and, and_true, and_self, Nat.reduceBEq, QOp.loads, boxO, bslO, buildO, cutL, fillV, putL, w74, v74]
  refine stepC.of (digits_ok h (bodyL l) (by omega)) ?_
  rintro _ Hx ⟨hx, rfl⟩; rw [hx]; clear hx Hx
  by_cases cd : digOk (bodyL l)
  rotate_left
  · simp (maxSteps := 4000000) (disch := omega) only [ah, am, Nat.reduceEqDiff, reduceCtorEq, Nat.reduceAdd, Nat.reduceLeDiff, Nat.reduceMul, Nat.reduceLT, if_true, if_false, true_and, and_true, and_self, Nat.reduceBEq, QOp.loads, boxO, bslO, buildO, cutL, fillV, putL, w74, v74, decide_eq_false cd]
    exact bad fun q => cd q.1
  have cl : decide ((10 : Int) < (l.length : Int)) = false := decide_eq_false (by have := cd.2.1; omega)
  have hv := valD_lt9 cd.2.2 cd.2.1
  rw [if_pos cd]
  simp (maxSteps := 4000000) (disch := omega) only [ah, am, Nat.reduceEqDiff, reduceCtorEq, Nat.reduceAdd, Nat.reduceLeDiff, Nat.reduceMul, Nat.reduceLT, if_true, if_false, true_and, and_true, and_self, Nat.reduceBEq, QOp.loads, boxO, bslO, buildO, cutL, fillV, putL, w74, v74, decide_eq_true cd, hsz, cl]
  refine stepC.of (HasPrefix_ok h l 45 hl) ?_
  rintro _ Hx ⟨hx, rfl⟩; rw [hx]; clear hx Hx
  have ni := num_iff cd
  have fin : ∀ x : Int, x = numV l → ∃ n, (.tuple #[.int .i64 x, .bool (decide ((itoaB x).data.toList = (bL l).data.toList))] : Value) = .tuple #[.int .i64 n, .bool (decide (numOk l))] ∧ (numOk l → n = numV l) := by
    rintro x rfl
    refine ⟨numV l, ?_, fun _ => rfl⟩
    have : decide ((itoaB (numV l)).data.toList = (bL l).data.toList) = decide (numOk l) := decide_eq_decide.mpr ⟨fun e => ⟨cd, ni.mp e⟩, fun e => ni.mpr e.2⟩
    rw [this]
  by_cases q : hp 45 l
  · have hx : -(valD (bodyL l) : Int) = numV l := (if_pos q).symm
    have wn : IntKind.i64.wrap (0 - (valD (bodyL l) : Int)) = -(valD (bodyL l) : Int) := i64e (by omega) (by omega)
    simp (maxSteps := 4000000) (disch := omega) only [ah, am, Nat.reduceEqDiff, reduceCtorEq, Nat.reduceAdd, Nat.reduceLeDiff, Nat.reduceMul, Nat.reduceLT, if_true, if_false, true_and, and_true, and_self, Nat.reduceBEq, QOp.loads, boxO, bslO, buildO, cutL, fillV, putL, w74, v74, decide_eq_true q, wn]
    refine stepC.of (FormatInt_ok h (-(valD (bodyL l) : Int)) (by omega) (by omega)) ?_
    rintro _ Hx ⟨hx, rfl⟩; rw [hx]; clear hx Hx
    simp (maxSteps := 4000000) (disch := omega) only [ah, am, Nat.reduceEqDiff, reduceCtorEq, Nat.reduceAdd, Nat.reduceLeDiff, Nat.reduceMul, Nat.reduceLT, if_true, if_false, true_and, and_true, and_self, Nat.reduceBEq, QOp.loads, boxO, bslO, buildO, cutL, fillV, putL, w74, v74, strB_eql]
    exact fin _ hx
  · have hx : (valD (bodyL l) : Int) = numV l := (if_neg q).symm
    simp (maxSteps := 4000000) (disch := omega) only [ah, am, Nat.reduceEqDiff, reduceCtorEq, Nat.reduceAdd, Nat.reduceLeDiff, Nat.reduceMul, Nat.reduceLT, if_true, if_false, true_and, and_true, and_self, Nat.reduceBEq, QOp.loads, boxO, bslO, buildO, cutL, fillV, putL, w74, v74, decide_eq_false q]
    refine stepC.of (FormatInt_ok h (valD (bodyL l) : Int) (by omega) (by omega)) ?_
    rintro _ Hx ⟨hx, rfl⟩; rw [hx]; clear hx Hx
    simp (maxSteps := 4000000) (disch := omega) only [ah, am, Nat.reduceEqDiff, reduceCtorEq, Nat.reduceAdd, Nat.reduceLeDiff, Nat.reduceMul, Nat.reduceLT, if_true, if_false, true_and, and_true, and_self, Nat.reduceBEq, QOp.loads, boxO, bslO, buildO, cutL, fillV, putL, w74, v74, strB_eql]
    exact fin _ hx
end Go.Proofs.YtgmimgmdbpcecaaGreatDoor
end

section
namespace Go.Proofs.YtgmimgmdbpcecaaGreatDoor
open Go Go.Ah
set_option linter.unusedSimpArgs false
set_option linter.unusedVariables false
set_option maxRecDepth 10000
set_option maxHeartbeats 4000000
/-! 42 loop.example/g00066/spec.l6Number: parameters 1, live [0], slots [0:s, 1:s, 4:i, 5:neg, 6:n, 7:k] -/
def c42_0 : List SOper := [⟨some 2, .q (.mv (.c (.int .i64 0))), none⟩, ⟨some 3, .q (.mv (.c (.bool false))), none⟩]
def c42_1 : List SOper := [⟨some 4, .q (.mv (.c (.int .i64 0))), none⟩]
def c42_2 : List SOper := [⟨some 5, .q (.mv (.c (.bool false))), none⟩]
def c42_3 : List SOper := [⟨some 8, .q (.mv (.t 0)), none⟩, ⟨some 9, .q (.bin .neq (.t 8) (.c (.string ⟨#[]⟩))), none⟩, ⟨some 10, .q (.mv (.t 9)), none⟩, ⟨some 11, .q (.mv (.t 0)), some (10, true)⟩, ⟨some 12, .q (.ivs (.t 11) (.c (.int .i64 0))), some (10, true)⟩, ⟨some 13, .q (.bin .eql (.t 12) (.c (.int .u8 45))), some (10, true)⟩, ⟨some 14, .q (.pick (.t 10) (.t 13) (.c (.bool false))), none⟩]
def c42_4 : List SOper := [⟨some 5, .q (.mv (.c (.bool true))), none⟩]
def c42_5 : List SOper := [⟨some 4, .q (.mv (.c (.int .i64 1))), none⟩]
def c42_6 : SCode := .seq (.region c42_4 [0, 5]) (.region c42_5 [0, 4, 5])
def c42_7 : SCode := .cond (.t 14) c42_6 .skip
def c42_8 : SCode := .seq (.region c42_3 [0, 4, 5, 14]) c42_7
def c42_9 : List SOper := [⟨some 6, .q (.mv (.c (.int .i64 0))), none⟩]
def c42_10 : List SOper := [⟨some 15, .q (.mv (.t 0)), none⟩, ⟨some 16, .q (.lens (.t 15)), none⟩, ⟨some 17, .q (.mv (.t 4)), none⟩, ⟨some 18, .q (.bin .sub (.t 16) (.t 17)), none⟩, ⟨some 19, .q (.bin .lss (.t 18) (.c (.int .i64 1))), none⟩, ⟨some 20, .q (.mv (.t 19)), none⟩, ⟨some 21, .q (.mv (.t 0)), some (20, false)⟩, ⟨some 22, .q (.lens (.t 21)), some (20, false)⟩, ⟨some 23, .q (.mv (.t 4)), some (20, false)⟩, ⟨some 24, .q (.bin .sub (.t 22) (.t 23)), some (20, false)⟩, ⟨some 25, .q (.bin .gtr (.t 24) (.c (.int .i64 9))), some (20, false)⟩, ⟨some 26, .q (.pick (.t 20) (.c (.bool true)) (.t 25)), none⟩]
def c42_11 : List SOper := [⟨some 2, .q (.mv (.c (.int .i64 0))), none⟩, ⟨some 3, .q (.mv (.c (.bool false))), none⟩]
def c42_12 : SCode := .seq (.region c42_11 [2, 3]) .ret
def c42_13 : SCode := .cond (.t 26) c42_12 .skip
def c42_14 : SCode := .seq (.region c42_10 [0, 4, 5, 6, 26]) c42_13
def c42_15 : List SOper := [⟨some 27, .q (.mv (.t 4)), none⟩, ⟨some 7, .q (.mv (.t 27)), none⟩]
def c42_16 : List SOper := [⟨some 28, .q (.mv (.t 7)), none⟩, ⟨some 29, .q (.mv (.t 0)), none⟩, ⟨some 30, .q (.lens (.t 29)), none⟩, ⟨some 31, .q (.bin .lss (.t 28) (.t 30)), none⟩]
def c42_17 : SCode := .cond (.t 31) .skip (.exit 0)
def c42_18 : SCode := .seq (.region c42_16 [0, 4, 5, 6, 7, 31]) c42_17
def c42_19 : List SOper := [⟨some 34, .q (.mv (.t 0)), none⟩, ⟨some 35, .q (.mv (.t 7)), none⟩, ⟨some 36, .q (.ivs (.t 34) (.t 35)), none⟩, ⟨some 37, .q (.bin .lss (.t 36) (.c (.int .u8 48))), none⟩, ⟨some 38, .q (.mv (.t 37)), none⟩, ⟨some 39, .q (.mv (.t 0)), some (38, false)⟩, ⟨some 40, .q (.mv (.t 7)), some (38, false)⟩, ⟨some 41, .q (.ivs (.t 39) (.t 40)), some (38, false)⟩, ⟨some 42, .q (.bin .gtr (.t 41) (.c (.int .u8 57))), some (38, false)⟩, ⟨some 43, .q (.pick (.t 38) (.c (.bool true)) (.t 42)), none⟩]
def c42_20 : List SOper := [⟨some 2, .q (.mv (.c (.int .i64 0))), none⟩, ⟨some 3, .q (.mv (.c (.bool false))), none⟩]
def c42_21 : SCode := .seq (.region c42_20 [2, 3]) .ret
def c42_22 : SCode := .cond (.t 43) c42_21 .skip
def c42_23 : SCode := .seq (.region c42_19 [0, 4, 5, 6, 7, 43]) c42_22
def c42_24 : List SOper := [⟨some 44, .q (.mv (.t 6)), none⟩, ⟨some 45, .q (.bin .mul (.t 44) (.c (.int .i64 10))), none⟩, ⟨some 46, .q (.mv (.t 0)), none⟩, ⟨some 47, .q (.mv (.t 7)), none⟩, ⟨some 48, .q (.ivs (.t 46) (.t 47)), none⟩, ⟨some 49, .q (.bin .sub (.t 48) (.c (.int .u8 48))), none⟩, ⟨some 50, .q (.cvi .i64 (.t 49)), none⟩, ⟨some 51, .q (.bin .add (.t 45) (.t 50)), none⟩, ⟨some 6, .q (.mv (.t 51)), none⟩]
def c42_25 : SCode := .seq c42_23 (.region c42_24 [0, 4, 5, 6, 7])
def c42_26 : SCode := .block 1 c42_25
def c42_27 : List SOper := [⟨some 32, .q (.mv (.t 7)), none⟩, ⟨some 33, .q (.bin .add (.t 32) (.c (.int .i64 1))), none⟩, ⟨some 7, .q (.mv (.t 33)), none⟩]
def c42_28 : SCode := .seq c42_26 (.region c42_27 [0, 4, 5, 6, 7])
def c42_29 : SCode := .seq c42_18 c42_28
def c42_30 : SCode := .loop c42_29
def c42_31 : SCode := .block 0 c42_30
def c42_32 : SCode := .seq (.region c42_15 [0, 4, 5, 6, 7]) c42_31
def c42_33 : List SOper := [⟨some 52, .q (.mv (.t 0)), none⟩, ⟨some 53, .q (.mv (.t 4)), none⟩, ⟨some 54, .q (.ivs (.t 52) (.t 53)), none⟩, ⟨some 55, .q (.bin .eql (.t 54) (.c (.int .u8 48))), none⟩, ⟨some 56, .q (.mv (.t 55)), none⟩, ⟨some 57, .q (.mv (.t 5)), some (56, true)⟩, ⟨some 58, .q (.mv (.t 57)), some (56, true)⟩, ⟨some 59, .q (.mv (.t 0)), some (58, false)⟩, ⟨some 60, .q (.lens (.t 59)), some (58, false)⟩, ⟨some 61, .q (.bin .gtr (.t 60) (.c (.int .i64 1))), some (58, false)⟩, ⟨some 62, .q (.pick (.t 58) (.c (.bool true)) (.t 61)), some (56, true)⟩, ⟨some 63, .q (.pick (.t 56) (.t 62) (.c (.bool false))), none⟩]
def c42_34 : List SOper := [⟨some 2, .q (.mv (.c (.int .i64 0))), none⟩, ⟨some 3, .q (.mv (.c (.bool false))), none⟩]
def c42_35 : SCode := .seq (.region c42_34 [2, 3]) .ret
def c42_36 : SCode := .cond (.t 63) c42_35 .skip
def c42_37 : SCode := .seq (.region c42_33 [5, 6, 63]) c42_36
def c42_38 : List SOper := [⟨some 64, .q (.mv (.t 5)), none⟩]
def c42_39 : List SOper := [⟨some 65, .q (.mv (.t 6)), none⟩, ⟨some 66, .q (.neg (.t 65)), none⟩, ⟨some 6, .q (.mv (.t 66)), none⟩]
def c42_40 : SCode := .cond (.t 64) (.region c42_39 [6]) .skip
def c42_41 : SCode := .seq (.region c42_38 [6, 64]) c42_40
def c42_42 : List SOper := [⟨some 67, .q (.mv (.t 6)), none⟩, ⟨some 2, .q (.mv (.t 67)), none⟩, ⟨some 3, .q (.mv (.c (.bool true))), none⟩]
def c42_43 : SCode := .seq (.region c42_42 [2, 3]) .ret
def c42_44 : SCode := .seq c42_41 c42_43
def c42_45 : SCode := .seq c42_37 c42_44
def c42_46 : SCode := .seq c42_32 c42_45
def c42_47 : SCode := .seq c42_14 c42_46
def c42_48 : SCode := .seq (.region c42_9 [0, 4, 5, 6]) c42_47
def c42_49 : SCode := .seq c42_8 c42_48
def c42_50 : SCode := .seq (.region c42_2 [0, 4, 5]) c42_49
def c42_51 : SCode := .seq (.region c42_1 [0, 4]) c42_50
def c42_52 : SCode := .seq (.region c42_0 [0]) c42_51
def c42 : SCode := c42_52
theorem w42 : type_of% (And.intro (uR Tryz.prog c42_0.eq_1) (And.intro (uR Tryz.prog c42_1.eq_1) (And.intro (uR Tryz.prog c42_2.eq_1) (And.intro (uR Tryz.prog c42_3.eq_1) (And.intro (uR Tryz.prog c42_4.eq_1) (And.intro (uR Tryz.prog c42_5.eq_1) (And.intro (uC Tryz.prog c42_6.eq_1) (And.intro (uC Tryz.prog c42_7.eq_1) (And.intro (uC Tryz.prog c42_8.eq_1) (And.intro (uR Tryz.prog c42_9.eq_1) (And.intro (uR Tryz.prog c42_10.eq_1) (And.intro (uR Tryz.prog c42_11.eq_1) (And.intro (uC Tryz.prog c42_12.eq_1) (And.intro (uC Tryz.prog c42_13.eq_1) (And.intro (uC Tryz.prog c42_14.eq_1) (And.intro (uR Tryz.prog c42_15.eq_1) (And.intro (uR Tryz.prog c42_16.eq_1) (And.intro (uC Tryz.prog c42_17.eq_1) (And.intro (uC Tryz.prog c42_18.eq_1) (And.intro (uR Tryz.prog c42_19.eq_1) (And.intro (uR Tryz.prog c42_20.eq_1) (And.intro (uC Tryz.prog c42_21.eq_1) (And.intro (uC Tryz.prog c42_22.eq_1) (And.intro (uC Tryz.prog c42_23.eq_1) (And.intro (uR Tryz.prog c42_24.eq_1) (And.intro (uC Tryz.prog c42_25.eq_1) (And.intro (uC Tryz.prog c42_26.eq_1) (And.intro (uR Tryz.prog c42_27.eq_1) (And.intro (uC Tryz.prog c42_28.eq_1) (And.intro (uC Tryz.prog c42_29.eq_1) (And.intro (uC Tryz.prog c42_30.eq_1) (And.intro (uC Tryz.prog c42_31.eq_1) (And.intro (uC Tryz.prog c42_32.eq_1) (And.intro (uR Tryz.prog c42_33.eq_1) (And.intro (uR Tryz.prog c42_34.eq_1) (And.intro (uC Tryz.prog c42_35.eq_1) (And.intro (uC Tryz.prog c42_36.eq_1) (And.intro (uC Tryz.prog c42_37.eq_1) (And.intro (uR Tryz.prog c42_38.eq_1) (And.intro (uR Tryz.prog c42_39.eq_1) (And.intro (uC Tryz.prog c42_40.eq_1) (And.intro (uC Tryz.prog c42_41.eq_1) (And.intro (uR Tryz.prog c42_42.eq_1) (And.intro (uC Tryz.prog c42_43.eq_1) (And.intro (uC Tryz.prog c42_44.eq_1) (And.intro (uC Tryz.prog c42_45.eq_1) (And.intro (uC Tryz.prog c42_46.eq_1) (And.intro (uC Tryz.prog c42_47.eq_1) (And.intro (uC Tryz.prog c42_48.eq_1) (And.intro (uC Tryz.prog c42_49.eq_1) (And.intro (uC Tryz.prog c42_50.eq_1) (And.intro (uC Tryz.prog c42_51.eq_1) (And.intro (uC Tryz.prog c42_52.eq_1) (uC Tryz.prog c42.eq_1)))))))))))))))))))))))))))))))))))))))))))))))))))))) := (And.intro (uR Tryz.prog c42_0.eq_1) (And.intro (uR Tryz.prog c42_1.eq_1) (And.intro (uR Tryz.prog c42_2.eq_1) (And.intro (uR Tryz.prog c42_3.eq_1) (And.intro (uR Tryz.prog c42_4.eq_1) (And.intro (uR Tryz.prog c42_5.eq_1) (And.intro (uC Tryz.prog c42_6.eq_1) (And.intro (uC Tryz.prog c42_7.eq_1) (And.intro (uC Tryz.prog c42_8.eq_1) (And.intro (uR Tryz.prog c42_9.eq_1) (And.intro (uR Tryz.prog c42_10.eq_1) (And.intro (uR Tryz.prog c42_11.eq_1) (And.intro (uC Tryz.prog c42_12.eq_1) (And.intro (uC Tryz.prog c42_13.eq_1) (And.intro (uC Tryz.prog c42_14.eq_1) (And.intro (uR Tryz.prog c42_15.eq_1) (And.intro (uR Tryz.prog c42_16.eq_1) (And.intro (uC Tryz.prog c42_17.eq_1) (And.intro (uC Tryz.prog c42_18.eq_1) (And.intro (uR Tryz.prog c42_19.eq_1) (And.intro (uR Tryz.prog c42_20.eq_1) (And.intro (uC Tryz.prog c42_21.eq_1) (And.intro (uC Tryz.prog c42_22.eq_1) (And.intro (uC Tryz.prog c42_23.eq_1) (And.intro (uR Tryz.prog c42_24.eq_1) (And.intro (uC Tryz.prog c42_25.eq_1) (And.intro (uC Tryz.prog c42_26.eq_1) (And.intro (uR Tryz.prog c42_27.eq_1) (And.intro (uC Tryz.prog c42_28.eq_1) (And.intro (uC Tryz.prog c42_29.eq_1) (And.intro (uC Tryz.prog c42_30.eq_1) (And.intro (uC Tryz.prog c42_31.eq_1) (And.intro (uC Tryz.prog c42_32.eq_1) (And.intro (uR Tryz.prog c42_33.eq_1) (And.intro (uR Tryz.prog c42_34.eq_1) (And.intro (uC Tryz.prog c42_35.eq_1) (And.intro (uC Tryz.prog c42_36.eq_1) (And.intro (uC Tryz.prog c42_37.eq_1) (And.intro (uR Tryz.prog c42_38.eq_1) (And.intro (uR Tryz.prog c42_39.eq_1) (And.intro (uC Tryz.prog c42_40.eq_1) (And.intro (uC Tryz.prog c42_41.eq_1) (And.intro (uR Tryz.prog c42_42.eq_1) (And.intro (uC Tryz.prog c42_43.eq_1) (And.intro (uC Tryz.prog c42_44.eq_1) (And.intro (uC Tryz.prog c42_45.eq_1) (And.intro (uC Tryz.prog c42_46.eq_1) (And.intro (uC Tryz.prog c42_47.eq_1) (And.intro (uC Tryz.prog c42_48.eq_1) (And.intro (uC Tryz.prog c42_49.eq_1) (And.intro (uC Tryz.prog c42_50.eq_1) (And.intro (uC Tryz.prog c42_51.eq_1) (And.intro (uC Tryz.prog c42_52.eq_1) (uC Tryz.prog c42.eq_1))))))))))))))))))))))))))))))))))))))))))))))))))))))
def v42 : List RV := [.t 2, .t 3]
theorem s42 : slimF Tryz.prog Tryz.f42 = some (c42.bare, v42) := by kernel_rfl

theorem l6Number_last (h : Heap) (l : List UInt8) (i : Nat) (neg : Bool) (R : Env) (hl : l.length ≤ 1000000) (hb : bodyL l = l.drop i) (hn : neg = decide (hp 45 l)) (hi : i ≤ 1) (hil : i ≤ l.length) (h1 : neg = true → i = 1) (h2 : neg = false → i = 0) :
    SW Tryz.prog c42_48 (retQ v42 fun r h' => h' = h ∧ ∃ n, r = .tuple #[.int .i64 n, .bool (decide (numOk l))] ∧ (numOk l → n = numV l)) ((0, .string (bL l)) :: (4, .int .i64 (i : Int)) :: (5, .bool neg) :: R) h := by
  skip
  have hsz : (bL l).size = l.length := bL_size l
  have hbl : (bodyL l).length = l.length - i := by rw [hb]; simp
  have bad : ¬ numOk l → ∃ n, (.tuple #[.int .i64 0, .bool false] : Value) = .tuple #[.int .i64 n, .bool (decide (numOk l))] ∧ (numOk l → n = numV l) := fun q => ⟨0, by rw [decide_eq_false q], fun t => absurd t q⟩
  have w0 : IntKind.i64.wrap ((l.length : Int) - (i : Int)) = ((l.length - i : Nat) : Int) := i64e (by omega) (by omega)
  by_cases c1 : l.length - i < 1
  · have c1' : decide (((l.length - i : Nat) : Int) < 1) = true := decide_eq_true (by omega)
    simp (maxSteps := 4000000) (disch := omega) only [ah, am, Nat.reduceEqDiff, reduceCtorEq, Nat.reduceAdd, Nat.reduceLeDiff, Nat.reduceMul, Nat.reduceLT, if_true, if_false, true_and, and_true, and_self, Nat.reduceBEq, QOp.loads, boxO, bslO, buildO, cutL, fillV, putL, w42, v42, hsz, w0, c1']
    refine bad fun q => ?_
    have := q.1.1
    exact this (List.eq_nil_of_length_eq_zero (by omega))
  have c1' : decide (((l.length - i : Nat) : Int) < 1) = false := decide_eq_false (by omega)
  by_cases c2 : 9 < l.length - i
  · have c2' : decide ((9 : Int) < ((l.length - i : Nat) : Int)) = true := decide_eq_true (by omega)
    simp (maxSteps := 4000000) (disch := omega) only [ah, am, Nat.reduceEqDiff, reduceCtorEq, Nat.reduceAdd, Nat.reduceLeDiff, Nat.reduceMul, Nat.reduceLT, if_true, if_false, true_and, and_true, and_self, Nat.reduceBEq, QOp.loads, boxO, bslO, buildO, cutL, fillV, putL, w42, v42, hsz, w0, c1', c2']
    exact bad fun q => by have := q.1.2.1; omega
  have c2' : decide ((9 : Int) < ((l.length - i : Nat) : Int)) = false := decide_eq_false (by omega)
  simp (maxSteps := 4000000) (disch := omega) only [ah, am, Nat.reduceEqDiff, reduceCtorEq, Nat.reduceAdd, Nat.reduceLeDiff, Nat.reduceMul, Nat.reduceLT, if_true, if_false, true_and, and_true, and_self, Nat.reduceBEq, QOp.loads, boxO, bslO, buildO, cutL, fillV, putL, w42, v42, hsz, w0, c1', c2']
  refine SW_loop_up (fun k E K => K = h ∧ i ≤ k ∧ (∀ b ∈ (l.drop i).take (k - i), isD b) ∧ E = [(0, .string (bL l)), (4, .int .i64 (i : Int)), (5, .bool neg), (6, .int .i64 (valD ((l.drop i).take (k - i)) : Int)), (7, .int .i64 (k : Int))]) l.length i hil ⟨rfl, Nat.le_refl _, by simp, by rw [Nat.sub_self, List.take_zero]; rfl⟩ ?_
  rintro k E K hk ⟨rfl, hik, A, rfl⟩
  have wk : IntKind.i64.wrap ((k : Int) + 1) = ((k + 1 : Nat) : Int) := i64e (by omega) (by omega)
  simp (maxSteps := 4000000) (disch := omega) only [ah, am, Nat.reduceEqDiff, reduceCtorEq, Nat.reduceAdd, Nat.reduceLeDiff, Nat.reduceMul, Nat.reduceLT, if_true, if_false, true_and, and_true, and_self, Nat.reduceBEq, QOp.loads, boxO, bslO, buildO, cutL, fillV, putL, w42, v42, hsz]
  refine stepI.split (fun hp' => ?_) (fun hp' => ?_)
  · have kl : k < l.length := by omega
    have IV := ivs_bL l .i64 k kl
    have hmem : l[k] ∈ bodyL l := by
      rw [hb]
      have e : (l.drop i)[k - i]'(by simp; omega) = l[k] := by rw [List.getElem_drop]; congr 1; omega
      rw [← e]; exact List.getElem_mem _
    have bad2 : ¬ isD l[k] → ¬ numOk l := fun q t => q (t.1.2.2 _ hmem)
    by_cases d1 : (l[k].toNat : Int) < 48
    · simp (maxSteps := 4000000) (disch := omega) only [ah, am, Nat.reduceEqDiff, reduceCtorEq, Nat.reduceAdd, Nat.reduceLeDiff, Nat.reduceMul, Nat.reduceLT, if_true, if_false, true_and, and_true, and_self, Nat.reduceBEq, QOp.loads, boxO, bslO, buildO, cutL, fillV, putL, w42, v42, IV, decide_eq_true d1]
      exact bad (bad2 fun q => by unfold isD at q; omega)
    by_cases d2 : (57 : Int) < (l[k].toNat : Int)
    · simp (maxSteps := 4000000) (disch := omega) only [ah, am, Nat.reduceEqDiff, reduceCtorEq, Nat.reduceAdd, Nat.reduceLeDiff, Nat.reduceMul, Nat.reduceLT, if_true, if_false, true_and, and_true, and_self, Nat.reduceBEq, QOp.loads, boxO, bslO, buildO, cutL, fillV, putL, w42, v42, IV, decide_eq_false d1, decide_eq_true d2]
      exact bad (bad2 fun q => by unfold isD at q; omega)
    have hpl : ((l.drop i).take (k - i)).length ≤ 9 := by simp; omega
    have hv := valD_lt9 A hpl
    have hpt : (l.drop i).take (k + 1 - i) = (l.drop i).take (k - i) ++ [l[k]] := by
      rw [show k + 1 - i = (k - i) + 1 from by omega, List.take_succ_eq_append_getElem (by simp; omega), List.getElem_drop]
      congr 3; omega
    have hvs := valD_step ((l.drop i).take (k - i)) l[k]
    rw [← hpt] at hvs
    have u1 : IntKind.i64.wrap ((valD ((l.drop i).take (k - i)) : Int) * 10) = ((10 * valD ((l.drop i).take (k - i)) : Nat) : Int) := i64e (by omega) (by omega)
    have u2 : IntKind.u8.wrap ((l[k].toNat : Int) - 48) = ((l[k].toNat - 48 : Nat) : Int) := by rw [u8w (by omega)]; omega
    have u3 : IntKind.i64.wrap ((l[k].toNat - 48 : Nat) : Int) = ((l[k].toNat - 48 : Nat) : Int) := i64e rfl (by omega)
    have u4 : IntKind.i64.wrap (((10 * valD ((l.drop i).take (k - i)) : Nat) : Int) + ((l[k].toNat - 48 : Nat) : Int)) = (valD ((l.drop i).take (k + 1 - i)) : Int) := i64e (by rw [hvs]; omega) (by rw [hvs]; omega)
    simp (maxSteps := 4000000) (disch := omega) only [ah, am, Nat.reduceEqDiff, reduceCtorEq, Nat.reduceAdd, Nat.reduceLeDiff, Nat.reduceMul, Nat.reduceLT, if_true, if_false, true_and, and_true, and_self, Nat.reduceBEq, QOp.loads, boxO, bslO, buildO, cutL, fillV, putL, w42, v42, IV, decide_eq_false d1, decide_eq_false d2, u1, u2, u3, u4, wk]
    refine ⟨kl, by omega, fun b hb' => ?_⟩
    rw [hpt] at hb'
    rcases List.mem_append.mp hb' with hb' | hb'
    · exact A b hb'
    · rw [List.mem_singleton] at hb'; rw [hb']; unfold isD; omega
  · have hke : k = l.length := by omega
    subst hke
    have ht : (l.drop i).take (l.length - i) = bodyL l := by rw [hb]; exact List.take_of_length_le (by simp)
    rw [ht] at A
    simp only [ht]
    have cd : digOk (bodyL l) := ⟨fun q => by rw [q] at hbl; simp at hbl; omega, by omega, A⟩
    have hil2 : i < l.length := by omega
    have IV := ivs_bL l .i64 i hil2
    have hhd : (bodyL l).head? = some l[i] := by rw [hb, List.head?_drop, List.getElem?_eq_getElem hil2]
    have hz : (l[i].toNat : Int) = 48 ↔ l[i] = 48 := ⟨fun e => UInt8.toNat_inj.mp (by have : (48 : UInt8).toNat = 48 := rfl; omega), fun e => by rw [e]; rfl⟩
    have hv := valD_lt9 cd.2.2 cd.2.1
    have wn : IntKind.i64.wrap (0 - (valD (bodyL l) : Int)) = -(valD (bodyL l) : Int) := i64e (by omega) (by omega)
    have good : ∀ x : Int, x = numV l → numOk l → ∃ n, (.tuple #[.int .i64 x, .bool true] : Value) = .tuple #[.int .i64 n, .bool (decide (numOk l))] ∧ (numOk l → n = numV l) := fun x e q => ⟨x, by rw [decide_eq_true q], fun _ => e⟩
    cases neg with
    | true =>
      have q : hp 45 l := of_decide_eq_true hn.symm
      have hx : -(valD (bodyL l) : Int) = numV l := (if_pos q).symm
      by_cases z : (l[i].toNat : Int) = 48
      · simp (maxSteps := 4000000) (disch := omega) only [ah, am, Nat.reduceEqDiff, reduceCtorEq, Nat.reduceAdd, Nat.reduceLeDiff, Nat.reduceMul, Nat.reduceLT, if_true, if_false, true_and, and_true, and_self, Nat.reduceBEq, QOp.loads, boxO, bslO, buildO, cutL, fillV, putL, w42, v42, IV, decide_eq_true z]
        refine bad fun t => ?_
        rcases t.2 with t | ⟨t, _⟩
        · exact t (by rw [hhd, hz.mp z])
        · exact t q
      · simp (maxSteps := 4000000) (disch := omega) only [ah, am, Nat.reduceEqDiff, reduceCtorEq, Nat.reduceAdd, Nat.reduceLeDiff, Nat.reduceMul, Nat.reduceLT, if_true, if_false, true_and, and_true, and_self, Nat.reduceBEq, QOp.loads, boxO, bslO, buildO, cutL, fillV, putL, w42, v42, IV, decide_eq_false z, wn]
        exact good _ hx ⟨cd, .inl fun t => z (hz.mpr (by rw [hhd] at t; exact Option.some.inj t))⟩
    | false =>
      have q : ¬ hp 45 l := of_decide_eq_false hn.symm
      have hx : (valD (bodyL l) : Int) = numV l := (if_neg q).symm
      have hi0 := h2 rfl
      by_cases z : (l[i].toNat : Int) = 48
      · by_cases g : (1 : Int) < (l.length : Int)
        · simp (maxSteps := 4000000) (disch := omega) only [ah, am, Nat.reduceEqDiff, reduceCtorEq, Nat.reduceAdd, Nat.reduceLeDiff, Nat.reduceMul, Nat.reduceLT, if_true, if_false, true_and, and_true, and_self, Nat.reduceBEq, QOp.loads, boxO, bslO, buildO, cutL, fillV, putL, w42, v42, IV, decide_eq_true z, hsz, decide_eq_true g]
          refine bad fun t => ?_
          rcases t.2 with t | ⟨_, t⟩
          · exact t (by rw [hhd, hz.mp z])
          · omega
        · simp (maxSteps := 4000000) (disch := omega) only [ah, am, Nat.reduceEqDiff, reduceCtorEq, Nat.reduceAdd, Nat.reduceLeDiff, Nat.reduceMul, Nat.reduceLT, if_true, if_false, true_and, and_true, and_self, Nat.reduceBEq, QOp.loads, boxO, bslO, buildO, cutL, fillV, putL, w42, v42, IV, decide_eq_true z, hsz, decide_eq_false g]
          exact good _ hx ⟨cd, .inr ⟨q, by omega⟩⟩
      · simp (maxSteps := 4000000) (disch := omega) only [ah, am, Nat.reduceEqDiff, reduceCtorEq, Nat.reduceAdd, Nat.reduceLeDiff, Nat.reduceMul, Nat.reduceLT, if_true, if_false, true_and, and_true, and_self, Nat.reduceBEq, QOp.loads, boxO, bslO, buildO, cutL, fillV, putL, w42, v42, IV, decide_eq_false z]
        exact good _ hx ⟨cd, .inl fun t => z (hz.mpr (by rw [hhd] at t; exact Option.some.inj t))⟩
theorem l6Number_ok (h : Heap) (l : List UInt8) (hl : l.length ≤ 1000000) : ACall Tryz.prog 42 [.string (bL l)] h fun r h' => h' = h ∧ ∃ n, r = .tuple #[.int .i64 n, .bool (decide (numOk l))] ∧ (numOk l → n = numV l) := by
  refine ACall.of Tryz.func42 s42 (of_decide_eq_true rfl) ?_
  have last := fun i neg R => l6Number_last h l i neg R hl
  rw [c42.eq_1, c42_52.eq_1, c42_51.eq_1, c42_50.eq_1, c42_49.eq_1]
  generalize c42_48 = fc at last ⊢
  have N : strB .neq (bL l) ⟨#[]⟩ = some (.bool (!decide (l = []))) := strB_neq (bL l) ⟨#[]⟩
  by_cases c0 : l = []
  · have q : ¬ hp 45 l := by rw [c0]; intro t; cases t
    simp (maxSteps := 4000000) (disch := omega) only [ah, am, Nat.reduceEqDiff, reduceCtorEq, Nat.reduceAdd, Nat.reduceLeDiff, Nat.reduceMul, Nat.reduceLT, if_true, if_false, true_and, and_true, and_self, Nat.reduceBEq, QOp.loads, boxO, bslO, buildO, cutL, fillV, putL, w42, v42, N, decide_eq_true c0, Bool.not_true]
    exact last 0 false _ (by unfold bodyL; rw [if_neg q]; rfl) (decide_eq_false q).symm (by omega) (by omega) (by simp) (by simp)
  have hl1 : 0 < l.length := by cases l with
    | nil => exact absurd rfl c0
    | cons b t => simp
  have IV : ivsV (.string (bL l)) (.int .i64 0) = some (.int .u8 (l[0].toNat : Int)) := ivs_bL l .i64 0 hl1
  have hh : hp 45 l ↔ (l[0].toNat : Int) = 45 := by
    cases l with
    | nil => exact absurd rfl c0
    | cons b t =>
      unfold hp
      simp only [List.take_succ_cons, List.take_zero, List.cons.injEq, and_true, List.getElem_cons_zero]
      exact ⟨fun e => by rw [e]; rfl, fun e => UInt8.toNat_inj.mp (by have : (45 : UInt8).toNat = 45 := rfl; omega)⟩
  by_cases z : (l[0].toNat : Int) = 45
  · have q := hh.mpr z
    simp (maxSteps := 4000000) (disch := omega) only [ah, am, Nat.reduceEqDiff, reduceCtorEq, Nat.reduceAdd, Nat.reduceLeDiff, Nat.reduceMul, Nat.reduceLT, if_true, if_false, true_and, and_true, and_self, Nat.reduceBEq, QOp.loads, boxO, bslO, buildO, cutL, fillV, putL, w42, v42, N, decide_eq_false c0, Bool.not_false, IV, decide_eq_true z]
    exact last 1 true _ (if_pos q) (decide_eq_true q).symm (by omega) (by omega) (by simp) (by simp)
  · have q : ¬ hp 45 l := fun t => z (hh.mp t)
    simp (maxSteps := 4000000) (disch := omega) only [ah, am, Nat.reduceEqDiff, reduceCtorEq, Nat.reduceAdd, Nat.reduceLeDiff, Nat.reduceMul, Nat.reduceLT, if_true, if_false, true_and, and_true, and_self, Nat.reduceBEq, QOp.loads, boxO, bslO, buildO, cutL, fillV, putL, w42, v42, N, decide_eq_false c0, Bool.not_false, IV, decide_eq_false z]
    exact last 0 false _ (by unfold bodyL; rw [if_neg q]; rfl) (decide_eq_false q).symm (by omega) (by omega) (by simp) (by simp)
end Go.Proofs.YtgmimgmdbpcecaaGreatDoor
end

section
namespace Go.Proofs.YtgmimgmdbpcecaaGreatDoor
open Go Go.Ah
set_option linter.unusedSimpArgs false
set_option linter.unusedVariables false
set_option maxRecDepth 10000
set_option maxHeartbeats 4000000
/-! 52 loop.example/g00066/impl.sourceOf: parameters 1, live [0], slots [0:word, 1:word, 4:rest, 5:ok, 6:n, 7:told] -/
def c52_0 : List SOper := [⟨some 2, .q (.mv (.c (.int .i64 0))), none⟩, ⟨some 3, .q (.mv (.c (.bool false))), none⟩]
def c52_1 : List SOper := [⟨some 8, .q (.mv (.t 0)), none⟩, ⟨some 9, .q (.bin .eql (.t 8) (.c (.string ⟨#[66, 76]⟩))), none⟩]
def c52_2 : List SOper := [⟨some 2, .q (.mv (.c (.int .i64 0))), none⟩, ⟨some 3, .q (.mv (.c (.bool true))), none⟩]
def c52_3 : SCode := .seq (.region c52_2 [2, 3]) .ret
def c52_4 : SCode := .cond (.t 9) c52_3 .skip
def c52_5 : SCode := .seq (.region c52_1 [0, 9]) c52_4
def c52_6 : List SOper := [⟨some 11, .q (.mv (.t 0)), none⟩, ⟨some 12, .e (.call 73 [(.t 11), (.c (.string ⟨#[82]⟩))]), none⟩, ⟨some 10, .q (.mv (.t 12)), none⟩, ⟨some 13, .q (.ext (.t 10) 0), none⟩, ⟨some 14, .q (.ext (.t 10) 1), none⟩, ⟨some 4, .q (.mv (.t 13)), none⟩, ⟨some 5, .q (.mv (.t 14)), none⟩]
def c52_7 : List SOper := [⟨some 16, .q (.mv (.t 4)), none⟩, ⟨some 17, .e (.call 74 [(.t 16)]), none⟩, ⟨some 15, .q (.mv (.t 17)), none⟩, ⟨some 18, .q (.ext (.t 15) 0), none⟩, ⟨some 19, .q (.ext (.t 15) 1), none⟩, ⟨some 6, .q (.mv (.t 18)), none⟩, ⟨some 7, .q (.mv (.t 19)), none⟩]
def c52_8 : List SOper := [⟨some 20, .q (.mv (.t 6)), none⟩, ⟨some 21, .q (.mv (.t 5)), none⟩, ⟨some 22, .q (.mv (.t 21)), none⟩, ⟨some 23, .q (.mv (.t 7)), some (22, true)⟩, ⟨some 24, .q (.pick (.t 22) (.t 23) (.c (.bool false))), none⟩, ⟨some 25, .q (.mv (.t 24)), none⟩, ⟨some 26, .q (.mv (.t 6)), some (25, true)⟩, ⟨some 27, .e (.call 46 [(.t 26), (.c (.int .i64 1)), (.c (.int .i64 500))]), some (25, true)⟩, ⟨some 28, .q (.pick (.t 25) (.t 27) (.c (.bool false))), none⟩, ⟨some 2, .q (.mv (.t 20)), none⟩, ⟨some 3, .q (.mv (.t 28)), none⟩]
def c52_9 : SCode := .seq (.region c52_8 [2, 3]) .ret
def c52_10 : SCode := .seq (.region c52_7 [5, 6, 7]) c52_9
def c52_11 : SCode := .seq (.region c52_6 [4, 5]) c52_10
def c52_12 : SCode := .seq c52_5 c52_11
def c52_13 : SCode := .seq (.region c52_0 [0]) c52_12
def c52 : SCode := c52_13
theorem w52 : type_of% (And.intro (uR Tryz.prog c52_0.eq_1) (And.intro (uR Tryz.prog c52_1.eq_1) (And.intro (uR Tryz.prog c52_2.eq_1) (And.intro (uC Tryz.prog c52_3.eq_1) (And.intro (uC Tryz.prog c52_4.eq_1) (And.intro (uC Tryz.prog c52_5.eq_1) (And.intro (uR Tryz.prog c52_6.eq_1) (And.intro (uR Tryz.prog c52_7.eq_1) (And.intro (uR Tryz.prog c52_8.eq_1) (And.intro (uC Tryz.prog c52_9.eq_1) (And.intro (uC Tryz.prog c52_10.eq_1) (And.intro (uC Tryz.prog c52_11.eq_1) (And.intro (uC Tryz.prog c52_12.eq_1) (And.intro (uC Tryz.prog c52_13.eq_1) (uC Tryz.prog c52.eq_1))))))))))))))) := (And.intro (uR Tryz.prog c52_0.eq_1) (And.intro (uR Tryz.prog c52_1.eq_1) (And.intro (uR Tryz.prog c52_2.eq_1) (And.intro (uC Tryz.prog c52_3.eq_1) (And.intro (uC Tryz.prog c52_4.eq_1) (And.intro (uC Tryz.prog c52_5.eq_1) (And.intro (uR Tryz.prog c52_6.eq_1) (And.intro (uR Tryz.prog c52_7.eq_1) (And.intro (uR Tryz.prog c52_8.eq_1) (And.intro (uC Tryz.prog c52_9.eq_1) (And.intro (uC Tryz.prog c52_10.eq_1) (And.intro (uC Tryz.prog c52_11.eq_1) (And.intro (uC Tryz.prog c52_12.eq_1) (And.intro (uC Tryz.prog c52_13.eq_1) (uC Tryz.prog c52.eq_1)))))))))))))))
def v52 : List RV := [.t 2, .t 3]
theorem s52 : slimF Tryz.prog Tryz.f52 = some (c52.bare, v52) := by kernel_rfl

def srcOk (l : List UInt8) : Prop := l = [66, 76] ∨ (hp 82 l ∧ numOk (l.drop 1) ∧ 1 ≤ numV (l.drop 1) ∧ numV (l.drop 1) ≤ 500)
instance (l : List UInt8) : Decidable (srcOk l) := by unfold srcOk; infer_instance
def srcV' (l : List UInt8) : Int := if l = [66, 76] then 0 else numV (l.drop 1)
theorem sourceOf_ok (h : Heap) (l : List UInt8) (hl : l.length ≤ 1000000) : ACall Tryz.prog 52 [.string (bL l)] h fun r h' => h' = h ∧ ∃ n, r = .tuple #[.int .i64 n, .bool (decide (srcOk l))] ∧ (srcOk l → n = srcV' l) := by
  have N : strB .eql (bL l) ⟨#[66, 76]⟩ = some (.bool (decide (l = [66, 76]))) := strB_eql (bL l) ⟨#[66, 76]⟩
  refine ACall.of Tryz.func52 s52 (of_decide_eq_true rfl) ?_
  by_cases c0 : l = [66, 76]
  · simp (maxSteps := 4000000) (disch := omega) only [ah, am, Nat.reduceEqDiff, reduceCtorEq, Nat.reduceAdd, Nat.reduceLeDiff, Nat.reduceMul, Nat.reduceLT, if_true, if_false, true_and, and_true, and_self, Nat.reduceBEq, QOp.loads, boxO, bslO, buildO, cutL, fillV, putL, w52, v52, N, decide_eq_true c0]
    exact ⟨0, by rw [decide_eq_true (.inl c0)], fun _ => (if_pos c0).symm⟩
  have hv : srcV' l = numV (l.drop 1) := if_neg c0
  simp (maxSteps := 4000000) (disch := omega) only [ah, am, Nat.reduceEqDiff, reduceCtorEq, Nat.reduceAdd, Nat.reduceLeDiff, Nat.reduceMul, Nat.reduceLT, if_true, if_false, true_and, and_true, and_self, Nat.reduceBEq, QOp.loads, boxO, bslO, buildO, cutL, fillV, putL, w52, v52, N, decide_eq_false c0]
  refine stepC.of (CutPrefix_ok h l 82 hl) ?_
  rintro _ Hx ⟨hx, rfl⟩; rw [hx]; clear hx Hx
  by_cases q : hp 82 l
  · rw [if_pos q]
    simp (maxSteps := 4000000) (disch := omega) only [ah, am, Nat.reduceEqDiff, reduceCtorEq, Nat.reduceAdd, Nat.reduceLeDiff, Nat.reduceMul, Nat.reduceLT, if_true, if_false, true_and, and_true, and_self, Nat.reduceBEq, QOp.loads, boxO, bslO, buildO, cutL, fillV, putL, w52, v52, decide_eq_true q]
    refine stepC.of (number_ok h (l.drop 1) (by simp; omega)) ?_
    rintro _ Hx ⟨hx, n, rfl, hn⟩; rw [hx]; clear hx Hx
    by_cases k : numOk (l.drop 1)
    · have e := hn k
      simp (maxSteps := 4000000) (disch := omega) only [ah, am, Nat.reduceEqDiff, reduceCtorEq, Nat.reduceAdd, Nat.reduceLeDiff, Nat.reduceMul, Nat.reduceLT, if_true, if_false, true_and, and_true, and_self, Nat.reduceBEq, QOp.loads, boxO, bslO, buildO, cutL, fillV, putL, w52, v52, decide_eq_true k]
      refine stepC.of (in_ok h n 1 500) ?_
      rintro _ Hx ⟨hx, rfl⟩; rw [hx]; clear hx Hx
      have hd : decide (1 ≤ n ∧ n ≤ 500) = decide (srcOk l) := decide_eq_decide.mpr ⟨fun t => .inr ⟨q, k, by omega, by omega⟩, fun t => by
        rcases t with t | ⟨_, _, t⟩
        · exact absurd t c0
        · omega⟩
      simp (maxSteps := 4000000) (disch := omega) only [ah, am, Nat.reduceEqDiff, reduceCtorEq, Nat.reduceAdd, Nat.reduceLeDiff, Nat.reduceMul, Nat.reduceLT, if_true, if_false, true_and, and_true, and_self, Nat.reduceBEq, QOp.loads, boxO, bslO, buildO, cutL, fillV, putL, w52, v52, hd]
      exact ⟨n, rfl, fun _ => by rw [e, hv]⟩
    · simp (maxSteps := 4000000) (disch := omega) only [ah, am, Nat.reduceEqDiff, reduceCtorEq, Nat.reduceAdd, Nat.reduceLeDiff, Nat.reduceMul, Nat.reduceLT, if_true, if_false, true_and, and_true, and_self, Nat.reduceBEq, QOp.loads, boxO, bslO, buildO, cutL, fillV, putL, w52, v52, decide_eq_false k]
      have no : ¬ srcOk l := by
        rintro (t | ⟨_, t, _⟩)
        · exact c0 t
        · exact k t
      exact ⟨n, by rw [decide_eq_false no], fun t => absurd t no⟩
  · rw [if_neg q]
    have no : ¬ srcOk l := by
      rintro (t | ⟨t, _⟩)
      · exact c0 t
      · exact q t
    simp (maxSteps := 4000000) (disch := omega) only [ah, am, Nat.reduceEqDiff, reduceCtorEq, Nat.reduceAdd, Nat.reduceLeDiff, Nat.reduceMul, Nat.reduceLT, if_true, if_false, true_and, and_true, and_self, Nat.reduceBEq, QOp.loads, boxO, bslO, buildO, cutL, fillV, putL, w52, v52, decide_eq_false q]
    refine stepC.of (number_ok h l hl) ?_
    rintro _ Hx ⟨hx, n, rfl, hn⟩; rw [hx]; clear hx Hx
    simp (maxSteps := 4000000) (disch := omega) only [ah, am, Nat.reduceEqDiff, reduceCtorEq, Nat.reduceAdd, Nat.reduceLeDiff, Nat.reduceMul, Nat.reduceLT, if_true, if_false, true_and, and_true, and_self, Nat.reduceBEq, QOp.loads, boxO, bslO, buildO, cutL, fillV, putL, w52, v52]
    exact ⟨n, by rw [decide_eq_false no], fun t => absurd t no⟩
end Go.Proofs.YtgmimgmdbpcecaaGreatDoor
end

section
namespace Go.Proofs.YtgmimgmdbpcecaaGreatDoor
open Go Go.Ah
set_option linter.unusedSimpArgs false
set_option linter.unusedVariables false
/-- Words of a line, one byte more. -/
theorem spl_snoc (b : UInt8) : ∀ (t : List UInt8) (P : List (List UInt8)) (q : List UInt8), spl t = P ++ [q] → spl (t ++ [b]) = if b = 32 then P ++ [q, []] else P ++ [q ++ [b]] := by
  intro t
  induction t with
  | nil =>
    intro P q e
    have e' : [[]] = P ++ [q] := e
    cases P with
    | nil =>
      simp only [List.nil_append, List.cons.injEq, and_true] at e'
      subst e'
      by_cases hb : b = 32
      · subst hb; rfl
      · rw [if_neg hb]
        have := spl_cons hb (show spl [] = [] :: [] from rfl)
        simpa using this
    | cons p P => simp at e'
  | cons c t ih =>
    intro P q e
    obtain ⟨h, r, e2⟩ := spl_ne t
    by_cases hc : c = 32
    · subst hc
      rw [spl_nl] at e
      cases P with
      | nil => rw [e2] at e; simp at e
      | cons p P =>
        obtain ⟨rfl, e3⟩ := List.cons.inj e
        have := ih P q e3
        rw [List.cons_append, spl_nl, this]
        split <;> rfl
    · rw [spl_cons hc e2] at e
      cases P with
      | nil =>
        obtain ⟨rfl, rfl⟩ := List.cons.inj e
        have := ih [] h e2
        rw [List.cons_append]
        by_cases hb : b = 32
        · rw [if_pos hb] at this ⊢
          exact spl_cons hc this
        · rw [if_neg hb] at this ⊢
          exact spl_cons hc this
      | cons p P =>
        obtain ⟨rfl, rfl⟩ := List.cons.inj e
        have := ih (h :: P) q e2
        rw [List.cons_append]
        by_cases hb : b = 32
        · rw [if_pos hb] at this ⊢
          exact spl_cons hc this
        · rw [if_neg hb] at this ⊢
          exact spl_cons hc this
end Go.Proofs.YtgmimgmdbpcecaaGreatDoor
end
