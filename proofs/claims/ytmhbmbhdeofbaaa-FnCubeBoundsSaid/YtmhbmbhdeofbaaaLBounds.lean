import Derived.Test.YtmhbmbhdeofbaaaE10
namespace Go.Proofs.Ytmhbmbhdeofbaaa
open Go Go.Ah
set_option linter.unusedSimpArgs false
set_option linter.unusedVariables false
set_option maxRecDepth 10000
set_option maxHeartbeats 4000000
/-! 5 loop.example/g00066/laws.FnCubeBounds: parameters 1, live [0], slots [0:code, 1:code, 3:n, 4:t, 5:c, 6:x, 7:least, 8:most, 9:i] -/
def c5_0 : List SOper := [⟨some 2, .q (.mv (.c (.bool false))), none⟩]
def c5_1 : List SOper := [⟨some 10, .q (.mv (.t 0)), none⟩, ⟨some 11, .e (.call 13 [(.t 10)]), none⟩]
def c5_2 : List SOper := [⟨some 2, .q (.mv (.c (.bool true))), none⟩]
def c5_3 : SCode := .seq (.region c5_2 [2]) .ret
def c5_4 : SCode := .cond (.t 11) c5_3 .skip
def c5_5 : SCode := .seq (.region c5_1 [0, 11]) c5_4
def c5_6 : List SOper := [⟨some 13, .q (.mv (.t 0)), none⟩, ⟨some 14, .e (.call 20 [(.t 13)]), none⟩, ⟨some 12, .q (.mv (.t 14)), none⟩, ⟨some 15, .q (.ext (.t 12) 0), none⟩, ⟨some 16, .q (.ext (.t 12) 1), none⟩, ⟨some 17, .q (.ext (.t 12) 2), none⟩, ⟨some 5, .a (.new [(.int .i64 0), (.int .i64 0), (.int .i64 0)]), none⟩, ⟨some 3, .q (.mv (.t 15)), none⟩, ⟨some 4, .q (.mv (.t 16)), none⟩, ⟨none, .e (.st 3 (.t 5) (.t 17)), none⟩]
def c5_7 : List SOper := [⟨some 18, .q (.mv (.t 3)), none⟩, ⟨some 19, .q (.mv (.t 4)), none⟩, ⟨some 20, .q (.ldn 3 (.t 5)), none⟩, ⟨some 21, .e (.call 10 [(.t 18), (.t 19), (.t 20)]), none⟩, ⟨some 6, .a (.new [(.int .i64 0), (.int .i64 0), (.int .i64 0)]), none⟩, ⟨none, .e (.st 3 (.t 6) (.t 21)), none⟩]
def c5_8 : List DOper := [⟨0, ⟨some 22, .q (.ldn 3 (.t 6)), none⟩, [], []⟩, ⟨1, ⟨some 23, .q (.mv (.t 3)), none⟩, [], []⟩, ⟨2, ⟨some 24, .q (.mv (.t 4)), none⟩, [], []⟩, ⟨3, ⟨some 25, .q (.ldn 3 (.t 5)), none⟩, [], []⟩, ⟨4, ⟨some 26, .e (.call 7 [(.t 23), (.t 24), (.t 25)]), none⟩, [], [0]⟩, ⟨5, ⟨some 27, .q (.eqi true 3 (.t 22) (.t 26)), none⟩, [], []⟩]
def c5_9 : List SOper := [⟨some 2, .q (.mv (.c (.bool false))), none⟩]
def c5_10 : SCode := .seq (.region c5_9 [2]) .ret
def c5_11 : SCode := .cond (.t 27) c5_10 .skip
def c5_12 : SCode := .seq (.dregion c5_8 [3, 4, 5, 6, 27]) c5_11
def c5_13 : List SOper := [⟨some 28, .q (.mv (.t 4)), none⟩, ⟨some 29, .q (.len (.t 28)), none⟩, ⟨some 30, .q (.bin .eql (.t 29) (.c (.int .i64 0))), none⟩, ⟨some 31, .q (.mv (.t 30)), none⟩, ⟨some 32, .q (.mv (.t 3)), some (31, false)⟩, ⟨some 33, .q (.bin .lss (.t 32) (.c (.int .i64 2))), some (31, false)⟩, ⟨some 34, .q (.pick (.t 31) (.c (.bool true)) (.t 33)), none⟩, ⟨some 35, .q (.mv (.t 34)), none⟩, ⟨some 36, .q (.mv (.t 3)), some (35, false)⟩, ⟨some 37, .q (.bin .gtr (.t 36) (.c (.int .i64 9))), some (35, false)⟩, ⟨some 38, .q (.pick (.t 35) (.c (.bool true)) (.t 37)), none⟩, ⟨some 39, .q (.mv (.t 38)), none⟩, ⟨some 40, .q (.mv (.t 4)), some (39, false)⟩, ⟨some 41, .q (.len (.t 40)), some (39, false)⟩, ⟨some 42, .q (.mv (.t 3)), some (39, false)⟩, ⟨some 43, .q (.mv (.t 3)), some (39, false)⟩, ⟨some 44, .q (.bin .mul (.t 42) (.t 43)), some (39, false)⟩, ⟨some 45, .q (.mv (.t 3)), some (39, false)⟩, ⟨some 46, .q (.bin .mul (.t 44) (.t 45)), some (39, false)⟩, ⟨some 47, .q (.bin .neq (.t 41) (.t 46)), some (39, false)⟩, ⟨some 48, .q (.pick (.t 39) (.c (.bool true)) (.t 47)), none⟩, ⟨some 49, .q (.mv (.t 48)), none⟩, ⟨some 50, .q (.fa 0 (.t 5)), some (49, false)⟩, ⟨some 51, .q (.ld (.t 50)), some (49, false)⟩, ⟨some 52, .q (.bin .lss (.t 51) (.c (.int .i64 0))), some (49, false)⟩, ⟨some 53, .q (.pick (.t 49) (.c (.bool true)) (.t 52)), none⟩, ⟨some 54, .q (.mv (.t 53)), none⟩, ⟨some 55, .q (.fa 0 (.t 5)), some (54, false)⟩, ⟨some 56, .q (.ld (.t 55)), some (54, false)⟩, ⟨some 57, .q (.bin .gtr (.t 56) (.c (.int .i64 65535))), some (54, false)⟩, ⟨some 58, .q (.pick (.t 54) (.c (.bool true)) (.t 57)), none⟩, ⟨some 59, .q (.mv (.t 58)), none⟩, ⟨some 60, .q (.mv (.t 4)), some (59, false)⟩, ⟨some 61, .q (.ia 3 (.t 60) (.c (.int .i64 0))), some (59, false)⟩, ⟨some 62, .q (.fa 0 (.t 61)), some (59, false)⟩, ⟨some 63, .q (.ld (.t 62)), some (59, false)⟩, ⟨some 64, .q (.bin .gtr (.t 63) (.c (.int .i64 65535))), some (59, false)⟩, ⟨some 65, .q (.pick (.t 59) (.c (.bool true)) (.t 64)), none⟩]
def c5_14 : List SOper := [⟨some 66, .q (.ldn 3 (.t 6)), none⟩, ⟨some 67, .q (.build [(.int .i64 0), (.int .i64 0), (.int .i64 0)] []), none⟩, ⟨some 68, .q (.eqi false 3 (.t 66) (.t 67)), none⟩, ⟨some 2, .q (.mv (.t 68)), none⟩]
def c5_15 : SCode := .seq (.region c5_14 [2]) .ret
def c5_16 : SCode := .cond (.t 65) c5_15 .skip
def c5_17 : SCode := .seq (.region c5_13 [3, 4, 6, 65]) c5_16
def c5_18 : List SOper := [⟨some 69, .q (.mv (.t 4)), none⟩, ⟨some 70, .q (.ia 3 (.t 69) (.c (.int .i64 0))), none⟩, ⟨some 71, .q (.fa 1 (.t 70)), none⟩, ⟨some 72, .q (.ld (.t 71)), none⟩, ⟨some 7, .q (.mv (.t 72)), none⟩]
def c5_19 : List SOper := [⟨some 73, .q (.mv (.t 4)), none⟩, ⟨some 74, .q (.ia 3 (.t 73) (.c (.int .i64 0))), none⟩, ⟨some 75, .q (.fa 1 (.t 74)), none⟩, ⟨some 76, .q (.ld (.t 75)), none⟩, ⟨some 8, .q (.mv (.t 76)), none⟩]
def c5_20 : List SOper := [⟨some 9, .q (.mv (.c (.int .i64 0))), none⟩]
def c5_21 : List SOper := [⟨some 77, .q (.mv (.t 9)), none⟩, ⟨some 78, .q (.mv (.t 4)), none⟩, ⟨some 79, .q (.len (.t 78)), none⟩, ⟨some 80, .q (.bin .lss (.t 77) (.t 79)), none⟩]
def c5_22 : SCode := .cond (.t 80) .skip (.exit 0)
def c5_23 : SCode := .seq (.region c5_21 [3, 4, 6, 7, 8, 9, 80]) c5_22
def c5_24 : List SOper := [⟨some 83, .q (.mv (.t 4)), none⟩, ⟨some 84, .q (.mv (.t 9)), none⟩, ⟨some 85, .q (.ia 3 (.t 83) (.t 84)), none⟩, ⟨some 86, .q (.fa 1 (.t 85)), none⟩, ⟨some 87, .q (.ld (.t 86)), none⟩, ⟨some 88, .q (.mv (.t 7)), none⟩, ⟨some 89, .q (.bin .lss (.t 87) (.t 88)), none⟩]
def c5_25 : List SOper := [⟨some 90, .q (.mv (.t 4)), none⟩, ⟨some 91, .q (.mv (.t 9)), none⟩, ⟨some 92, .q (.ia 3 (.t 90) (.t 91)), none⟩, ⟨some 93, .q (.fa 1 (.t 92)), none⟩, ⟨some 94, .q (.ld (.t 93)), none⟩, ⟨some 7, .q (.mv (.t 94)), none⟩]
def c5_26 : SCode := .cond (.t 89) (.region c5_25 [3, 4, 6, 7, 8, 9]) .skip
def c5_27 : SCode := .seq (.region c5_24 [3, 4, 6, 7, 8, 9, 89]) c5_26
def c5_28 : List SOper := [⟨some 95, .q (.mv (.t 4)), none⟩, ⟨some 96, .q (.mv (.t 9)), none⟩, ⟨some 97, .q (.ia 3 (.t 95) (.t 96)), none⟩, ⟨some 98, .q (.fa 1 (.t 97)), none⟩, ⟨some 99, .q (.ld (.t 98)), none⟩, ⟨some 100, .q (.mv (.t 8)), none⟩, ⟨some 101, .q (.bin .gtr (.t 99) (.t 100)), none⟩]
def c5_29 : List SOper := [⟨some 102, .q (.mv (.t 4)), none⟩, ⟨some 103, .q (.mv (.t 9)), none⟩, ⟨some 104, .q (.ia 3 (.t 102) (.t 103)), none⟩, ⟨some 105, .q (.fa 1 (.t 104)), none⟩, ⟨some 106, .q (.ld (.t 105)), none⟩, ⟨some 8, .q (.mv (.t 106)), none⟩]
def c5_30 : SCode := .cond (.t 101) (.region c5_29 [3, 4, 6, 7, 8, 9]) .skip
def c5_31 : SCode := .seq (.region c5_28 [3, 4, 6, 7, 8, 9, 101]) c5_30
def c5_32 : SCode := .seq c5_27 c5_31
def c5_33 : SCode := .block 1 c5_32
def c5_34 : List SOper := [⟨some 81, .q (.mv (.t 9)), none⟩, ⟨some 82, .q (.bin .add (.t 81) (.c (.int .i64 1))), none⟩, ⟨some 9, .q (.mv (.t 82)), none⟩]
def c5_35 : SCode := .seq c5_33 (.region c5_34 [3, 4, 6, 7, 8, 9])
def c5_36 : SCode := .seq c5_23 c5_35
def c5_37 : SCode := .loop c5_36
def c5_38 : SCode := .block 0 c5_37
def c5_39 : SCode := .seq (.region c5_20 [3, 4, 6, 7, 8, 9]) c5_38
def c5_40 : List DOper := [⟨0, ⟨some 107, .q (.fa 1 (.t 6)), none⟩, [], []⟩, ⟨1, ⟨some 108, .q (.ld (.t 107)), none⟩, [], []⟩, ⟨2, ⟨some 109, .q (.mv (.t 7)), none⟩, [], []⟩, ⟨3, ⟨some 110, .q (.bin .geq (.t 108) (.t 109)), none⟩, [], []⟩, ⟨4, ⟨some 111, .q (.mv (.t 110)), none⟩, [], []⟩, ⟨5, ⟨some 112, .q (.fa 1 (.t 6)), some (111, true)⟩, [], []⟩, ⟨6, ⟨some 113, .q (.ld (.t 112)), some (111, true)⟩, [], []⟩, ⟨7, ⟨some 114, .q (.mv (.t 8)), some (111, true)⟩, [], []⟩, ⟨8, ⟨some 115, .q (.bin .leq (.t 113) (.t 114)), some (111, true)⟩, [], []⟩, ⟨9, ⟨some 116, .q (.pick (.t 111) (.t 115) (.c (.bool false))), none⟩, [], []⟩, ⟨10, ⟨some 117, .q (.mv (.t 116)), none⟩, [], []⟩, ⟨11, ⟨some 118, .q (.mv (.t 3)), some (117, true)⟩, [], []⟩, ⟨12, ⟨some 119, .q (.mv (.t 4)), some (117, true)⟩, [], []⟩, ⟨13, ⟨some 120, .q (.build [(.int .i64 0), (.int .i64 0), (.int .i64 0)] []), some (117, true)⟩, [], []⟩, ⟨15, ⟨some 122, .q (.mv (.t 4)), some (117, true)⟩, [], []⟩, ⟨16, ⟨some 123, .q (.ia 3 (.t 122) (.c (.int .i64 0))), some (117, true)⟩, [], []⟩, ⟨17, ⟨some 124, .q (.ldn 3 (.t 123)), some (117, true)⟩, [], []⟩, ⟨14, ⟨some 121, .e (.call 10 [(.t 118), (.t 119), (.t 120)]), some (117, true)⟩, [], [17]⟩, ⟨18, ⟨some 125, .q (.eqi false 3 (.t 121) (.t 124)), some (117, true)⟩, [], []⟩, ⟨19, ⟨some 126, .q (.pick (.t 117) (.t 125) (.c (.bool false))), none⟩, [], []⟩, ⟨20, ⟨some 127, .q (.mv (.t 126)), none⟩, [], []⟩, ⟨21, ⟨some 128, .q (.mv (.t 3)), some (127, true)⟩, [], []⟩, ⟨22, ⟨some 129, .q (.mv (.t 4)), some (127, true)⟩, [], []⟩, ⟨23, ⟨some 130, .q (.build [(.int .i64 0), (.int .i64 0), (.int .i64 0)] [(0, 1, (.c (.int .i64 65535))), (1, 1, (.c (.int .i64 65535))), (2, 1, (.c (.int .i64 65535)))]), some (127, true)⟩, [], []⟩, ⟨25, ⟨some 132, .q (.mv (.t 4)), some (127, true)⟩, [], []⟩, ⟨26, ⟨some 133, .q (.mv (.t 3)), some (127, true)⟩, [], []⟩, ⟨27, ⟨some 134, .q (.mv (.t 3)), some (127, true)⟩, [], []⟩, ⟨28, ⟨some 135, .q (.bin .mul (.t 133) (.t 134)), some (127, true)⟩, [], []⟩, ⟨29, ⟨some 136, .q (.mv (.t 3)), some (127, true)⟩, [], []⟩, ⟨30, ⟨some 137, .q (.bin .mul (.t 135) (.t 136)), some (127, true)⟩, [], []⟩, ⟨31, ⟨some 138, .q (.bin .sub (.t 137) (.c (.int .i64 1))), some (127, true)⟩, [], []⟩, ⟨32, ⟨some 139, .q (.ia 3 (.t 132) (.t 138)), some (127, true)⟩, [], []⟩, ⟨33, ⟨some 140, .q (.ldn 3 (.t 139)), some (127, true)⟩, [], []⟩, ⟨24, ⟨some 131, .e (.call 10 [(.t 128), (.t 129), (.t 130)]), some (127, true)⟩, [], [33]⟩, ⟨34, ⟨some 141, .q (.eqi false 3 (.t 131) (.t 140)), some (127, true)⟩, [], []⟩, ⟨35, ⟨some 142, .q (.pick (.t 127) (.t 141) (.c (.bool false))), none⟩, [], []⟩, ⟨36, ⟨some 2, .q (.mv (.t 142)), none⟩, [], []⟩]
def c5_41 : SCode := .seq (.dregion c5_40 [2]) .ret
def c5_42 : SCode := .seq c5_39 c5_41
def c5_43 : SCode := .seq (.region c5_19 [3, 4, 6, 7, 8]) c5_42
def c5_44 : SCode := .seq (.region c5_18 [3, 4, 6, 7]) c5_43
def c5_45 : SCode := .seq c5_17 c5_44
def c5_46 : SCode := .seq c5_12 c5_45
def c5_47 : SCode := .seq (.region c5_7 [3, 4, 5, 6]) c5_46
def c5_48 : SCode := .seq (.region c5_6 [3, 4, 5]) c5_47
def c5_49 : SCode := .seq c5_5 c5_48
def c5_50 : SCode := .seq (.region c5_0 [0]) c5_49
def c5 : SCode := c5_50
theorem w5 : type_of% (And.intro (uR Try.prog c5_0.eq_1) (And.intro (uR Try.prog c5_1.eq_1) (And.intro (uR Try.prog c5_2.eq_1) (And.intro (uC Try.prog c5_3.eq_1) (And.intro (uC Try.prog c5_4.eq_1) (And.intro (uC Try.prog c5_5.eq_1) (And.intro (uR Try.prog c5_6.eq_1) (And.intro (uR Try.prog c5_7.eq_1) (And.intro (uD Try.prog c5_8.eq_1) (And.intro (uR Try.prog c5_9.eq_1) (And.intro (uC Try.prog c5_10.eq_1) (And.intro (uC Try.prog c5_11.eq_1) (And.intro (uC Try.prog c5_12.eq_1) (And.intro (uR Try.prog c5_13.eq_1) (And.intro (uR Try.prog c5_14.eq_1) (And.intro (uC Try.prog c5_15.eq_1) (And.intro (uC Try.prog c5_16.eq_1) (And.intro (uC Try.prog c5_17.eq_1) (And.intro (uR Try.prog c5_18.eq_1) (And.intro (uR Try.prog c5_19.eq_1) (And.intro (uR Try.prog c5_20.eq_1) (And.intro (uR Try.prog c5_21.eq_1) (And.intro (uC Try.prog c5_22.eq_1) (And.intro (uC Try.prog c5_23.eq_1) (And.intro (uR Try.prog c5_24.eq_1) (And.intro (uR Try.prog c5_25.eq_1) (And.intro (uC Try.prog c5_26.eq_1) (And.intro (uC Try.prog c5_27.eq_1) (And.intro (uR Try.prog c5_28.eq_1) (And.intro (uR Try.prog c5_29.eq_1) (And.intro (uC Try.prog c5_30.eq_1) (And.intro (uC Try.prog c5_31.eq_1) (And.intro (uC Try.prog c5_32.eq_1) (And.intro (uC Try.prog c5_33.eq_1) (And.intro (uR Try.prog c5_34.eq_1) (And.intro (uC Try.prog c5_35.eq_1) (And.intro (uC Try.prog c5_36.eq_1) (And.intro (uC Try.prog c5_37.eq_1) (And.intro (uC Try.prog c5_38.eq_1) (And.intro (uC Try.prog c5_39.eq_1) (And.intro (uD Try.prog c5_40.eq_1) (And.intro (uC Try.prog c5_41.eq_1) (And.intro (uC Try.prog c5_42.eq_1) (And.intro (uC Try.prog c5_43.eq_1) (And.intro (uC Try.prog c5_44.eq_1) (And.intro (uC Try.prog c5_45.eq_1) (And.intro (uC Try.prog c5_46.eq_1) (And.intro (uC Try.prog c5_47.eq_1) (And.intro (uC Try.prog c5_48.eq_1) (And.intro (uC Try.prog c5_49.eq_1) (And.intro (uC Try.prog c5_50.eq_1) (uC Try.prog c5.eq_1)))))))))))))))))))))))))))))))))))))))))))))))))))) := (And.intro (uR Try.prog c5_0.eq_1) (And.intro (uR Try.prog c5_1.eq_1) (And.intro (uR Try.prog c5_2.eq_1) (And.intro (uC Try.prog c5_3.eq_1) (And.intro (uC Try.prog c5_4.eq_1) (And.intro (uC Try.prog c5_5.eq_1) (And.intro (uR Try.prog c5_6.eq_1) (And.intro (uR Try.prog c5_7.eq_1) (And.intro (uD Try.prog c5_8.eq_1) (And.intro (uR Try.prog c5_9.eq_1) (And.intro (uC Try.prog c5_10.eq_1) (And.intro (uC Try.prog c5_11.eq_1) (And.intro (uC Try.prog c5_12.eq_1) (And.intro (uR Try.prog c5_13.eq_1) (And.intro (uR Try.prog c5_14.eq_1) (And.intro (uC Try.prog c5_15.eq_1) (And.intro (uC Try.prog c5_16.eq_1) (And.intro (uC Try.prog c5_17.eq_1) (And.intro (uR Try.prog c5_18.eq_1) (And.intro (uR Try.prog c5_19.eq_1) (And.intro (uR Try.prog c5_20.eq_1) (And.intro (uR Try.prog c5_21.eq_1) (And.intro (uC Try.prog c5_22.eq_1) (And.intro (uC Try.prog c5_23.eq_1) (And.intro (uR Try.prog c5_24.eq_1) (And.intro (uR Try.prog c5_25.eq_1) (And.intro (uC Try.prog c5_26.eq_1) (And.intro (uC Try.prog c5_27.eq_1) (And.intro (uR Try.prog c5_28.eq_1) (And.intro (uR Try.prog c5_29.eq_1) (And.intro (uC Try.prog c5_30.eq_1) (And.intro (uC Try.prog c5_31.eq_1) (And.intro (uC Try.prog c5_32.eq_1) (And.intro (uC Try.prog c5_33.eq_1) (And.intro (uR Try.prog c5_34.eq_1) (And.intro (uC Try.prog c5_35.eq_1) (And.intro (uC Try.prog c5_36.eq_1) (And.intro (uC Try.prog c5_37.eq_1) (And.intro (uC Try.prog c5_38.eq_1) (And.intro (uC Try.prog c5_39.eq_1) (And.intro (uD Try.prog c5_40.eq_1) (And.intro (uC Try.prog c5_41.eq_1) (And.intro (uC Try.prog c5_42.eq_1) (And.intro (uC Try.prog c5_43.eq_1) (And.intro (uC Try.prog c5_44.eq_1) (And.intro (uC Try.prog c5_45.eq_1) (And.intro (uC Try.prog c5_46.eq_1) (And.intro (uC Try.prog c5_47.eq_1) (And.intro (uC Try.prog c5_48.eq_1) (And.intro (uC Try.prog c5_49.eq_1) (And.intro (uC Try.prog c5_50.eq_1) (uC Try.prog c5.eq_1))))))))))))))))))))))))))))))))))))))))))))))))))))
def v5 : List RV := [.t 2]
theorem s5 : slimF Try.prog Try.f5 = some (c5.bare, v5) := by kernel_rfl

theorem FnCubeBounds_ok (h : Heap) (v : Value) (l : List Int) (s : SlT h encByte 1 v l) (hl : l.length ≤ 9223372036854775807) :
    ACall Try.prog 5 [v] h fun r h' => r = .bool true := by
  refine ACall.of Try.func5 s5 (of_decide_eq_true rfl) ?_
  simp (maxSteps := 4000000) (disch := omega) only [ah, am, Nat.reduceEqDiff, reduceCtorEq, Nat.reduceAdd, Nat.reduceLeDiff, Nat.reduceMul, Nat.reduceLT, if_true, if_false, true_and, and_true, and_self, Nat.reduceBEq, QOp.loads, boxO, bslO, buildO, cutL, fillV, putL, w5, v5]
  refine stepC.of (big_ok _ _ _ s) ?_
  rintro _ Hx ⟨hx, rfl⟩; rw [hx]; clear hx Hx
  refine stepI.split (fun hbig => ?_) (fun hbig => ?_)
  · simp (maxSteps := 4000000) (disch := omega) only [ah, am, Nat.reduceEqDiff, reduceCtorEq, Nat.reduceAdd, Nat.reduceLeDiff, Nat.reduceMul, Nat.reduceLT, if_true, if_false, true_and, and_true, and_self, Nat.reduceBEq, QOp.loads, boxO, bslO, buildO, cutL, fillV, putL, w5, v5]
  have hll : l.length ≤ 4096 := by omega
  simp (maxSteps := 4000000) (disch := omega) only [ah, am, Nat.reduceEqDiff, reduceCtorEq, Nat.reduceAdd, Nat.reduceLeDiff, Nat.reduceMul, Nat.reduceLT, if_true, if_false, true_and, and_true, and_self, Nat.reduceBEq, QOp.loads, boxO, bslO, buildO, cutL, fillV, putL, w5, v5]
  refine stepC.of (DrawCube_ok _ _ _ s hll) ?_
  rintro _ H1 ⟨n, tv, t, z, rfl, hn, st, hlen, hok, zg, zb, zr, e1⟩
  simp (maxSteps := 4000000) (disch := omega) only [ah, am, Nat.reduceEqDiff, reduceCtorEq, Nat.reduceAdd, Nat.reduceLeDiff, Nat.reduceMul, Nat.reduceLT, if_true, if_false, true_and, and_true, and_self, Nat.reduceBEq, QOp.loads, boxO, bslO, buildO, cutL, fillV, putL, w5, v5, encRgb]
  have B5 : Bx (H1.more [[.int .i64 z.r, .int .i64 z.g, .int .i64 z.b]]) H1.size [.int .i64 z.r, .int .i64 z.g, .int .i64 z.b] := Bx.new _ _ _
  have st := st.ext (Ext.more H1 [[.int .i64 z.r, .int .i64 z.g, .int .i64 z.b]])
  generalize H1.more [[.int .i64 z.r, .int .i64 z.g, .int .i64 z.b]] = M1 at B5 st ⊢
  obtain ⟨q, hq⟩ : ∃ q, q = H1.size := ⟨_, rfl⟩
  rw [← hq] at B5 ⊢
  clear hq e1 s
  refine stepC.of (Cube_ok _ _ _ n z st (by omega) (by omega)) ?_
  rintro _ H2 ⟨e2, rfl⟩
  obtain ⟨w, hw⟩ : ∃ w, w = cubeF n t z := ⟨_, rfl⟩
  rw [← hw]
  have e3 := Ext.more H2 [[.int .i64 w.r, .int .i64 w.g, .int .i64 w.b]]
  have B6 : Bx (H2.more [[.int .i64 w.r, .int .i64 w.g, .int .i64 w.b]]) H2.size [.int .i64 w.r, .int .i64 w.g, .int .i64 w.b] := Bx.new _ _ _
  have B5 := (B5.ext e2).ext e3
  have st := (st.ext e2).ext e3
  have X := B5.ld
  have X6 := B6.ld
  simp (maxSteps := 4000000) (disch := omega) only [ah, am, Nat.reduceEqDiff, reduceCtorEq, Nat.reduceAdd, Nat.reduceLeDiff, Nat.reduceMul, Nat.reduceLT, if_true, if_false, true_and, and_true, and_self, Nat.reduceBEq, QOp.loads, boxO, bslO, buildO, cutL, fillV, putL, w5, v5, encRgb, X, X6]
  generalize H2.more [[.int .i64 w.r, .int .i64 w.g, .int .i64 w.b]] = M2 at B5 B6 st X X6 ⊢
  obtain ⟨q6, hq6⟩ : ∃ q, q = H2.size := ⟨_, rfl⟩
  rw [← hq6] at B6 X6 ⊢
  refine stepC.of (specCube_ok _ _ _ n z st (by omega) (by omega)) ?_
  rintro _ H3 ⟨e4, rfl⟩
  rw [← hw]
  have B5 := B5.ext e4
  have B6 := B6.ext e4
  have st := st.ext e4
  have X := B5.ld
  have X6 := B6.ld
  have R := st.rulesN
  simp (maxSteps := 4000000) (disch := omega) only [ah, am, Nat.reduceEqDiff, reduceCtorEq, Nat.reduceAdd, Nat.reduceLeDiff, Nat.reduceMul, Nat.reduceLT, if_true, if_false, true_and, and_true, and_self, Nat.reduceBEq, QOp.loads, boxO, bslO, buildO, cutL, fillV, putL, w5, v5, encRgb, X, X6, Option.map_some, Bool.and_self, Bool.not_true]
  have Wnn : IntKind.i64.wrap (n * n) = n * n := by
    have hn10 : n = 1 ∨ n = 2 ∨ n = 3 ∨ n = 4 ∨ n = 5 ∨ n = 6 ∨ n = 7 ∨ n = 8 ∨ n = 9 ∨ n = 10 := by omega
    rcases hn10 with rfl | rfl | rfl | rfl | rfl | rfl | rfl | rfl | rfl | rfl <;> rfl
  have Wnnn : IntKind.i64.wrap (n * n * n) = n * n * n := by
    have hn10 : n = 1 ∨ n = 2 ∨ n = 3 ∨ n = 4 ∨ n = 5 ∨ n = 6 ∨ n = 7 ∨ n = 8 ∨ n = 9 ∨ n = 10 := by omega
    rcases hn10 with rfl | rfl | rfl | rfl | rfl | rfl | rfl | rfl | rfl | rfl <;> rfl
  have zz : ¬ cubeOk n t z → w = zRgb := fun q => by rw [hw]; exact if_neg q
  by_cases p1 : (t.length : Int) = 0
  · have hwz : w = zRgb := zz fun q => by have := cubes q.1; have := q.2.1; omega
    have hr : w.r = 0 := by rw [hwz]; rfl
    have hg : w.g = 0 := by rw [hwz]; rfl
    have hb : w.b = 0 := by rw [hwz]; rfl
    rw [hr, hg, hb] at X6
    simp (maxSteps := 4000000) (disch := omega) only [ah, am, Nat.reduceEqDiff, reduceCtorEq, Nat.reduceAdd, Nat.reduceLeDiff, Nat.reduceMul, Nat.reduceLT, if_true, if_false, true_and, and_true, and_self, Nat.reduceBEq, QOp.loads, boxO, bslO, buildO, cutL, fillV, putL, w5, v5, encRgb, X, X6, R.1, Wnn, Wnnn, decide_eq_true p1, Bool.not_true, Bool.not_false, Option.map_some, Bool.and_self, eq_self, decide_true]
  have t0 : 0 < t.length := by omega
  have A0 : iaV 3 tv (.int .i64 0) = some (ptrAt tv 0) := by have := R.2.1 .i64 0 t0; exact this
  have L0 : ldV H3 (ptrAt tv 0) = some (.int .i64 t[0].r) := by have := R.2.2.2.2.1 0 t0; exact this
  have L1 : ldV H3 (ptrAt tv 1) = some (.int .i64 t[0].g) := by have := R.2.2.2.1 0 1 t0 (by omega); exact this
  have LN : ldnV H3 3 (ptrAt tv 0) = some (.agg (encRgb t[0]).toArray) := by have := R.2.2.2.2.2 0 t0; exact this
  obtain ⟨x0, hx0⟩ : ∃ x : Int, x = t[0].r := ⟨_, rfl⟩
  rw [← hx0] at L0
  have Z6 : w = zRgb → ldnV H3 3 (.pointer (some ⟨q6, 0, none⟩)) = some (.agg #[.int .i64 0, .int .i64 0, .int .i64 0]) := fun e => by rw [X6.2, e]; rfl
  by_cases p2 : n < 2
  · have V := Z6 (zz fun q => by have := q.1.1; omega)
    simp (maxSteps := 4000000) (disch := omega) only [ah, am, Nat.reduceEqDiff, reduceCtorEq, Nat.reduceAdd, Nat.reduceLeDiff, Nat.reduceMul, Nat.reduceLT, if_true, if_false, true_and, and_true, and_self, Nat.reduceBEq, QOp.loads, boxO, bslO, buildO, cutL, fillV, putL, w5, v5, encRgb, X, R.1, A0, L0, R.2.2.1, Wnn, Wnnn, V, decide_eq_false p1, decide_eq_true p2, Bool.not_true, Bool.not_false, Option.map_some, Bool.and_self, eq_self, decide_true]
  by_cases p3 : 9 < n
  · have V := Z6 (zz fun q => by have := q.1.2; omega)
    simp (maxSteps := 4000000) (disch := omega) only [ah, am, Nat.reduceEqDiff, reduceCtorEq, Nat.reduceAdd, Nat.reduceLeDiff, Nat.reduceMul, Nat.reduceLT, if_true, if_false, true_and, and_true, and_self, Nat.reduceBEq, QOp.loads, boxO, bslO, buildO, cutL, fillV, putL, w5, v5, encRgb, X, R.1, A0, L0, R.2.2.1, Wnn, Wnnn, V, decide_eq_false p1, decide_eq_false p2, decide_eq_true p3, Bool.not_true, Bool.not_false, Option.map_some, Bool.and_self, eq_self, decide_true]
  by_cases p4 : (t.length : Int) = n * n * n
  rotate_left
  · have V := Z6 (zz fun q => by have := q.2.1; omega)
    simp (maxSteps := 4000000) (disch := omega) only [ah, am, Nat.reduceEqDiff, reduceCtorEq, Nat.reduceAdd, Nat.reduceLeDiff, Nat.reduceMul, Nat.reduceLT, if_true, if_false, true_and, and_true, and_self, Nat.reduceBEq, QOp.loads, boxO, bslO, buildO, cutL, fillV, putL, w5, v5, encRgb, X, R.1, A0, L0, R.2.2.1, Wnn, Wnnn, V, decide_eq_false p1, decide_eq_false p2, decide_eq_false p3, decide_eq_false p4, Bool.not_true, Bool.not_false, Option.map_some, Bool.and_self, eq_self, decide_true]
  by_cases p5 : z.r < 0
  · have V := Z6 (zz fun q => by have := q.2.2.1.1; omega)
    simp (maxSteps := 4000000) (disch := omega) only [ah, am, Nat.reduceEqDiff, reduceCtorEq, Nat.reduceAdd, Nat.reduceLeDiff, Nat.reduceMul, Nat.reduceLT, if_true, if_false, true_and, and_true, and_self, Nat.reduceBEq, QOp.loads, boxO, bslO, buildO, cutL, fillV, putL, w5, v5, encRgb, X, R.1, A0, L0, R.2.2.1, Wnn, Wnnn, V, decide_eq_false p1, decide_eq_false p2, decide_eq_false p3, decide_eq_true p4, decide_eq_true p5, Bool.not_true, Bool.not_false, Option.map_some, Bool.and_self, eq_self, decide_true]
  by_cases p6 : 65535 < z.r
  · have V := Z6 (zz fun q => by have := q.2.2.1.1; omega)
    simp (maxSteps := 4000000) (disch := omega) only [ah, am, Nat.reduceEqDiff, reduceCtorEq, Nat.reduceAdd, Nat.reduceLeDiff, Nat.reduceMul, Nat.reduceLT, if_true, if_false, true_and, and_true, and_self, Nat.reduceBEq, QOp.loads, boxO, bslO, buildO, cutL, fillV, putL, w5, v5, encRgb, X, R.1, A0, L0, R.2.2.1, Wnn, Wnnn, V, decide_eq_false p1, decide_eq_false p2, decide_eq_false p3, decide_eq_true p4, decide_eq_false p5, decide_eq_true p6, Bool.not_true, Bool.not_false, Option.map_some, Bool.and_self, eq_self, decide_true]
  by_cases p7 : 65535 < x0
  · have V := Z6 (zz fun q => by have := (q.2.2.2 _ (List.getElem_mem t0)).1; omega)
    simp (maxSteps := 4000000) (disch := omega) only [ah, am, Nat.reduceEqDiff, reduceCtorEq, Nat.reduceAdd, Nat.reduceLeDiff, Nat.reduceMul, Nat.reduceLT, if_true, if_false, true_and, and_true, and_self, Nat.reduceBEq, QOp.loads, boxO, bslO, buildO, cutL, fillV, putL, w5, v5, encRgb, X, R.1, A0, L0, R.2.2.1, Wnn, Wnnn, V, decide_eq_false p1, decide_eq_false p2, decide_eq_false p3, decide_eq_true p4, decide_eq_false p5, decide_eq_false p6, decide_eq_true p7, Bool.not_true, Bool.not_false, Option.map_some, Bool.and_self, eq_self, decide_true]
  have ht : ∀ x ∈ t, rgbOk x := by
    intro x hx
    obtain ⟨i, hi, rfl⟩ := List.getElem_of_mem hx
    obtain ⟨o1, o2, o3, o4⟩ := hok i hi
    refine ⟨⟨o1, ?_⟩, o3, o4⟩
    rcases o2 with rfl | o2
    · rw [← hx0]; omega
    · exact o2
  have ok : cubeOk n t z := ⟨by omega, p4, ⟨by omega, zg, zb⟩, ht⟩
  simp (maxSteps := 4000000) (disch := omega) only [ah, am, Nat.reduceEqDiff, reduceCtorEq, Nat.reduceAdd, Nat.reduceLeDiff, Nat.reduceMul, Nat.reduceLT, if_true, if_false, true_and, and_true, and_self, Nat.reduceBEq, QOp.loads, boxO, bslO, buildO, cutL, fillV, putL, w5, v5, encRgb, X, R.1, A0, L0, R.2.2.1, Wnn, Wnnn, L1, decide_eq_false p1, decide_eq_false p2, decide_eq_false p3, decide_eq_true p4, decide_eq_false p5, decide_eq_false p6, decide_eq_false p7, Bool.not_true, Bool.not_false, Option.map_some, Bool.and_self, eq_self, decide_true]
  refine SW_loop_up (fun i E K => K = H3 ∧ ∃ lo hi : Int, (∀ j (hj : j < t.length), j < i → lo ≤ t[j].g ∧ t[j].g ≤ hi) ∧ E = [(3, .int .i64 n), (4, tv), (6, .pointer (some ⟨q6, 0, none⟩)), (7, .int .i64 lo), (8, .int .i64 hi), (9, .int .i64 (i : Int))]) t.length 0 (by omega) ?_ ?_
  · exact ⟨rfl, _, _, fun j _ hj => by omega, rfl⟩
  rintro i E K hi ⟨rfl, lo, up, hb, rfl⟩
  simp (maxSteps := 4000000) (disch := omega) only [ah, am, Nat.reduceEqDiff, reduceCtorEq, Nat.reduceAdd, Nat.reduceLeDiff, Nat.reduceMul, Nat.reduceLT, if_true, if_false, true_and, and_true, and_self, Nat.reduceBEq, QOp.loads, boxO, bslO, buildO, cutL, fillV, putL, w5, v5, R.1]
  refine stepI.split (fun hp => ?_) (fun hp => ?_)
  · have hi2 : i < t.length := by omega
    have A1 := R.2.1 .i64 i hi2
    obtain ⟨y, hy⟩ : ∃ y : Int, y = (t[i]'hi2).g := ⟨_, rfl⟩
    have L2 : ldV K (ptrAt tv (i * 3 + 1)) = some (.int .i64 y) := by rw [hy]; exact R.2.2.2.1 i 1 hi2 (by omega)
    have W : IntKind.i64.wrap ((i : Int) + 1) = ((i + 1 : Nat) : Int) := i64e (by omega) (by omega)
    simp (maxSteps := 4000000) (disch := omega) only [ah, am, Nat.reduceEqDiff, reduceCtorEq, Nat.reduceAdd, Nat.reduceLeDiff, Nat.reduceMul, Nat.reduceLT, if_true, if_false, true_and, and_true, and_self, Nat.reduceBEq, QOp.loads, boxO, bslO, buildO, cutL, fillV, putL, w5, v5, A1, R.2.2.1, L2, encRgb]
    refine stepI.split (fun h1 => ?_) (fun h1 => ?_)
    · simp (maxSteps := 4000000) (disch := omega) only [ah, am, Nat.reduceEqDiff, reduceCtorEq, Nat.reduceAdd, Nat.reduceLeDiff, Nat.reduceMul, Nat.reduceLT, if_true, if_false, true_and, and_true, and_self, Nat.reduceBEq, QOp.loads, boxO, bslO, buildO, cutL, fillV, putL, w5, v5, A1, R.2.2.1, L2, encRgb]
      refine stepI.split (fun h2 => ?_) (fun h2 => ?_)
      · simp (maxSteps := 4000000) (disch := omega) only [ah, am, Nat.reduceEqDiff, reduceCtorEq, Nat.reduceAdd, Nat.reduceLeDiff, Nat.reduceMul, Nat.reduceLT, if_true, if_false, true_and, and_true, and_self, Nat.reduceBEq, QOp.loads, boxO, bslO, buildO, cutL, fillV, putL, w5, v5, A1, R.2.2.1, L2, encRgb, W]
        refine ⟨hi2, _, _, fun j hj hji => ?_, rfl⟩
        by_cases hji2 : j = i
        · subst hji2; omega
        · have := hb j hj (by omega); omega
      · simp (maxSteps := 4000000) (disch := omega) only [ah, am, Nat.reduceEqDiff, reduceCtorEq, Nat.reduceAdd, Nat.reduceLeDiff, Nat.reduceMul, Nat.reduceLT, if_true, if_false, true_and, and_true, and_self, Nat.reduceBEq, QOp.loads, boxO, bslO, buildO, cutL, fillV, putL, w5, v5, A1, R.2.2.1, L2, encRgb, W]
        refine ⟨hi2, _, _, fun j hj hji => ?_, rfl⟩
        by_cases hji2 : j = i
        · subst hji2; omega
        · have := hb j hj (by omega); omega
    · simp (maxSteps := 4000000) (disch := omega) only [ah, am, Nat.reduceEqDiff, reduceCtorEq, Nat.reduceAdd, Nat.reduceLeDiff, Nat.reduceMul, Nat.reduceLT, if_true, if_false, true_and, and_true, and_self, Nat.reduceBEq, QOp.loads, boxO, bslO, buildO, cutL, fillV, putL, w5, v5, A1, R.2.2.1, L2, encRgb]
      refine stepI.split (fun h2 => ?_) (fun h2 => ?_)
      · simp (maxSteps := 4000000) (disch := omega) only [ah, am, Nat.reduceEqDiff, reduceCtorEq, Nat.reduceAdd, Nat.reduceLeDiff, Nat.reduceMul, Nat.reduceLT, if_true, if_false, true_and, and_true, and_self, Nat.reduceBEq, QOp.loads, boxO, bslO, buildO, cutL, fillV, putL, w5, v5, A1, R.2.2.1, L2, encRgb, W]
        refine ⟨hi2, _, _, fun j hj hji => ?_, rfl⟩
        by_cases hji2 : j = i
        · subst hji2; omega
        · have := hb j hj (by omega); omega
      · simp (maxSteps := 4000000) (disch := omega) only [ah, am, Nat.reduceEqDiff, reduceCtorEq, Nat.reduceAdd, Nat.reduceLeDiff, Nat.reduceMul, Nat.reduceLT, if_true, if_false, true_and, and_true, and_self, Nat.reduceBEq, QOp.loads, boxO, bslO, buildO, cutL, fillV, putL, w5, v5, A1, R.2.2.1, L2, encRgb, W]
        refine ⟨hi2, _, _, fun j hj hji => ?_, rfl⟩
        by_cases hji2 : j = i
        · subst hji2; omega
        · have := hb j hj (by omega); omega
  · have cb := cube_bounds ok lo up (fun x hx => by obtain ⟨j, hj, rfl⟩ := List.getElem_of_mem hx; exact hb j hj (by omega))
    rw [← hw] at cb
    have okz : cubeOk n t zRgb := ⟨ok.1, ok.2.1, by decide, ht⟩
    have okf : cubeOk n t ⟨65535, 65535, 65535⟩ := ⟨ok.1, ok.2.1, by decide, ht⟩
    have hc := cubes ok.1
    simp (maxSteps := 4000000) (disch := omega) only [ah, am, Nat.reduceEqDiff, reduceCtorEq, Nat.reduceAdd, Nat.reduceLeDiff, Nat.reduceMul, Nat.reduceLT, if_true, if_false, true_and, and_true, and_self, Nat.reduceBEq, QOp.loads, boxO, bslO, buildO, cutL, fillV, putL, w5, v5, X6, decide_eq_true cb.1, decide_eq_true cb.2, A0, LN, encRgb]
    refine stepC.of (Cube_ok _ _ _ n zRgb st (by omega) (by omega)) ?_
    rintro _ K1 ⟨e5, rfl⟩
    rw [corner0 okz, getD_atE t0]
    have R1 := (st.ext e5).rulesN
    have LN1 : ldnV K1 3 (ptrAt tv 0) = some (.agg (encRgb t[0]).toArray) := by have := R1.2.2.2.2.2 0 t0; exact this
    have hm : (n * n * n - 1).toNat < t.length := by omega
    have W2 : IntKind.i64.wrap (n * n * n - 1) = (((n * n * n - 1).toNat : Nat) : Int) := i64e (by omega) (by omega)
    have AM := R.2.1 .i64 (n * n * n - 1).toNat hm
    have LM := R1.2.2.2.2.2 (n * n * n - 1).toNat hm
    simp (maxSteps := 4000000) (disch := omega) only [ah, am, Nat.reduceEqDiff, reduceCtorEq, Nat.reduceAdd, Nat.reduceLeDiff, Nat.reduceMul, Nat.reduceLT, if_true, if_false, true_and, and_true, and_self, Nat.reduceBEq, QOp.loads, boxO, bslO, buildO, cutL, fillV, putL, w5, v5, LN1, encRgb, Option.map_some, Bool.and_self, Bool.not_true, Wnn, Wnnn, W2, AM, LM]
    refine stepC.of (Cube_ok _ _ _ n ⟨65535, 65535, 65535⟩ (st.ext e5) (by omega) (by omega)) ?_
    rintro _ K2 ⟨e6, rfl⟩
    rw [corner1 okf, getD_atE hm]
    have LM2 := ((st.ext e5).ext e6).rulesN.2.2.2.2.2 (n * n * n - 1).toNat hm
    simp (maxSteps := 4000000) (disch := omega) only [ah, am, Nat.reduceEqDiff, reduceCtorEq, Nat.reduceAdd, Nat.reduceLeDiff, Nat.reduceMul, Nat.reduceLT, if_true, if_false, true_and, and_true, and_self, Nat.reduceBEq, QOp.loads, boxO, bslO, buildO, cutL, fillV, putL, w5, v5, encRgb, Option.map_some, Bool.and_self, Bool.not_true, LM2, eq_self, decide_true]
end Go.Proofs.Ytmhbmbhdeofbaaa
