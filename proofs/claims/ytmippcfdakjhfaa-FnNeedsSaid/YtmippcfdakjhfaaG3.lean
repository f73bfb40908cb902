import Derived.Test.YtmippcfdakjhfaaG2
import Derived.Test.YtmippcfdakjhfaaM0
namespace Go.Proofs.Ytmippcfdakjhfaa
open Go Go.Ah
open Go.Sort (swp)
set_option linter.unusedSimpArgs false
set_option linter.unusedVariables false
set_option maxRecDepth 10000
set_option maxHeartbeats 4000000
/-! 81 slices.partitionCmpFunc[loop.example/g00066/impl.Reel]: parameters 5, live [0, 1, 2, 3, 4], slots [0:data, 1:a, 2:b, 3:pivot, 4:cmp, 5:data, 6:a, 7:b, 8:pivot, 9:cmp, 10:newpivot, 11:alreadyPartitioned, 12:i, 13:j] -/
def c81_0 : List SOper := [⟨some 10, .q (.mv (.c (.int .i64 0))), none⟩, ⟨some 11, .q (.mv (.c (.bool false))), none⟩]
def c81_1 : List SOper := [⟨some 14, .q (.mv (.t 0)), none⟩, ⟨some 15, .q (.mv (.t 1)), none⟩, ⟨some 16, .q (.mv (.t 0)), none⟩, ⟨some 17, .q (.mv (.t 3)), none⟩, ⟨some 18, .q (.mv (.t 0)), none⟩, ⟨some 19, .q (.mv (.t 3)), none⟩, ⟨some 20, .q (.ia 3 (.t 18) (.t 19)), none⟩, ⟨some 21, .q (.ldn 3 (.t 20)), none⟩, ⟨some 22, .q (.mv (.t 0)), none⟩, ⟨some 23, .q (.mv (.t 1)), none⟩, ⟨some 24, .q (.ia 3 (.t 22) (.t 23)), none⟩, ⟨some 25, .q (.ldn 3 (.t 24)), none⟩, ⟨some 26, .q (.ia 3 (.t 14) (.t 15)), none⟩, ⟨none, .e (.st 3 (.t 26) (.t 21)), none⟩, ⟨some 27, .q (.ia 3 (.t 16) (.t 17)), none⟩, ⟨none, .e (.st 3 (.t 27) (.t 25)), none⟩]
def c81_2 : List SOper := [⟨some 28, .q (.mv (.t 1)), none⟩, ⟨some 29, .q (.bin .add (.t 28) (.c (.int .i64 1))), none⟩, ⟨some 30, .q (.mv (.t 2)), none⟩, ⟨some 31, .q (.bin .sub (.t 30) (.c (.int .i64 1))), none⟩, ⟨some 12, .q (.mv (.t 29)), none⟩, ⟨some 13, .q (.mv (.t 31)), none⟩]
def c81_3 : List SOper := [⟨some 32, .q (.mv (.t 12)), none⟩, ⟨some 33, .q (.mv (.t 13)), none⟩, ⟨some 34, .q (.bin .leq (.t 32) (.t 33)), none⟩, ⟨some 35, .q (.mv (.t 34)), none⟩, ⟨some 36, .q (.mv (.t 4)), some (35, true)⟩, ⟨some 37, .q (.mv (.t 0)), some (35, true)⟩, ⟨some 38, .q (.mv (.t 12)), some (35, true)⟩, ⟨some 39, .q (.ia 3 (.t 37) (.t 38)), some (35, true)⟩, ⟨some 40, .q (.ldn 3 (.t 39)), some (35, true)⟩, ⟨some 41, .q (.mv (.t 0)), some (35, true)⟩, ⟨some 42, .q (.mv (.t 1)), some (35, true)⟩, ⟨some 43, .q (.ia 3 (.t 41) (.t 42)), some (35, true)⟩, ⟨some 44, .q (.ldn 3 (.t 43)), some (35, true)⟩, ⟨some 45, .e (.callv (.t 36) [(.t 40), (.t 44)]), some (35, true)⟩, ⟨some 46, .q (.bin .lss (.t 45) (.c (.int .i64 0))), some (35, true)⟩, ⟨some 47, .q (.pick (.t 35) (.t 46) (.c (.bool false))), none⟩]
def c81_4 : SCode := .cond (.t 47) .skip (.exit 0)
def c81_5 : SCode := .seq (.region c81_3 [0, 1, 4, 12, 13, 47]) c81_4
def c81_6 : List SOper := [⟨some 48, .q (.mv (.t 12)), none⟩, ⟨some 49, .q (.bin .add (.t 48) (.c (.int .i64 1))), none⟩, ⟨some 12, .q (.mv (.t 49)), none⟩]
def c81_7 : SCode := .block 1 (.region c81_6 [0, 1, 4, 12, 13])
def c81_8 : SCode := .seq c81_5 c81_7
def c81_9 : SCode := .loop c81_8
def c81_10 : SCode := .block 0 c81_9
def c81_11 : List SOper := [⟨some 50, .q (.mv (.t 12)), none⟩, ⟨some 51, .q (.mv (.t 13)), none⟩, ⟨some 52, .q (.bin .leq (.t 50) (.t 51)), none⟩, ⟨some 53, .q (.mv (.t 52)), none⟩, ⟨some 54, .q (.mv (.t 4)), some (53, true)⟩, ⟨some 55, .q (.mv (.t 0)), some (53, true)⟩, ⟨some 56, .q (.mv (.t 13)), some (53, true)⟩, ⟨some 57, .q (.ia 3 (.t 55) (.t 56)), some (53, true)⟩, ⟨some 58, .q (.ldn 3 (.t 57)), some (53, true)⟩, ⟨some 59, .q (.mv (.t 0)), some (53, true)⟩, ⟨some 60, .q (.mv (.t 1)), some (53, true)⟩, ⟨some 61, .q (.ia 3 (.t 59) (.t 60)), some (53, true)⟩, ⟨some 62, .q (.ldn 3 (.t 61)), some (53, true)⟩, ⟨some 63, .e (.callv (.t 54) [(.t 58), (.t 62)]), some (53, true)⟩, ⟨some 64, .q (.bin .lss (.t 63) (.c (.int .i64 0))), some (53, true)⟩, ⟨some 65, .q (.not (.t 64)), some (53, true)⟩, ⟨some 66, .q (.pick (.t 53) (.t 65) (.c (.bool false))), none⟩]
def c81_12 : SCode := .cond (.t 66) .skip (.exit 2)
def c81_13 : SCode := .seq (.region c81_11 [0, 1, 4, 12, 13, 66]) c81_12
def c81_14 : List SOper := [⟨some 67, .q (.mv (.t 13)), none⟩, ⟨some 68, .q (.bin .sub (.t 67) (.c (.int .i64 1))), none⟩, ⟨some 13, .q (.mv (.t 68)), none⟩]
def c81_15 : SCode := .block 3 (.region c81_14 [0, 1, 4, 12, 13])
def c81_16 : SCode := .seq c81_13 c81_15
def c81_17 : SCode := .loop c81_16
def c81_18 : SCode := .block 2 c81_17
def c81_19 : List SOper := [⟨some 69, .q (.mv (.t 12)), none⟩, ⟨some 70, .q (.mv (.t 13)), none⟩, ⟨some 71, .q (.bin .gtr (.t 69) (.t 70)), none⟩]
def c81_20 : List SOper := [⟨some 72, .q (.mv (.t 0)), none⟩, ⟨some 73, .q (.mv (.t 13)), none⟩, ⟨some 74, .q (.mv (.t 0)), none⟩, ⟨some 75, .q (.mv (.t 1)), none⟩, ⟨some 76, .q (.mv (.t 0)), none⟩, ⟨some 77, .q (.mv (.t 1)), none⟩, ⟨some 78, .q (.ia 3 (.t 76) (.t 77)), none⟩, ⟨some 79, .q (.ldn 3 (.t 78)), none⟩, ⟨some 80, .q (.mv (.t 0)), none⟩, ⟨some 81, .q (.mv (.t 13)), none⟩, ⟨some 82, .q (.ia 3 (.t 80) (.t 81)), none⟩, ⟨some 83, .q (.ldn 3 (.t 82)), none⟩, ⟨some 84, .q (.ia 3 (.t 72) (.t 73)), none⟩, ⟨none, .e (.st 3 (.t 84) (.t 79)), none⟩, ⟨some 85, .q (.ia 3 (.t 74) (.t 75)), none⟩, ⟨none, .e (.st 3 (.t 85) (.t 83)), none⟩]
def c81_21 : List SOper := [⟨some 86, .q (.mv (.t 13)), none⟩, ⟨some 10, .q (.mv (.t 86)), none⟩, ⟨some 11, .q (.mv (.c (.bool true))), none⟩]
def c81_22 : SCode := .seq (.region c81_21 [10, 11]) .ret
def c81_23 : SCode := .seq (.region c81_20 [13]) c81_22
def c81_24 : SCode := .cond (.t 71) c81_23 .skip
def c81_25 : SCode := .seq (.region c81_19 [0, 1, 4, 12, 13, 71]) c81_24
def c81_26 : List SOper := [⟨some 87, .q (.mv (.t 0)), none⟩, ⟨some 88, .q (.mv (.t 12)), none⟩, ⟨some 89, .q (.mv (.t 0)), none⟩, ⟨some 90, .q (.mv (.t 13)), none⟩, ⟨some 91, .q (.mv (.t 0)), none⟩, ⟨some 92, .q (.mv (.t 13)), none⟩, ⟨some 93, .q (.ia 3 (.t 91) (.t 92)), none⟩, ⟨some 94, .q (.ldn 3 (.t 93)), none⟩, ⟨some 95, .q (.mv (.t 0)), none⟩, ⟨some 96, .q (.mv (.t 12)), none⟩, ⟨some 97, .q (.ia 3 (.t 95) (.t 96)), none⟩, ⟨some 98, .q (.ldn 3 (.t 97)), none⟩, ⟨some 99, .q (.ia 3 (.t 87) (.t 88)), none⟩, ⟨none, .e (.st 3 (.t 99) (.t 94)), none⟩, ⟨some 100, .q (.ia 3 (.t 89) (.t 90)), none⟩, ⟨none, .e (.st 3 (.t 100) (.t 98)), none⟩]
def c81_27 : List SOper := [⟨some 101, .q (.mv (.t 12)), none⟩, ⟨some 102, .q (.bin .add (.t 101) (.c (.int .i64 1))), none⟩, ⟨some 12, .q (.mv (.t 102)), none⟩]
def c81_28 : List SOper := [⟨some 103, .q (.mv (.t 13)), none⟩, ⟨some 104, .q (.bin .sub (.t 103) (.c (.int .i64 1))), none⟩, ⟨some 13, .q (.mv (.t 104)), none⟩]
def c81_29 : List SOper := [⟨some 105, .q (.mv (.t 12)), none⟩, ⟨some 106, .q (.mv (.t 13)), none⟩, ⟨some 107, .q (.bin .leq (.t 105) (.t 106)), none⟩, ⟨some 108, .q (.mv (.t 107)), none⟩, ⟨some 109, .q (.mv (.t 4)), some (108, true)⟩, ⟨some 110, .q (.mv (.t 0)), some (108, true)⟩, ⟨some 111, .q (.mv (.t 12)), some (108, true)⟩, ⟨some 112, .q (.ia 3 (.t 110) (.t 111)), some (108, true)⟩, ⟨some 113, .q (.ldn 3 (.t 112)), some (108, true)⟩, ⟨some 114, .q (.mv (.t 0)), some (108, true)⟩, ⟨some 115, .q (.mv (.t 1)), some (108, true)⟩, ⟨some 116, .q (.ia 3 (.t 114) (.t 115)), some (108, true)⟩, ⟨some 117, .q (.ldn 3 (.t 116)), some (108, true)⟩, ⟨some 118, .e (.callv (.t 109) [(.t 113), (.t 117)]), some (108, true)⟩, ⟨some 119, .q (.bin .lss (.t 118) (.c (.int .i64 0))), some (108, true)⟩, ⟨some 120, .q (.pick (.t 108) (.t 119) (.c (.bool false))), none⟩]
def c81_30 : SCode := .cond (.t 120) .skip (.exit 6)
def c81_31 : SCode := .seq (.region c81_29 [0, 1, 4, 12, 13, 120]) c81_30
def c81_32 : List SOper := [⟨some 121, .q (.mv (.t 12)), none⟩, ⟨some 122, .q (.bin .add (.t 121) (.c (.int .i64 1))), none⟩, ⟨some 12, .q (.mv (.t 122)), none⟩]
def c81_33 : SCode := .block 7 (.region c81_32 [0, 1, 4, 12, 13])
def c81_34 : SCode := .seq c81_31 c81_33
def c81_35 : SCode := .loop c81_34
def c81_36 : SCode := .block 6 c81_35
def c81_37 : List SOper := [⟨some 123, .q (.mv (.t 12)), none⟩, ⟨some 124, .q (.mv (.t 13)), none⟩, ⟨some 125, .q (.bin .leq (.t 123) (.t 124)), none⟩, ⟨some 126, .q (.mv (.t 125)), none⟩, ⟨some 127, .q (.mv (.t 4)), some (126, true)⟩, ⟨some 128, .q (.mv (.t 0)), some (126, true)⟩, ⟨some 129, .q (.mv (.t 13)), some (126, true)⟩, ⟨some 130, .q (.ia 3 (.t 128) (.t 129)), some (126, true)⟩, ⟨some 131, .q (.ldn 3 (.t 130)), some (126, true)⟩, ⟨some 132, .q (.mv (.t 0)), some (126, true)⟩, ⟨some 133, .q (.mv (.t 1)), some (126, true)⟩, ⟨some 134, .q (.ia 3 (.t 132) (.t 133)), some (126, true)⟩, ⟨some 135, .q (.ldn 3 (.t 134)), some (126, true)⟩, ⟨some 136, .e (.callv (.t 127) [(.t 131), (.t 135)]), some (126, true)⟩, ⟨some 137, .q (.bin .lss (.t 136) (.c (.int .i64 0))), some (126, true)⟩, ⟨some 138, .q (.not (.t 137)), some (126, true)⟩, ⟨some 139, .q (.pick (.t 126) (.t 138) (.c (.bool false))), none⟩]
def c81_38 : SCode := .cond (.t 139) .skip (.exit 8)
def c81_39 : SCode := .seq (.region c81_37 [0, 1, 4, 12, 13, 139]) c81_38
def c81_40 : List SOper := [⟨some 140, .q (.mv (.t 13)), none⟩, ⟨some 141, .q (.bin .sub (.t 140) (.c (.int .i64 1))), none⟩, ⟨some 13, .q (.mv (.t 141)), none⟩]
def c81_41 : SCode := .block 9 (.region c81_40 [0, 1, 4, 12, 13])
def c81_42 : SCode := .seq c81_39 c81_41
def c81_43 : SCode := .loop c81_42
def c81_44 : SCode := .block 8 c81_43
def c81_45 : List SOper := [⟨some 142, .q (.mv (.t 12)), none⟩, ⟨some 143, .q (.mv (.t 13)), none⟩, ⟨some 144, .q (.bin .gtr (.t 142) (.t 143)), none⟩]
def c81_46 : SCode := .cond (.t 144) (.exit 4) .skip
def c81_47 : SCode := .seq (.region c81_45 [0, 1, 4, 12, 13, 144]) c81_46
def c81_48 : List SOper := [⟨some 145, .q (.mv (.t 0)), none⟩, ⟨some 146, .q (.mv (.t 12)), none⟩, ⟨some 147, .q (.mv (.t 0)), none⟩, ⟨some 148, .q (.mv (.t 13)), none⟩, ⟨some 149, .q (.mv (.t 0)), none⟩, ⟨some 150, .q (.mv (.t 13)), none⟩, ⟨some 151, .q (.ia 3 (.t 149) (.t 150)), none⟩, ⟨some 152, .q (.ldn 3 (.t 151)), none⟩, ⟨some 153, .q (.mv (.t 0)), none⟩, ⟨some 154, .q (.mv (.t 12)), none⟩, ⟨some 155, .q (.ia 3 (.t 153) (.t 154)), none⟩, ⟨some 156, .q (.ldn 3 (.t 155)), none⟩, ⟨some 157, .q (.ia 3 (.t 145) (.t 146)), none⟩, ⟨none, .e (.st 3 (.t 157) (.t 152)), none⟩, ⟨some 158, .q (.ia 3 (.t 147) (.t 148)), none⟩, ⟨none, .e (.st 3 (.t 158) (.t 156)), none⟩]
def c81_49 : List SOper := [⟨some 159, .q (.mv (.t 12)), none⟩, ⟨some 160, .q (.bin .add (.t 159) (.c (.int .i64 1))), none⟩, ⟨some 12, .q (.mv (.t 160)), none⟩]
def c81_50 : List SOper := [⟨some 161, .q (.mv (.t 13)), none⟩, ⟨some 162, .q (.bin .sub (.t 161) (.c (.int .i64 1))), none⟩, ⟨some 13, .q (.mv (.t 162)), none⟩]
def c81_51 : SCode := .seq (.region c81_49 [0, 1, 4, 12, 13]) (.region c81_50 [0, 1, 4, 12, 13])
def c81_52 : SCode := .seq (.region c81_48 [0, 1, 4, 12, 13]) c81_51
def c81_53 : SCode := .seq c81_47 c81_52
def c81_54 : SCode := .seq c81_44 c81_53
def c81_55 : SCode := .seq c81_36 c81_54
def c81_56 : SCode := .block 5 c81_55
def c81_57 : SCode := .loop c81_56
def c81_58 : SCode := .block 4 c81_57
def c81_59 : List SOper := [⟨some 163, .q (.mv (.t 0)), none⟩, ⟨some 164, .q (.mv (.t 13)), none⟩, ⟨some 165, .q (.mv (.t 0)), none⟩, ⟨some 166, .q (.mv (.t 1)), none⟩, ⟨some 167, .q (.mv (.t 0)), none⟩, ⟨some 168, .q (.mv (.t 1)), none⟩, ⟨some 169, .q (.ia 3 (.t 167) (.t 168)), none⟩, ⟨some 170, .q (.ldn 3 (.t 169)), none⟩, ⟨some 171, .q (.mv (.t 0)), none⟩, ⟨some 172, .q (.mv (.t 13)), none⟩, ⟨some 173, .q (.ia 3 (.t 171) (.t 172)), none⟩, ⟨some 174, .q (.ldn 3 (.t 173)), none⟩, ⟨some 175, .q (.ia 3 (.t 163) (.t 164)), none⟩, ⟨none, .e (.st 3 (.t 175) (.t 170)), none⟩, ⟨some 176, .q (.ia 3 (.t 165) (.t 166)), none⟩, ⟨none, .e (.st 3 (.t 176) (.t 174)), none⟩]
def c81_60 : List SOper := [⟨some 177, .q (.mv (.t 13)), none⟩, ⟨some 10, .q (.mv (.t 177)), none⟩, ⟨some 11, .q (.mv (.c (.bool false))), none⟩]
def c81_61 : SCode := .seq (.region c81_60 [10, 11]) .ret
def c81_62 : SCode := .seq (.region c81_59 [13]) c81_61
def c81_63 : SCode := .seq c81_58 c81_62
def c81_64 : SCode := .seq (.region c81_28 [0, 1, 4, 12, 13]) c81_63
def c81_65 : SCode := .seq (.region c81_27 [0, 1, 4, 12, 13]) c81_64
def c81_66 : SCode := .seq (.region c81_26 [0, 1, 4, 12, 13]) c81_65
def c81_67 : SCode := .seq c81_25 c81_66
def c81_68 : SCode := .seq c81_18 c81_67
def c81_69 : SCode := .seq c81_10 c81_68
def c81_70 : SCode := .seq (.region c81_2 [0, 1, 4, 12, 13]) c81_69
def c81_71 : SCode := .seq (.region c81_1 [0, 1, 2, 4]) c81_70
def c81_72 : SCode := .seq (.region c81_0 [0, 1, 2, 3, 4]) c81_71
def c81 : SCode := c81_72
theorem w81 : type_of% (And.intro (uR Try.prog c81_0.eq_1) (And.intro (uR Try.prog c81_1.eq_1) (And.intro (uR Try.prog c81_2.eq_1) (And.intro (uR Try.prog c81_3.eq_1) (And.intro (uC Try.prog c81_4.eq_1) (And.intro (uC Try.prog c81_5.eq_1) (And.intro (uR Try.prog c81_6.eq_1) (And.intro (uC Try.prog c81_7.eq_1) (And.intro (uC Try.prog c81_8.eq_1) (And.intro (uC Try.prog c81_9.eq_1) (And.intro (uC Try.prog c81_10.eq_1) (And.intro (uR Try.prog c81_11.eq_1) (And.intro (uC Try.prog c81_12.eq_1) (And.intro (uC Try.prog c81_13.eq_1) (And.intro (uR Try.prog c81_14.eq_1) (And.intro (uC Try.prog c81_15.eq_1) (And.intro (uC Try.prog c81_16.eq_1) (And.intro (uC Try.prog c81_17.eq_1) (And.intro (uC Try.prog c81_18.eq_1) (And.intro (uR Try.prog c81_19.eq_1) (And.intro (uR Try.prog c81_20.eq_1) (And.intro (uR Try.prog c81_21.eq_1) (And.intro (uC Try.prog c81_22.eq_1) (And.intro (uC Try.prog c81_23.eq_1) (And.intro (uC Try.prog c81_24.eq_1) (And.intro (uC Try.prog c81_25.eq_1) (And.intro (uR Try.prog c81_26.eq_1) (And.intro (uR Try.prog c81_27.eq_1) (And.intro (uR Try.prog c81_28.eq_1) (And.intro (uR Try.prog c81_29.eq_1) (And.intro (uC Try.prog c81_30.eq_1) (And.intro (uC Try.prog c81_31.eq_1) (And.intro (uR Try.prog c81_32.eq_1) (And.intro (uC Try.prog c81_33.eq_1) (And.intro (uC Try.prog c81_34.eq_1) (And.intro (uC Try.prog c81_35.eq_1) (And.intro (uC Try.prog c81_36.eq_1) (And.intro (uR Try.prog c81_37.eq_1) (And.intro (uC Try.prog c81_38.eq_1) (And.intro (uC Try.prog c81_39.eq_1) (And.intro (uR Try.prog c81_40.eq_1) (And.intro (uC Try.prog c81_41.eq_1) (And.intro (uC Try.prog c81_42.eq_1) (And.intro (uC Try.prog c81_43.eq_1) (And.intro (uC Try.prog c81_44.eq_1) (And.intro (uR Try.prog c81_45.eq_1) (And.intro (uC Try.prog c81_46.eq_1) (And.intro (uC Try.prog c81_47.eq_1) (And.intro (uR Try.prog c81_48.eq_1) (And.intro (uR Try.prog c81_49.eq_1) (And.intro (uR Try.prog c81_50.eq_1) (And.intro (uC Try.prog c81_51.eq_1) (And.intro (uC Try.prog c81_52.eq_1) (And.intro (uC Try.prog c81_53.eq_1) (And.intro (uC Try.prog c81_54.eq_1) (And.intro (uC Try.prog c81_55.eq_1) (And.intro (uC Try.prog c81_56.eq_1) (And.intro (uC Try.prog c81_57.eq_1) (And.intro (uC Try.prog c81_58.eq_1) (And.intro (uR Try.prog c81_59.eq_1) (And.intro (uR Try.prog c81_60.eq_1) (And.intro (uC Try.prog c81_61.eq_1) (And.intro (uC Try.prog c81_62.eq_1) (And.intro (uC Try.prog c81_63.eq_1) (And.intro (uC Try.prog c81_64.eq_1) (And.intro (uC Try.prog c81_65.eq_1) (And.intro (uC Try.prog c81_66.eq_1) (And.intro (uC Try.prog c81_67.eq_1) (And.intro (uC Try.prog c81_68.eq_1) (And.intro (uC Try.prog c81_69.eq_1) (And.intro (uC Try.prog c81_70.eq_1) (And.intro (uC Try.prog c81_71.eq_1) (And.intro (uC Try.prog c81_72.eq_1) (uC Try.prog c81.eq_1)))))))))))))))))))))))))))))))))))))))))))))))))))))))))))))))))))))))))) := (And.intro (uR Try.prog c81_0.eq_1) (And.intro (uR Try.prog c81_1.eq_1) (And.intro (uR Try.prog c81_2.eq_1) (And.intro (uR Try.prog c81_3.eq_1) (And.intro (uC Try.prog c81_4.eq_1) (And.intro (uC Try.prog c81_5.eq_1) (And.intro (uR Try.prog c81_6.eq_1) (And.intro (uC Try.prog c81_7.eq_1) (And.intro (uC Try.prog c81_8.eq_1) (And.intro (uC Try.prog c81_9.eq_1) (And.intro (uC Try.prog c81_10.eq_1) (And.intro (uR Try.prog c81_11.eq_1) (And.intro (uC Try.prog c81_12.eq_1) (And.intro (uC Try.prog c81_13.eq_1) (And.intro (uR Try.prog c81_14.eq_1) (And.intro (uC Try.prog c81_15.eq_1) (And.intro (uC Try.prog c81_16.eq_1) (And.intro (uC Try.prog c81_17.eq_1) (And.intro (uC Try.prog c81_18.eq_1) (And.intro (uR Try.prog c81_19.eq_1) (And.intro (uR Try.prog c81_20.eq_1) (And.intro (uR Try.prog c81_21.eq_1) (And.intro (uC Try.prog c81_22.eq_1) (And.intro (uC Try.prog c81_23.eq_1) (And.intro (uC Try.prog c81_24.eq_1) (And.intro (uC Try.prog c81_25.eq_1) (And.intro (uR Try.prog c81_26.eq_1) (And.intro (uR Try.prog c81_27.eq_1) (And.intro (uR Try.prog c81_28.eq_1) (And.intro (uR Try.prog c81_29.eq_1) (And.intro (uC Try.prog c81_30.eq_1) (And.intro (uC Try.prog c81_31.eq_1) (And.intro (uR Try.prog c81_32.eq_1) (And.intro (uC Try.prog c81_33.eq_1) (And.intro (uC Try.prog c81_34.eq_1) (And.intro (uC Try.prog c81_35.eq_1) (And.intro (uC Try.prog c81_36.eq_1) (And.intro (uR Try.prog c81_37.eq_1) (And.intro (uC Try.prog c81_38.eq_1) (And.intro (uC Try.prog c81_39.eq_1) (And.intro (uR Try.prog c81_40.eq_1) (And.intro (uC Try.prog c81_41.eq_1) (And.intro (uC Try.prog c81_42.eq_1) (And.intro (uC Try.prog c81_43.eq_1) (And.intro (uC Try.prog c81_44.eq_1) (And.intro (uR Try.prog c81_45.eq_1) (And.intro (uC Try.prog c81_46.eq_1) (And.intro (uC Try.prog c81_47.eq_1) (And.intro (uR Try.prog c81_48.eq_1) (And.intro (uR Try.prog c81_49.eq_1) (And.intro (uR Try.prog c81_50.eq_1) (And.intro (uC Try.prog c81_51.eq_1) (And.intro (uC Try.prog c81_52.eq_1) (And.intro (uC Try.prog c81_53.eq_1) (And.intro (uC Try.prog c81_54.eq_1) (And.intro (uC Try.prog c81_55.eq_1) (And.intro (uC Try.prog c81_56.eq_1) (And.intro (uC Try.prog c81_57.eq_1) (And.intro (uC Try.prog c81_58.eq_1) (And.intro (uR Try.prog c81_59.eq_1) (And.intro (uR Try.prog c81_60.eq_1) (And.intro (uC Try.prog c81_61.eq_1) (And.intro (uC Try.prog c81_62.eq_1) (And.intro (uC Try.prog c81_63.eq_1) (And.intro (uC Try.prog c81_64.eq_1) (And.intro (uC Try.prog c81_65.eq_1) (And.intro (uC Try.prog c81_66.eq_1) (And.intro (uC Try.prog c81_67.eq_1) (And.intro (uC Try.prog c81_68.eq_1) (And.intro (uC Try.prog c81_69.eq_1) (And.intro (uC Try.prog c81_70.eq_1) (And.intro (uC Try.prog c81_71.eq_1) (And.intro (uC Try.prog c81_72.eq_1) (uC Try.prog c81.eq_1))))))))))))))))))))))))))))))))))))))))))))))))))))))))))))))))))))))))))
def v81 : List RV := [.t 10, .t 11]
theorem s81 : slimF Try.prog Try.f81 = some (c81.bare, v81) := by kernel_rfl
/-! 80 slices.partitionEqualCmpFunc[loop.example/g00066/impl.Reel]: parameters 5, live [0, 1, 2, 3, 4], slots [0:data, 1:a, 2:b, 3:pivot, 4:cmp, 5:data, 6:a, 7:b, 8:pivot, 9:cmp, 10:newpivot, 11:i, 12:j] -/
def c80_0 : List SOper := [⟨some 10, .q (.mv (.c (.int .i64 0))), none⟩]
def c80_1 : List SOper := [⟨some 13, .q (.mv (.t 0)), none⟩, ⟨some 14, .q (.mv (.t 1)), none⟩, ⟨some 15, .q (.mv (.t 0)), none⟩, ⟨some 16, .q (.mv (.t 3)), none⟩, ⟨some 17, .q (.mv (.t 0)), none⟩, ⟨some 18, .q (.mv (.t 3)), none⟩, ⟨some 19, .q (.ia 3 (.t 17) (.t 18)), none⟩, ⟨some 20, .q (.ldn 3 (.t 19)), none⟩, ⟨some 21, .q (.mv (.t 0)), none⟩, ⟨some 22, .q (.mv (.t 1)), none⟩, ⟨some 23, .q (.ia 3 (.t 21) (.t 22)), none⟩, ⟨some 24, .q (.ldn 3 (.t 23)), none⟩, ⟨some 25, .q (.ia 3 (.t 13) (.t 14)), none⟩, ⟨none, .e (.st 3 (.t 25) (.t 20)), none⟩, ⟨some 26, .q (.ia 3 (.t 15) (.t 16)), none⟩, ⟨none, .e (.st 3 (.t 26) (.t 24)), none⟩]
def c80_2 : List SOper := [⟨some 27, .q (.mv (.t 1)), none⟩, ⟨some 28, .q (.bin .add (.t 27) (.c (.int .i64 1))), none⟩, ⟨some 29, .q (.mv (.t 2)), none⟩, ⟨some 30, .q (.bin .sub (.t 29) (.c (.int .i64 1))), none⟩, ⟨some 11, .q (.mv (.t 28)), none⟩, ⟨some 12, .q (.mv (.t 30)), none⟩]
def c80_3 : List SOper := [⟨some 31, .q (.mv (.t 11)), none⟩, ⟨some 32, .q (.mv (.t 12)), none⟩, ⟨some 33, .q (.bin .leq (.t 31) (.t 32)), none⟩, ⟨some 34, .q (.mv (.t 33)), none⟩, ⟨some 35, .q (.mv (.t 4)), some (34, true)⟩, ⟨some 36, .q (.mv (.t 0)), some (34, true)⟩, ⟨some 37, .q (.mv (.t 1)), some (34, true)⟩, ⟨some 38, .q (.ia 3 (.t 36) (.t 37)), some (34, true)⟩, ⟨some 39, .q (.ldn 3 (.t 38)), some (34, true)⟩, ⟨some 40, .q (.mv (.t 0)), some (34, true)⟩, ⟨some 41, .q (.mv (.t 11)), some (34, true)⟩, ⟨some 42, .q (.ia 3 (.t 40) (.t 41)), some (34, true)⟩, ⟨some 43, .q (.ldn 3 (.t 42)), some (34, true)⟩, ⟨some 44, .e (.callv (.t 35) [(.t 39), (.t 43)]), some (34, true)⟩, ⟨some 45, .q (.bin .lss (.t 44) (.c (.int .i64 0))), some (34, true)⟩, ⟨some 46, .q (.not (.t 45)), some (34, true)⟩, ⟨some 47, .q (.pick (.t 34) (.t 46) (.c (.bool false))), none⟩]
def c80_4 : SCode := .cond (.t 47) .skip (.exit 2)
def c80_5 : SCode := .seq (.region c80_3 [0, 1, 4, 11, 12, 47]) c80_4
def c80_6 : List SOper := [⟨some 48, .q (.mv (.t 11)), none⟩, ⟨some 49, .q (.bin .add (.t 48) (.c (.int .i64 1))), none⟩, ⟨some 11, .q (.mv (.t 49)), none⟩]
def c80_7 : SCode := .block 3 (.region c80_6 [0, 1, 4, 11, 12])
def c80_8 : SCode := .seq c80_5 c80_7
def c80_9 : SCode := .loop c80_8
def c80_10 : SCode := .block 2 c80_9
def c80_11 : List SOper := [⟨some 50, .q (.mv (.t 11)), none⟩, ⟨some 51, .q (.mv (.t 12)), none⟩, ⟨some 52, .q (.bin .leq (.t 50) (.t 51)), none⟩, ⟨some 53, .q (.mv (.t 52)), none⟩, ⟨some 54, .q (.mv (.t 4)), some (53, true)⟩, ⟨some 55, .q (.mv (.t 0)), some (53, true)⟩, ⟨some 56, .q (.mv (.t 1)), some (53, true)⟩, ⟨some 57, .q (.ia 3 (.t 55) (.t 56)), some (53, true)⟩, ⟨some 58, .q (.ldn 3 (.t 57)), some (53, true)⟩, ⟨some 59, .q (.mv (.t 0)), some (53, true)⟩, ⟨some 60, .q (.mv (.t 12)), some (53, true)⟩, ⟨some 61, .q (.ia 3 (.t 59) (.t 60)), some (53, true)⟩, ⟨some 62, .q (.ldn 3 (.t 61)), some (53, true)⟩, ⟨some 63, .e (.callv (.t 54) [(.t 58), (.t 62)]), some (53, true)⟩, ⟨some 64, .q (.bin .lss (.t 63) (.c (.int .i64 0))), some (53, true)⟩, ⟨some 65, .q (.pick (.t 53) (.t 64) (.c (.bool false))), none⟩]
def c80_12 : SCode := .cond (.t 65) .skip (.exit 4)
def c80_13 : SCode := .seq (.region c80_11 [0, 1, 4, 11, 12, 65]) c80_12
def c80_14 : List SOper := [⟨some 66, .q (.mv (.t 12)), none⟩, ⟨some 67, .q (.bin .sub (.t 66) (.c (.int .i64 1))), none⟩, ⟨some 12, .q (.mv (.t 67)), none⟩]
def c80_15 : SCode := .block 5 (.region c80_14 [0, 1, 4, 11, 12])
def c80_16 : SCode := .seq c80_13 c80_15
def c80_17 : SCode := .loop c80_16
def c80_18 : SCode := .block 4 c80_17
def c80_19 : List SOper := [⟨some 68, .q (.mv (.t 11)), none⟩, ⟨some 69, .q (.mv (.t 12)), none⟩, ⟨some 70, .q (.bin .gtr (.t 68) (.t 69)), none⟩]
def c80_20 : SCode := .cond (.t 70) (.exit 0) .skip
def c80_21 : SCode := .seq (.region c80_19 [0, 1, 4, 11, 12, 70]) c80_20
def c80_22 : List SOper := [⟨some 71, .q (.mv (.t 0)), none⟩, ⟨some 72, .q (.mv (.t 11)), none⟩, ⟨some 73, .q (.mv (.t 0)), none⟩, ⟨some 74, .q (.mv (.t 12)), none⟩, ⟨some 75, .q (.mv (.t 0)), none⟩, ⟨some 76, .q (.mv (.t 12)), none⟩, ⟨some 77, .q (.ia 3 (.t 75) (.t 76)), none⟩, ⟨some 78, .q (.ldn 3 (.t 77)), none⟩, ⟨some 79, .q (.mv (.t 0)), none⟩, ⟨some 80, .q (.mv (.t 11)), none⟩, ⟨some 81, .q (.ia 3 (.t 79) (.t 80)), none⟩, ⟨some 82, .q (.ldn 3 (.t 81)), none⟩, ⟨some 83, .q (.ia 3 (.t 71) (.t 72)), none⟩, ⟨none, .e (.st 3 (.t 83) (.t 78)), none⟩, ⟨some 84, .q (.ia 3 (.t 73) (.t 74)), none⟩, ⟨none, .e (.st 3 (.t 84) (.t 82)), none⟩]
def c80_23 : List SOper := [⟨some 85, .q (.mv (.t 11)), none⟩, ⟨some 86, .q (.bin .add (.t 85) (.c (.int .i64 1))), none⟩, ⟨some 11, .q (.mv (.t 86)), none⟩]
def c80_24 : List SOper := [⟨some 87, .q (.mv (.t 12)), none⟩, ⟨some 88, .q (.bin .sub (.t 87) (.c (.int .i64 1))), none⟩, ⟨some 12, .q (.mv (.t 88)), none⟩]
def c80_25 : SCode := .seq (.region c80_23 [0, 1, 4, 11, 12]) (.region c80_24 [0, 1, 4, 11, 12])
def c80_26 : SCode := .seq (.region c80_22 [0, 1, 4, 11, 12]) c80_25
def c80_27 : SCode := .seq c80_21 c80_26
def c80_28 : SCode := .seq c80_18 c80_27
def c80_29 : SCode := .seq c80_10 c80_28
def c80_30 : SCode := .block 1 c80_29
def c80_31 : SCode := .loop c80_30
def c80_32 : SCode := .block 0 c80_31
def c80_33 : List SOper := [⟨some 89, .q (.mv (.t 11)), none⟩, ⟨some 10, .q (.mv (.t 89)), none⟩]
def c80_34 : SCode := .seq (.region c80_33 [10]) .ret
def c80_35 : SCode := .seq c80_32 c80_34
def c80_36 : SCode := .seq (.region c80_2 [0, 1, 4, 11, 12]) c80_35
def c80_37 : SCode := .seq (.region c80_1 [0, 1, 2, 4]) c80_36
def c80_38 : SCode := .seq (.region c80_0 [0, 1, 2, 3, 4]) c80_37
def c80 : SCode := c80_38
theorem w80 : type_of% (And.intro (uR Try.prog c80_0.eq_1) (And.intro (uR Try.prog c80_1.eq_1) (And.intro (uR Try.prog c80_2.eq_1) (And.intro (uR Try.prog c80_3.eq_1) (And.intro (uC Try.prog c80_4.eq_1) (And.intro (uC Try.prog c80_5.eq_1) (And.intro (uR Try.prog c80_6.eq_1) (And.intro (uC Try.prog c80_7.eq_1) (And.intro (uC Try.prog c80_8.eq_1) (And.intro (uC Try.prog c80_9.eq_1) (And.intro (uC Try.prog c80_10.eq_1) (And.intro (uR Try.prog c80_11.eq_1) (And.intro (uC Try.prog c80_12.eq_1) (And.intro (uC Try.prog c80_13.eq_1) (And.intro (uR Try.prog c80_14.eq_1) (And.intro (uC Try.prog c80_15.eq_1) (And.intro (uC Try.prog c80_16.eq_1) (And.intro (uC Try.prog c80_17.eq_1) (And.intro (uC Try.prog c80_18.eq_1) (And.intro (uR Try.prog c80_19.eq_1) (And.intro (uC Try.prog c80_20.eq_1) (And.intro (uC Try.prog c80_21.eq_1) (And.intro (uR Try.prog c80_22.eq_1) (And.intro (uR Try.prog c80_23.eq_1) (And.intro (uR Try.prog c80_24.eq_1) (And.intro (uC Try.prog c80_25.eq_1) (And.intro (uC Try.prog c80_26.eq_1) (And.intro (uC Try.prog c80_27.eq_1) (And.intro (uC Try.prog c80_28.eq_1) (And.intro (uC Try.prog c80_29.eq_1) (And.intro (uC Try.prog c80_30.eq_1) (And.intro (uC Try.prog c80_31.eq_1) (And.intro (uC Try.prog c80_32.eq_1) (And.intro (uR Try.prog c80_33.eq_1) (And.intro (uC Try.prog c80_34.eq_1) (And.intro (uC Try.prog c80_35.eq_1) (And.intro (uC Try.prog c80_36.eq_1) (And.intro (uC Try.prog c80_37.eq_1) (And.intro (uC Try.prog c80_38.eq_1) (uC Try.prog c80.eq_1)))))))))))))))))))))))))))))))))))))))) := (And.intro (uR Try.prog c80_0.eq_1) (And.intro (uR Try.prog c80_1.eq_1) (And.intro (uR Try.prog c80_2.eq_1) (And.intro (uR Try.prog c80_3.eq_1) (And.intro (uC Try.prog c80_4.eq_1) (And.intro (uC Try.prog c80_5.eq_1) (And.intro (uR Try.prog c80_6.eq_1) (And.intro (uC Try.prog c80_7.eq_1) (And.intro (uC Try.prog c80_8.eq_1) (And.intro (uC Try.prog c80_9.eq_1) (And.intro (uC Try.prog c80_10.eq_1) (And.intro (uR Try.prog c80_11.eq_1) (And.intro (uC Try.prog c80_12.eq_1) (And.intro (uC Try.prog c80_13.eq_1) (And.intro (uR Try.prog c80_14.eq_1) (And.intro (uC Try.prog c80_15.eq_1) (And.intro (uC Try.prog c80_16.eq_1) (And.intro (uC Try.prog c80_17.eq_1) (And.intro (uC Try.prog c80_18.eq_1) (And.intro (uR Try.prog c80_19.eq_1) (And.intro (uC Try.prog c80_20.eq_1) (And.intro (uC Try.prog c80_21.eq_1) (And.intro (uR Try.prog c80_22.eq_1) (And.intro (uR Try.prog c80_23.eq_1) (And.intro (uR Try.prog c80_24.eq_1) (And.intro (uC Try.prog c80_25.eq_1) (And.intro (uC Try.prog c80_26.eq_1) (And.intro (uC Try.prog c80_27.eq_1) (And.intro (uC Try.prog c80_28.eq_1) (And.intro (uC Try.prog c80_29.eq_1) (And.intro (uC Try.prog c80_30.eq_1) (And.intro (uC Try.prog c80_31.eq_1) (And.intro (uC Try.prog c80_32.eq_1) (And.intro (uR Try.prog c80_33.eq_1) (And.intro (uC Try.prog c80_34.eq_1) (And.intro (uC Try.prog c80_35.eq_1) (And.intro (uC Try.prog c80_36.eq_1) (And.intro (uC Try.prog c80_37.eq_1) (And.intro (uC Try.prog c80_38.eq_1) (uC Try.prog c80.eq_1))))))))))))))))))))))))))))))))))))))))
def v80 : List RV := [.t 10]
theorem s80 : slimF Try.prog Try.f80 = some (c80.bare, v80) := by kernel_rfl
/-! 79 slices.partialInsertionSortCmpFunc[loop.example/g00066/impl.Reel]: parameters 4, live [0, 1, 2, 3], slots [0:data, 1:a, 2:b, 3:cmp, 4:data, 5:a, 6:b, 7:cmp, 9:i, 10:j, 11:j, 12:j] -/
def c79_0 : List SOper := [⟨some 8, .q (.mv (.c (.bool false))), none⟩]
def c79_1 : List SOper := [⟨some 13, .q (.mv (.t 1)), none⟩, ⟨some 14, .q (.bin .add (.t 13) (.c (.int .i64 1))), none⟩, ⟨some 9, .q (.mv (.t 14)), none⟩]
def c79_2 : List SOper := [⟨some 10, .q (.mv (.c (.int .i64 0))), none⟩]
def c79_3 : List SOper := [⟨some 15, .q (.mv (.t 10)), none⟩, ⟨some 16, .q (.bin .lss (.t 15) (.c (.int .i64 5))), none⟩]
def c79_4 : SCode := .cond (.t 16) .skip (.exit 0)
def c79_5 : SCode := .seq (.region c79_3 [0, 1, 2, 3, 9, 10, 16]) c79_4
def c79_6 : List SOper := [⟨some 19, .q (.mv (.t 9)), none⟩, ⟨some 20, .q (.mv (.t 2)), none⟩, ⟨some 21, .q (.bin .lss (.t 19) (.t 20)), none⟩, ⟨some 22, .q (.mv (.t 21)), none⟩, ⟨some 23, .q (.mv (.t 3)), some (22, true)⟩, ⟨some 24, .q (.mv (.t 0)), some (22, true)⟩, ⟨some 25, .q (.mv (.t 9)), some (22, true)⟩, ⟨some 26, .q (.ia 3 (.t 24) (.t 25)), some (22, true)⟩, ⟨some 27, .q (.ldn 3 (.t 26)), some (22, true)⟩, ⟨some 28, .q (.mv (.t 0)), some (22, true)⟩, ⟨some 29, .q (.mv (.t 9)), some (22, true)⟩, ⟨some 30, .q (.bin .sub (.t 29) (.c (.int .i64 1))), some (22, true)⟩, ⟨some 31, .q (.ia 3 (.t 28) (.t 30)), some (22, true)⟩, ⟨some 32, .q (.ldn 3 (.t 31)), some (22, true)⟩, ⟨some 33, .e (.callv (.t 23) [(.t 27), (.t 32)]), some (22, true)⟩, ⟨some 34, .q (.bin .lss (.t 33) (.c (.int .i64 0))), some (22, true)⟩, ⟨some 35, .q (.not (.t 34)), some (22, true)⟩, ⟨some 36, .q (.pick (.t 22) (.t 35) (.c (.bool false))), none⟩]
def c79_7 : SCode := .cond (.t 36) .skip (.exit 2)
def c79_8 : SCode := .seq (.region c79_6 [0, 1, 2, 3, 9, 10, 36]) c79_7
def c79_9 : List SOper := [⟨some 37, .q (.mv (.t 9)), none⟩, ⟨some 38, .q (.bin .add (.t 37) (.c (.int .i64 1))), none⟩, ⟨some 9, .q (.mv (.t 38)), none⟩]
def c79_10 : SCode := .block 3 (.region c79_9 [0, 1, 2, 3, 9, 10])
def c79_11 : SCode := .seq c79_8 c79_10
def c79_12 : SCode := .loop c79_11
def c79_13 : SCode := .block 2 c79_12
def c79_14 : List SOper := [⟨some 39, .q (.mv (.t 9)), none⟩, ⟨some 40, .q (.mv (.t 2)), none⟩, ⟨some 41, .q (.bin .eql (.t 39) (.t 40)), none⟩]
def c79_15 : List SOper := [⟨some 8, .q (.mv (.c (.bool true))), none⟩]
def c79_16 : SCode := .seq (.region c79_15 [8]) .ret
def c79_17 : SCode := .cond (.t 41) c79_16 .skip
def c79_18 : SCode := .seq (.region c79_14 [0, 1, 2, 3, 9, 10, 41]) c79_17
def c79_19 : List SOper := [⟨some 42, .q (.mv (.t 2)), none⟩, ⟨some 43, .q (.mv (.t 1)), none⟩, ⟨some 44, .q (.bin .sub (.t 42) (.t 43)), none⟩, ⟨some 45, .q (.bin .lss (.t 44) (.c (.int .i64 50))), none⟩]
def c79_20 : List SOper := [⟨some 8, .q (.mv (.c (.bool false))), none⟩]
def c79_21 : SCode := .seq (.region c79_20 [8]) .ret
def c79_22 : SCode := .cond (.t 45) c79_21 .skip
def c79_23 : SCode := .seq (.region c79_19 [0, 1, 2, 3, 9, 10, 45]) c79_22
def c79_24 : List SOper := [⟨some 46, .q (.mv (.t 0)), none⟩, ⟨some 47, .q (.mv (.t 9)), none⟩, ⟨some 48, .q (.mv (.t 0)), none⟩, ⟨some 49, .q (.mv (.t 9)), none⟩, ⟨some 50, .q (.bin .sub (.t 49) (.c (.int .i64 1))), none⟩, ⟨some 51, .q (.mv (.t 0)), none⟩, ⟨some 52, .q (.mv (.t 9)), none⟩, ⟨some 53, .q (.bin .sub (.t 52) (.c (.int .i64 1))), none⟩, ⟨some 54, .q (.ia 3 (.t 51) (.t 53)), none⟩, ⟨some 55, .q (.ldn 3 (.t 54)), none⟩, ⟨some 56, .q (.mv (.t 0)), none⟩, ⟨some 57, .q (.mv (.t 9)), none⟩, ⟨some 58, .q (.ia 3 (.t 56) (.t 57)), none⟩, ⟨some 59, .q (.ldn 3 (.t 58)), none⟩, ⟨some 60, .q (.ia 3 (.t 46) (.t 47)), none⟩, ⟨none, .e (.st 3 (.t 60) (.t 55)), none⟩, ⟨some 61, .q (.ia 3 (.t 48) (.t 50)), none⟩, ⟨none, .e (.st 3 (.t 61) (.t 59)), none⟩]
def c79_25 : List SOper := [⟨some 62, .q (.mv (.t 9)), none⟩, ⟨some 63, .q (.mv (.t 1)), none⟩, ⟨some 64, .q (.bin .sub (.t 62) (.t 63)), none⟩, ⟨some 65, .q (.bin .geq (.t 64) (.c (.int .i64 2))), none⟩]
def c79_26 : List SOper := [⟨some 66, .q (.mv (.t 9)), none⟩, ⟨some 67, .q (.bin .sub (.t 66) (.c (.int .i64 1))), none⟩, ⟨some 11, .q (.mv (.t 67)), none⟩]
def c79_27 : List SOper := [⟨some 68, .q (.mv (.t 11)), none⟩, ⟨some 69, .q (.bin .geq (.t 68) (.c (.int .i64 1))), none⟩]
def c79_28 : SCode := .cond (.t 69) .skip (.exit 4)
def c79_29 : SCode := .seq (.region c79_27 [0, 1, 2, 3, 9, 10, 11, 69]) c79_28
def c79_30 : List SOper := [⟨some 72, .q (.mv (.t 3)), none⟩, ⟨some 73, .q (.mv (.t 0)), none⟩, ⟨some 74, .q (.mv (.t 11)), none⟩, ⟨some 75, .q (.ia 3 (.t 73) (.t 74)), none⟩, ⟨some 76, .q (.ldn 3 (.t 75)), none⟩, ⟨some 77, .q (.mv (.t 0)), none⟩, ⟨some 78, .q (.mv (.t 11)), none⟩, ⟨some 79, .q (.bin .sub (.t 78) (.c (.int .i64 1))), none⟩, ⟨some 80, .q (.ia 3 (.t 77) (.t 79)), none⟩, ⟨some 81, .q (.ldn 3 (.t 80)), none⟩, ⟨some 82, .e (.callv (.t 72) [(.t 76), (.t 81)]), none⟩, ⟨some 83, .q (.bin .lss (.t 82) (.c (.int .i64 0))), none⟩, ⟨some 84, .q (.not (.t 83)), none⟩]
def c79_31 : SCode := .cond (.t 84) (.exit 4) .skip
def c79_32 : SCode := .seq (.region c79_30 [0, 1, 2, 3, 9, 10, 11, 84]) c79_31
def c79_33 : List SOper := [⟨some 85, .q (.mv (.t 0)), none⟩, ⟨some 86, .q (.mv (.t 11)), none⟩, ⟨some 87, .q (.mv (.t 0)), none⟩, ⟨some 88, .q (.mv (.t 11)), none⟩, ⟨some 89, .q (.bin .sub (.t 88) (.c (.int .i64 1))), none⟩, ⟨some 90, .q (.mv (.t 0)), none⟩, ⟨some 91, .q (.mv (.t 11)), none⟩, ⟨some 92, .q (.bin .sub (.t 91) (.c (.int .i64 1))), none⟩, ⟨some 93, .q (.ia 3 (.t 90) (.t 92)), none⟩, ⟨some 94, .q (.ldn 3 (.t 93)), none⟩, ⟨some 95, .q (.mv (.t 0)), none⟩, ⟨some 96, .q (.mv (.t 11)), none⟩, ⟨some 97, .q (.ia 3 (.t 95) (.t 96)), none⟩, ⟨some 98, .q (.ldn 3 (.t 97)), none⟩, ⟨some 99, .q (.ia 3 (.t 85) (.t 86)), none⟩, ⟨none, .e (.st 3 (.t 99) (.t 94)), none⟩, ⟨some 100, .q (.ia 3 (.t 87) (.t 89)), none⟩, ⟨none, .e (.st 3 (.t 100) (.t 98)), none⟩]
def c79_34 : SCode := .seq c79_32 (.region c79_33 [0, 1, 2, 3, 9, 10, 11])
def c79_35 : SCode := .block 5 c79_34
def c79_36 : List SOper := [⟨some 70, .q (.mv (.t 11)), none⟩, ⟨some 71, .q (.bin .sub (.t 70) (.c (.int .i64 1))), none⟩, ⟨some 11, .q (.mv (.t 71)), none⟩]
def c79_37 : SCode := .seq c79_35 (.region c79_36 [0, 1, 2, 3, 9, 10, 11])
def c79_38 : SCode := .seq c79_29 c79_37
def c79_39 : SCode := .loop c79_38
def c79_40 : SCode := .block 4 c79_39
def c79_41 : SCode := .seq (.region c79_26 [0, 1, 2, 3, 9, 10, 11]) c79_40
def c79_42 : SCode := .cond (.t 65) c79_41 .skip
def c79_43 : SCode := .seq (.region c79_25 [0, 1, 2, 3, 9, 10, 65]) c79_42
def c79_44 : List SOper := [⟨some 101, .q (.mv (.t 2)), none⟩, ⟨some 102, .q (.mv (.t 9)), none⟩, ⟨some 103, .q (.bin .sub (.t 101) (.t 102)), none⟩, ⟨some 104, .q (.bin .geq (.t 103) (.c (.int .i64 2))), none⟩]
def c79_45 : List SOper := [⟨some 105, .q (.mv (.t 9)), none⟩, ⟨some 106, .q (.bin .add (.t 105) (.c (.int .i64 1))), none⟩, ⟨some 12, .q (.mv (.t 106)), none⟩]
def c79_46 : List SOper := [⟨some 107, .q (.mv (.t 12)), none⟩, ⟨some 108, .q (.mv (.t 2)), none⟩, ⟨some 109, .q (.bin .lss (.t 107) (.t 108)), none⟩]
def c79_47 : SCode := .cond (.t 109) .skip (.exit 6)
def c79_48 : SCode := .seq (.region c79_46 [0, 1, 2, 3, 9, 10, 12, 109]) c79_47
def c79_49 : List SOper := [⟨some 112, .q (.mv (.t 3)), none⟩, ⟨some 113, .q (.mv (.t 0)), none⟩, ⟨some 114, .q (.mv (.t 12)), none⟩, ⟨some 115, .q (.ia 3 (.t 113) (.t 114)), none⟩, ⟨some 116, .q (.ldn 3 (.t 115)), none⟩, ⟨some 117, .q (.mv (.t 0)), none⟩, ⟨some 118, .q (.mv (.t 12)), none⟩, ⟨some 119, .q (.bin .sub (.t 118) (.c (.int .i64 1))), none⟩, ⟨some 120, .q (.ia 3 (.t 117) (.t 119)), none⟩, ⟨some 121, .q (.ldn 3 (.t 120)), none⟩, ⟨some 122, .e (.callv (.t 112) [(.t 116), (.t 121)]), none⟩, ⟨some 123, .q (.bin .lss (.t 122) (.c (.int .i64 0))), none⟩, ⟨some 124, .q (.not (.t 123)), none⟩]
def c79_50 : SCode := .cond (.t 124) (.exit 6) .skip
def c79_51 : SCode := .seq (.region c79_49 [0, 1, 2, 3, 9, 10, 12, 124]) c79_50
def c79_52 : List SOper := [⟨some 125, .q (.mv (.t 0)), none⟩, ⟨some 126, .q (.mv (.t 12)), none⟩, ⟨some 127, .q (.mv (.t 0)), none⟩, ⟨some 128, .q (.mv (.t 12)), none⟩, ⟨some 129, .q (.bin .sub (.t 128) (.c (.int .i64 1))), none⟩, ⟨some 130, .q (.mv (.t 0)), none⟩, ⟨some 131, .q (.mv (.t 12)), none⟩, ⟨some 132, .q (.bin .sub (.t 131) (.c (.int .i64 1))), none⟩, ⟨some 133, .q (.ia 3 (.t 130) (.t 132)), none⟩, ⟨some 134, .q (.ldn 3 (.t 133)), none⟩, ⟨some 135, .q (.mv (.t 0)), none⟩, ⟨some 136, .q (.mv (.t 12)), none⟩, ⟨some 137, .q (.ia 3 (.t 135) (.t 136)), none⟩, ⟨some 138, .q (.ldn 3 (.t 137)), none⟩, ⟨some 139, .q (.ia 3 (.t 125) (.t 126)), none⟩, ⟨none, .e (.st 3 (.t 139) (.t 134)), none⟩, ⟨some 140, .q (.ia 3 (.t 127) (.t 129)), none⟩, ⟨none, .e (.st 3 (.t 140) (.t 138)), none⟩]
def c79_53 : SCode := .seq c79_51 (.region c79_52 [0, 1, 2, 3, 9, 10, 12])
def c79_54 : SCode := .block 7 c79_53
def c79_55 : List SOper := [⟨some 110, .q (.mv (.t 12)), none⟩, ⟨some 111, .q (.bin .add (.t 110) (.c (.int .i64 1))), none⟩, ⟨some 12, .q (.mv (.t 111)), none⟩]
def c79_56 : SCode := .seq c79_54 (.region c79_55 [0, 1, 2, 3, 9, 10, 12])
def c79_57 : SCode := .seq c79_48 c79_56
def c79_58 : SCode := .loop c79_57
def c79_59 : SCode := .block 6 c79_58
def c79_60 : SCode := .seq (.region c79_45 [0, 1, 2, 3, 9, 10, 12]) c79_59
def c79_61 : SCode := .cond (.t 104) c79_60 .skip
def c79_62 : SCode := .seq (.region c79_44 [0, 1, 2, 3, 9, 10, 104]) c79_61
def c79_63 : SCode := .seq c79_43 c79_62
def c79_64 : SCode := .seq (.region c79_24 [0, 1, 2, 3, 9, 10]) c79_63
def c79_65 : SCode := .seq c79_23 c79_64
def c79_66 : SCode := .seq c79_18 c79_65
def c79_67 : SCode := .seq c79_13 c79_66
def c79_68 : SCode := .block 1 c79_67
def c79_69 : List SOper := [⟨some 17, .q (.mv (.t 10)), none⟩, ⟨some 18, .q (.bin .add (.t 17) (.c (.int .i64 1))), none⟩, ⟨some 10, .q (.mv (.t 18)), none⟩]
def c79_70 : SCode := .seq c79_68 (.region c79_69 [0, 1, 2, 3, 9, 10])
def c79_71 : SCode := .seq c79_5 c79_70
def c79_72 : SCode := .loop c79_71
def c79_73 : SCode := .block 0 c79_72
def c79_74 : SCode := .seq (.region c79_2 [0, 1, 2, 3, 9, 10]) c79_73
def c79_75 : List SOper := [⟨some 8, .q (.mv (.c (.bool false))), none⟩]
def c79_76 : SCode := .seq (.region c79_75 [8]) .ret
def c79_77 : SCode := .seq c79_74 c79_76
def c79_78 : SCode := .seq (.region c79_1 [0, 1, 2, 3, 9]) c79_77
def c79_79 : SCode := .seq (.region c79_0 [0, 1, 2, 3]) c79_78
def c79 : SCode := c79_79
theorem w79 : type_of% (And.intro (uR Try.prog c79_0.eq_1) (And.intro (uR Try.prog c79_1.eq_1) (And.intro (uR Try.prog c79_2.eq_1) (And.intro (uR Try.prog c79_3.eq_1) (And.intro (uC Try.prog c79_4.eq_1) (And.intro (uC Try.prog c79_5.eq_1) (And.intro (uR Try.prog c79_6.eq_1) (And.intro (uC Try.prog c79_7.eq_1) (And.intro (uC Try.prog c79_8.eq_1) (And.intro (uR Try.prog c79_9.eq_1) (And.intro (uC Try.prog c79_10.eq_1) (And.intro (uC Try.prog c79_11.eq_1) (And.intro (uC Try.prog c79_12.eq_1) (And.intro (uC Try.prog c79_13.eq_1) (And.intro (uR Try.prog c79_14.eq_1) (And.intro (uR Try.prog c79_15.eq_1) (And.intro (uC Try.prog c79_16.eq_1) (And.intro (uC Try.prog c79_17.eq_1) (And.intro (uC Try.prog c79_18.eq_1) (And.intro (uR Try.prog c79_19.eq_1) (And.intro (uR Try.prog c79_20.eq_1) (And.intro (uC Try.prog c79_21.eq_1) (And.intro (uC Try.prog c79_22.eq_1) (And.intro (uC Try.prog c79_23.eq_1) (And.intro (uR Try.prog c79_24.eq_1) (And.intro (uR Try.prog c79_25.eq_1) (And.intro (uR Try.prog c79_26.eq_1) (And.intro (uR Try.prog c79_27.eq_1) (And.intro (uC Try.prog c79_28.eq_1) (And.intro (uC Try.prog c79_29.eq_1) (And.intro (uR Try.prog c79_30.eq_1) (And.intro (uC Try.prog c79_31.eq_1) (And.intro (uC Try.prog c79_32.eq_1) (And.intro (uR Try.prog c79_33.eq_1) (And.intro (uC Try.prog c79_34.eq_1) (And.intro (uC Try.prog c79_35.eq_1) (And.intro (uR Try.prog c79_36.eq_1) (And.intro (uC Try.prog c79_37.eq_1) (And.intro (uC Try.prog c79_38.eq_1) (And.intro (uC Try.prog c79_39.eq_1) (And.intro (uC Try.prog c79_40.eq_1) (And.intro (uC Try.prog c79_41.eq_1) (And.intro (uC Try.prog c79_42.eq_1) (And.intro (uC Try.prog c79_43.eq_1) (And.intro (uR Try.prog c79_44.eq_1) (And.intro (uR Try.prog c79_45.eq_1) (And.intro (uR Try.prog c79_46.eq_1) (And.intro (uC Try.prog c79_47.eq_1) (And.intro (uC Try.prog c79_48.eq_1) (And.intro (uR Try.prog c79_49.eq_1) (And.intro (uC Try.prog c79_50.eq_1) (And.intro (uC Try.prog c79_51.eq_1) (And.intro (uR Try.prog c79_52.eq_1) (And.intro (uC Try.prog c79_53.eq_1) (And.intro (uC Try.prog c79_54.eq_1) (And.intro (uR Try.prog c79_55.eq_1) (And.intro (uC Try.prog c79_56.eq_1) (And.intro (uC Try.prog c79_57.eq_1) (And.intro (uC Try.prog c79_58.eq_1) (And.intro (uC Try.prog c79_59.eq_1) (And.intro (uC Try.prog c79_60.eq_1) (And.intro (uC Try.prog c79_61.eq_1) (And.intro (uC Try.prog c79_62.eq_1) (And.intro (uC Try.prog c79_63.eq_1) (And.intro (uC Try.prog c79_64.eq_1) (And.intro (uC Try.prog c79_65.eq_1) (And.intro (uC Try.prog c79_66.eq_1) (And.intro (uC Try.prog c79_67.eq_1) (And.intro (uC Try.prog c79_68.eq_1) (And.intro (uR Try.prog c79_69.eq_1) (And.intro (uC Try.prog c79_70.eq_1) (And.intro (uC Try.prog c79_71.eq_1) (And.intro (uC Try.prog c79_72.eq_1) (And.intro (uC Try.prog c79_73.eq_1) (And.intro (uC Try.prog c79_74.eq_1) (And.intro (uR Try.prog c79_75.eq_1) (And.intro (uC Try.prog c79_76.eq_1) (And.intro (uC Try.prog c79_77.eq_1) (And.intro (uC Try.prog c79_78.eq_1) (And.intro (uC Try.prog c79_79.eq_1) (uC Try.prog c79.eq_1))))))))))))))))))))))))))))))))))))))))))))))))))))))))))))))))))))))))))))))))) := (And.intro (uR Try.prog c79_0.eq_1) (And.intro (uR Try.prog c79_1.eq_1) (And.intro (uR Try.prog c79_2.eq_1) (And.intro (uR Try.prog c79_3.eq_1) (And.intro (uC Try.prog c79_4.eq_1) (And.intro (uC Try.prog c79_5.eq_1) (And.intro (uR Try.prog c79_6.eq_1) (And.intro (uC Try.prog c79_7.eq_1) (And.intro (uC Try.prog c79_8.eq_1) (And.intro (uR Try.prog c79_9.eq_1) (And.intro (uC Try.prog c79_10.eq_1) (And.intro (uC Try.prog c79_11.eq_1) (And.intro (uC Try.prog c79_12.eq_1) (And.intro (uC Try.prog c79_13.eq_1) (And.intro (uR Try.prog c79_14.eq_1) (And.intro (uR Try.prog c79_15.eq_1) (And.intro (uC Try.prog c79_16.eq_1) (And.intro (uC Try.prog c79_17.eq_1) (And.intro (uC Try.prog c79_18.eq_1) (And.intro (uR Try.prog c79_19.eq_1) (And.intro (uR Try.prog c79_20.eq_1) (And.intro (uC Try.prog c79_21.eq_1) (And.intro (uC Try.prog c79_22.eq_1) (And.intro (uC Try.prog c79_23.eq_1) (And.intro (uR Try.prog c79_24.eq_1) (And.intro (uR Try.prog c79_25.eq_1) (And.intro (uR Try.prog c79_26.eq_1) (And.intro (uR Try.prog c79_27.eq_1) (And.intro (uC Try.prog c79_28.eq_1) (And.intro (uC Try.prog c79_29.eq_1) (And.intro (uR Try.prog c79_30.eq_1) (And.intro (uC Try.prog c79_31.eq_1) (And.intro (uC Try.prog c79_32.eq_1) (And.intro (uR Try.prog c79_33.eq_1) (And.intro (uC Try.prog c79_34.eq_1) (And.intro (uC Try.prog c79_35.eq_1) (And.intro (uR Try.prog c79_36.eq_1) (And.intro (uC Try.prog c79_37.eq_1) (And.intro (uC Try.prog c79_38.eq_1) (And.intro (uC Try.prog c79_39.eq_1) (And.intro (uC Try.prog c79_40.eq_1) (And.intro (uC Try.prog c79_41.eq_1) (And.intro (uC Try.prog c79_42.eq_1) (And.intro (uC Try.prog c79_43.eq_1) (And.intro (uR Try.prog c79_44.eq_1) (And.intro (uR Try.prog c79_45.eq_1) (And.intro (uR Try.prog c79_46.eq_1) (And.intro (uC Try.prog c79_47.eq_1) (And.intro (uC Try.prog c79_48.eq_1) (And.intro (uR Try.prog c79_49.eq_1) (And.intro (uC Try.prog c79_50.eq_1) (And.intro (uC Try.prog c79_51.eq_1) (And.intro (uR Try.prog c79_52.eq_1) (And.intro (uC Try.prog c79_53.eq_1) (And.intro (uC Try.prog c79_54.eq_1) (And.intro (uR Try.prog c79_55.eq_1) (And.intro (uC Try.prog c79_56.eq_1) (And.intro (uC Try.prog c79_57.eq_1) (And.intro (uC Try.prog c79_58.eq_1) (And.intro (uC Try.prog c79_59.eq_1) (And.intro (uC Try.prog c79_60.eq_1) (And.intro (uC Try.prog c79_61.eq_1) (And.intro (uC Try.prog c79_62.eq_1) (And.intro (uC Try.prog c79_63.eq_1) (And.intro (uC Try.prog c79_64.eq_1) (And.intro (uC Try.prog c79_65.eq_1) (And.intro (uC Try.prog c79_66.eq_1) (And.intro (uC Try.prog c79_67.eq_1) (And.intro (uC Try.prog c79_68.eq_1) (And.intro (uR Try.prog c79_69.eq_1) (And.intro (uC Try.prog c79_70.eq_1) (And.intro (uC Try.prog c79_71.eq_1) (And.intro (uC Try.prog c79_72.eq_1) (And.intro (uC Try.prog c79_73.eq_1) (And.intro (uC Try.prog c79_74.eq_1) (And.intro (uR Try.prog c79_75.eq_1) (And.intro (uC Try.prog c79_76.eq_1) (And.intro (uC Try.prog c79_77.eq_1) (And.intro (uC Try.prog c79_78.eq_1) (And.intro (uC Try.prog c79_79.eq_1) (uC Try.prog c79.eq_1)))))))))))))))))))))))))))))))))))))))))))))))))))))))))))))))))))))))))))))))))
def v79 : List RV := [.t 8]
theorem s79 : slimF Try.prog Try.f79 = some (c79.bare, v79) := by kernel_rfl

theorem siftDown_size (hi first : Nat) : ∀ (n root : Nat) (d : Array Reel), hi - root ≤ n → (Go.Sort.siftDown ltR hi first root d).size = d.size := by
  intro n
  induction n with
  | zero => intro root d h; rw [Go.Sort.siftDown, dif_pos (by omega)]
  | succ n ih =>
    intro root d h
    rw [Go.Sort.siftDown]
    split
    · rfl
    · split
      · split
        · rfl
        · split
          · rw [ih _ _ (by omega), swp_size]
          · rfl
      · split
        · rfl
        · rw [ih _ _ (by omega), swp_size]
theorem heapSort_ok (h : Heap) (g : Nat) (v : Value) (d : Array Reel) (a b : Nat) (o : OwnT g h encReel 3 v d.toList) (hab : a ≤ b) (hb : b ≤ d.size) (hl : d.size ≤ 1000000000000) :
    ACall Try.prog 75 [v, .int .i64 (a : Int), .int .i64 (b : Int), .func (.func 56) #[] #[]] h fun r h' => ExtG g h h' ∧ OwnT g h' encReel 3 v (Go.Sort.heapSort ltR d a b).toList := by
  refine ACall.of Try.func75 s75 (of_decide_eq_true rfl) ?_
  obtain ⟨hi, hhi⟩ : ∃ hi : Nat, b = a + hi := ⟨b - a, by omega⟩
  have w0 : IntKind.i64.wrap ((b : Int) - (a : Int)) = (hi : Int) := i64e (by omega) (by omega)
  have w1 : IntKind.i64.wrap ((hi : Int) - 1) = (hi : Int) - 1 := i64w (by omega)
  have q1 : ((hi : Int) - 1).tdiv 2 = (((hi - 1) / 2 + 1 : Nat) : Int) - 1 := by
    rcases Nat.eq_zero_or_pos hi with rfl | h0
    · rfl
    · rw [Int.tdiv_eq_ediv_of_nonneg (by omega)]; omega
  have w2 : IntKind.i64.wrap ((((hi - 1) / 2 + 1 : Nat) : Int) - 1) = (((hi - 1) / 2 + 1 : Nat) : Int) - 1 := i64w (by omega)
  have n2 : (2 : Int) ≠ 0 := by decide
  simp (maxSteps := 4000000) (disch := omega) only [ah, am, Nat.reduceEqDiff, reduceCtorEq, Nat.reduceAdd, Nat.reduceLeDiff, Nat.reduceMul, Nat.reduceLT, if_true, if_false, true_and, and_true, and_self, Nat.reduceBEq, QOp.loads, boxO, bslO, buildO, cutL, fillV, putL, w75, v75, w0, w1, q1, w2, n2, ne_eq]
  obtain ⟨D, hD⟩ : ∃ D, D = Go.Sort.heapSort ltR d a b := ⟨_, rfl⟩
  rw [← hD]
  have hD2 : Go.Sort.heapPop ltR a hi (Go.Sort.heapBuild ltR hi a ((hi - 1) / 2 + 1) d) = D := by rw [hD, Go.Sort.heapSort, show b - a = hi by omega]
  refine ⟨fun k E K => ∃ (d' : Array Reel), Go.Sort.heapPop ltR a hi (Go.Sort.heapBuild ltR hi a k d') = D ∧ d'.size = d.size ∧ k ≤ hi + 1 ∧ ExtG g h K ∧ OwnT g K encReel 3 v d'.toList ∧
    E = [(0, v), (3, .func (.func 56) #[] #[]), (8, .int .i64 (a : Int)), (9, .int .i64 0), (10, .int .i64 (hi : Int)), (11, .int .i64 ((k : Int) - 1))], ⟨(hi - 1) / 2 + 1, d, hD2, rfl, by omega, ExtG.refl _ _, o, rfl⟩, ?_⟩
  rintro k E K ⟨d', h1, hs, hk, G, O, rfl⟩
  cases k with
  | succ k =>
    have c1 : (((k + 1 : Nat) : Int) - 1) = (k : Int) := by omega
    have w3 : IntKind.i64.wrap ((k : Int) - 1) = (k : Int) - 1 := i64w (by omega)
    rw [c1]
    simp (maxSteps := 4000000) (disch := omega) only [ah, am, Nat.reduceEqDiff, reduceCtorEq, Nat.reduceAdd, Nat.reduceLeDiff, Nat.reduceMul, Nat.reduceLT, if_true, if_false, true_and, and_true, and_self, Nat.reduceBEq, QOp.loads, boxO, bslO, buildO, cutL, fillV, putL, w75, v75, decide_eq_true (show (0 : Int) ≤ (k : Int) by omega)]
    refine stepC.of (siftDown_ok K g v d' k hi a O (by omega) (by omega) (by omega)) ?_
    rintro _ K2 ⟨G2, O2⟩
    simp (maxSteps := 4000000) (disch := omega) only [ah, am, Nat.reduceEqDiff, reduceCtorEq, Nat.reduceAdd, Nat.reduceLeDiff, Nat.reduceMul, Nat.reduceLT, if_true, if_false, true_and, and_true, and_self, Nat.reduceBEq, QOp.loads, boxO, bslO, buildO, cutL, fillV, putL, w75, v75, w3]
    exact ⟨k, by omega, _, h1, by rw [siftDown_size _ _ _ _ _ (Nat.le_refl _)]; exact hs, by omega, G.trans G2, O2, rfl⟩
  | zero =>
    simp (maxSteps := 4000000) (disch := omega) only [ah, am, Nat.reduceEqDiff, reduceCtorEq, Nat.reduceAdd, Nat.reduceLeDiff, Nat.reduceMul, Nat.reduceLT, if_true, if_false, true_and, and_true, and_self, Nat.reduceBEq, QOp.loads, boxO, bslO, buildO, cutL, fillV, putL, w75, v75, decide_eq_false (show ¬ (0 : Int) ≤ ((0 : Nat) : Int) - 1 by omega), w1]
    have h1 : Go.Sort.heapPop ltR a hi d' = D := h1
    refine ⟨fun k E K => ∃ (d' : Array Reel), Go.Sort.heapPop ltR a k d' = D ∧ d'.size = d.size ∧ k ≤ hi ∧ ExtG g h K ∧ OwnT g K encReel 3 v d'.toList ∧
      E = [(0, v), (3, .func (.func 56) #[] #[]), (8, .int .i64 (a : Int)), (9, .int .i64 0), (12, .int .i64 ((k : Int) - 1))], ⟨hi, d', h1, hs, by omega, G, O, rfl⟩, ?_⟩
    clear h1 hs G O hk
    rintro k E K ⟨d', h1, hs, hk, G, O, rfl⟩
    cases k with
    | succ k =>
      have c1 : (((k + 1 : Nat) : Int) - 1) = (k : Int) := by omega
      have w3 : IntKind.i64.wrap ((k : Int) - 1) = (k : Int) - 1 := i64w (by omega)
      have w4 : IntKind.i64.wrap ((a : Int) + (k : Int)) = ((a + k : Nat) : Int) := i64e (by omega) (by omega)
      rw [c1]
      have R1 := rdA O (i := a) (by omega)
      have R2 := rdA O (i := a + k) (by omega)
      obtain ⟨K2, K3, s1, s2, O, g2⟩ := swA O (i := a) (j := a + k) (by omega) (by omega)
      simp (maxSteps := 4000000) (disch := omega) only [ah, am, Nat.reduceEqDiff, reduceCtorEq, Nat.reduceAdd, Nat.reduceLeDiff, Nat.reduceMul, Nat.reduceLT, if_true, if_false, true_and, and_true, and_self, Nat.reduceBEq, QOp.loads, boxO, bslO, buildO, cutL, fillV, putL, w75, v75, decide_eq_true (show (0 : Int) ≤ (k : Int) by omega), w4, R1, R2, s1, s2]
      have z := siftDown_ok K3 g v (swp d' a (a + k)) 0 k a O (by rw [swp_size]; omega) (by rw [swp_size]; omega) (by omega)
      refine stepC.of z ?_
      rintro _ K4 ⟨G4, O4⟩
      simp (maxSteps := 4000000) (disch := omega) only [ah, am, Nat.reduceEqDiff, reduceCtorEq, Nat.reduceAdd, Nat.reduceLeDiff, Nat.reduceMul, Nat.reduceLT, if_true, if_false, true_and, and_true, and_self, Nat.reduceBEq, QOp.loads, boxO, bslO, buildO, cutL, fillV, putL, w75, v75, w3]
      exact ⟨k, by omega, _, h1, by rw [siftDown_size _ _ _ _ _ (Nat.le_refl _), swp_size]; exact hs, by omega, (G.trans g2).trans G4, O4, rfl⟩
    | zero =>
      simp (maxSteps := 4000000) (disch := omega) only [ah, am, Nat.reduceEqDiff, reduceCtorEq, Nat.reduceAdd, Nat.reduceLeDiff, Nat.reduceMul, Nat.reduceLT, if_true, if_false, true_and, and_true, and_self, Nat.reduceBEq, QOp.loads, boxO, bslO, buildO, cutL, fillV, putL, w75, v75, decide_eq_false (show ¬ (0 : Int) ≤ ((0 : Nat) : Int) - 1 by omega)]
      have h1 : d' = D := h1
      subst h1
      exact ⟨G, O⟩
theorem partition_ok (h : Heap) (g : Nat) (v : Value) (d : Array Reel) (a b pivot : Nat) (o : OwnT g h encReel 3 v d.toList) (hap : a ≤ pivot) (hpb : pivot < b) (hb : b ≤ d.size) (hl : d.size ≤ 1000000000000) :
    ACall Try.prog 81 [v, .int .i64 (a : Int), .int .i64 (b : Int), .int .i64 (pivot : Int), .func (.func 56) #[] #[]] h
      fun r h' => r = .tuple #[.int .i64 ((Go.Sort.partition ltR d a b pivot).1 : Int), .bool (Go.Sort.partition ltR d a b pivot).2.1] ∧ ExtG g h h' ∧ OwnT g h' encReel 3 v (Go.Sort.partition ltR d a b pivot).2.2.toList := by
  obtain ⟨fn, hf1, hf2, hf3⟩ := fv_ok
  refine ACall.of Try.func81 s81 (of_decide_eq_true rfl) ?_
  have W : ∀ i : Nat, i ≤ 1000000000001 → IntKind.i64.wrap ((i : Int) + 1) = ((i + 1 : Nat) : Int) := fun i hi => i64e (by omega) (by omega)
  have Wd : ∀ i : Nat, i ≤ 1000000000001 → IntKind.i64.wrap (((i + 1 : Nat) : Int) - 1) = (i : Int) := fun i hi => i64e (by omega) (by omega)
  have R1 := rdA o (i := a) (by omega)
  have R2 := rdA o (i := pivot) (by omega)
  obtain ⟨K0, K1, s1, s2, O, G⟩ := swA o (i := a) (j := pivot) (by omega) (by omega)
  obtain ⟨bb, rfl⟩ : ∃ bb, b = bb + 1 := ⟨b - 1, by omega⟩
  simp (maxSteps := 4000000) (disch := omega) only [ah, am, Nat.reduceEqDiff, reduceCtorEq, Nat.reduceAdd, Nat.reduceLeDiff, Nat.reduceMul, Nat.reduceLT, if_true, if_false, true_and, and_true, and_self, Nat.reduceBEq, QOp.loads, boxO, bslO, buildO, cutL, fillV, putL, w81, v81, R1, R2, s1, s2, W a (by omega), Wd bb (by omega)]
  obtain ⟨D, hD⟩ : ∃ D, D = Go.Sort.partition ltR d a (bb + 1) pivot := ⟨_, rfl⟩
  rw [← hD]
  obtain ⟨d', hd'⟩ : ∃ d', d' = swp d a pivot := ⟨_, rfl⟩
  have hs : d'.size = d.size := by rw [hd', swp_size]
  unfold Go.Sort.partition at hD
  simp only [Nat.add_sub_cancel] at hD
  rw [← hd'] at hD O
  refine SW_loop_to 0 (fun E K => ∃ i : Nat, Go.Sort.scanUp (fun x => ltR x d'[a]!) d' bb (a + 1) = i ∧ (a + 1) ≤ i ∧ i ≤ max (a + 1) (bb + 1) ∧ ExtG g h K ∧ OwnT g K encReel 3 v d'.toList ∧ ∃ t, E = (0, v) :: (1, .int .i64 (a : Int)) :: (4, .func (.func 56) #[] #[]) :: (12, .int .i64 (i : Int)) :: (13, .int .i64 (bb : Int)) :: t) ?_ ?_
  · obtain ⟨I0, hI0⟩ : ∃ I0, I0 = Go.Sort.scanUp (fun x => ltR x d'[a]!) d' bb (a + 1) := ⟨_, rfl⟩
    rw [← hI0]
    refine ⟨fun m E K => ∃ i : Nat, m = bb + 1 - i ∧ Go.Sort.scanUp (fun x => ltR x d'[a]!) d' bb i = I0 ∧ (a + 1) ≤ i ∧ i ≤ max (a + 1) (bb + 1) ∧ ExtG g h K ∧ OwnT g K encReel 3 v d'.toList ∧ E = [(0, v), (1, .int .i64 (a : Int)), (4, .func (.func 56) #[] #[]), (12, .int .i64 (i : Int)), (13, .int .i64 (bb : Int))], ⟨_, (a + 1), rfl, hI0.symm, by omega, by omega, G, O, rfl⟩, ?_⟩
    rintro m E K ⟨i, rfl, hI, hi1, hi2, G, O, rfl⟩
    rw [Go.Sort.scanUp] at hI
    by_cases hij : i ≤ bb
    · have R1 := rdA O (i := i) (by omega)
      have R2 := rdA O (i := a) (by omega)
      simp (maxSteps := 4000000) (disch := omega) only [ah, am, Nat.reduceEqDiff, reduceCtorEq, Nat.reduceAdd, Nat.reduceLeDiff, Nat.reduceMul, Nat.reduceLT, if_true, if_false, true_and, and_true, and_self, Nat.reduceBEq, QOp.loads, boxO, bslO, buildO, cutL, fillV, putL, w81, v81, decide_eq_true (show (i : Int) ≤ (bb : Int) by omega), R1, R2]
      refine stepV.of hf1 hf2 hf3 (told1_ok _ _ _) ?_
      rintro _ K2 ⟨e, rfl⟩
      have O := O.ext e
      have G := G.trans e.toG
      cases hb : ltR d'[i]! d'[a]! with
      | true =>
        rw [if_pos (by simp [hij, hb])] at hI
        simp (maxSteps := 4000000) (disch := omega) only [ah, am, Nat.reduceEqDiff, reduceCtorEq, Nat.reduceAdd, Nat.reduceLeDiff, Nat.reduceMul, Nat.reduceLT, if_true, if_false, true_and, and_true, and_self, Nat.reduceBEq, QOp.loads, boxO, bslO, buildO, cutL, fillV, putL, w81, v81, ltd, hb, Bool.not_true, Bool.not_false, W i (by omega)]
        exact ⟨bb + 1 - (i + 1), by omega, i + 1, rfl, hI, by omega, by omega, G, O, rfl⟩
      | false =>
        rw [if_neg (by simp [hij, hb])] at hI
        simp (maxSteps := 4000000) (disch := omega) only [ah, am, Nat.reduceEqDiff, reduceCtorEq, Nat.reduceAdd, Nat.reduceLeDiff, Nat.reduceMul, Nat.reduceLT, if_true, if_false, true_and, and_true, and_self, Nat.reduceBEq, QOp.loads, boxO, bslO, buildO, cutL, fillV, putL, w81, v81, ltd, hb, Bool.not_true, Bool.not_false]
        exact ⟨i, hI.symm, hi1, hi2, G, O, _, rfl⟩
    · rw [if_neg (by simp [hij])] at hI
      simp (maxSteps := 4000000) (disch := omega) only [ah, am, Nat.reduceEqDiff, reduceCtorEq, Nat.reduceAdd, Nat.reduceLeDiff, Nat.reduceMul, Nat.reduceLT, if_true, if_false, true_and, and_true, and_self, Nat.reduceBEq, QOp.loads, boxO, bslO, buildO, cutL, fillV, putL, w81, v81, decide_eq_false (show ¬ (i : Int) ≤ (bb : Int) by omega)]
      exact ⟨i, hI.symm, hi1, hi2, G, O, _, rfl⟩
  rintro E K ⟨i, hI, hi1, hi2, G, O, t, rfl⟩
  rw [hI] at hD
  simp (maxSteps := 4000000) (disch := omega) only [ah, am, Nat.reduceEqDiff, reduceCtorEq, Nat.reduceAdd, Nat.reduceLeDiff, Nat.reduceMul, Nat.reduceLT, if_true, if_false, true_and, and_true, and_self, Nat.reduceBEq, QOp.loads, boxO, bslO, buildO, cutL, fillV, putL, w81, v81]
  refine SW_loop_to 2 (fun E K => ∃ j : Nat, Go.Sort.scanDown (fun x => !ltR x d'[a]!) d' i bb = j ∧ a ≤ j ∧ j ≤ bb ∧ ExtG g h K ∧ OwnT g K encReel 3 v d'.toList ∧ ∃ t, E = (0, v) :: (1, .int .i64 (a : Int)) :: (4, .func (.func 56) #[] #[]) :: (12, .int .i64 (i : Int)) :: (13, .int .i64 (j : Int)) :: t) ?_ ?_
  · obtain ⟨J0, hJ0⟩ : ∃ J0, J0 = Go.Sort.scanDown (fun x => !ltR x d'[a]!) d' i bb := ⟨_, rfl⟩
    rw [← hJ0]
    refine ⟨fun j E K => Go.Sort.scanDown (fun x => !ltR x d'[a]!) d' i j = J0 ∧ a ≤ j ∧ j ≤ bb ∧ ExtG g h K ∧ OwnT g K encReel 3 v d'.toList ∧ ∃ t, E = (0, v) :: (1, .int .i64 (a : Int)) :: (4, .func (.func 56) #[] #[]) :: (12, .int .i64 (i : Int)) :: (13, .int .i64 (j : Int)) :: t, ⟨bb, hJ0.symm, by omega, by omega, G, O, _, rfl⟩, ?_⟩
    rintro j E K ⟨hJ, hj1, hj2, G, O, t, rfl⟩
    by_cases hij : i ≤ j
    · obtain ⟨j, rfl⟩ : ∃ k, j = k + 1 := ⟨j - 1, by omega⟩
      rw [Go.Sort.scanDown] at hJ
      have R1 := rdA O (i := j + 1) (by omega)
      have R2 := rdA O (i := a) (by omega)
      simp (maxSteps := 4000000) (disch := omega) only [ah, am, Nat.reduceEqDiff, reduceCtorEq, Nat.reduceAdd, Nat.reduceLeDiff, Nat.reduceMul, Nat.reduceLT, if_true, if_false, true_and, and_true, and_self, Nat.reduceBEq, QOp.loads, boxO, bslO, buildO, cutL, fillV, putL, w81, v81, decide_eq_true (show (i : Int) ≤ ((j + 1 : Nat) : Int) by omega), R1, R2]
      refine stepV.of hf1 hf2 hf3 (told1_ok _ _ _) ?_
      rintro _ K2 ⟨e, rfl⟩
      have O := O.ext e
      have G := G.trans e.toG
      cases hb : ltR d'[j + 1]! d'[a]! with
      | false =>
        rw [if_pos (by simp [hij, hb])] at hJ
        simp (maxSteps := 4000000) (disch := omega) only [ah, am, Nat.reduceEqDiff, reduceCtorEq, Nat.reduceAdd, Nat.reduceLeDiff, Nat.reduceMul, Nat.reduceLT, if_true, if_false, true_and, and_true, and_self, Nat.reduceBEq, QOp.loads, boxO, bslO, buildO, cutL, fillV, putL, w81, v81, ltd, hb, Bool.not_true, Bool.not_false, Wd j (by omega)]
        exact ⟨j, by omega, hJ, by omega, by omega, G, O, _, rfl⟩
      | true =>
        rw [if_neg (by simp [hij, hb])] at hJ
        simp (maxSteps := 4000000) (disch := omega) only [ah, am, Nat.reduceEqDiff, reduceCtorEq, Nat.reduceAdd, Nat.reduceLeDiff, Nat.reduceMul, Nat.reduceLT, if_true, if_false, true_and, and_true, and_self, Nat.reduceBEq, QOp.loads, boxO, bslO, buildO, cutL, fillV, putL, w81, v81, ltd, hb, Bool.not_true, Bool.not_false]
        exact ⟨_, hJ.symm, hj1, hj2, G, O, _, rfl⟩
    · have e : Go.Sort.scanDown (fun x => !ltR x d'[a]!) d' i j = j := by
        cases j with
        | zero => rfl
        | succ j => rw [Go.Sort.scanDown, if_neg (by simp; omega)]
      rw [e] at hJ
      simp (maxSteps := 4000000) (disch := omega) only [ah, am, Nat.reduceEqDiff, reduceCtorEq, Nat.reduceAdd, Nat.reduceLeDiff, Nat.reduceMul, Nat.reduceLT, if_true, if_false, true_and, and_true, and_self, Nat.reduceBEq, QOp.loads, boxO, bslO, buildO, cutL, fillV, putL, w81, v81, decide_eq_false (show ¬ (i : Int) ≤ (j : Int) by omega)]
      exact ⟨j, hJ.symm, hj1, hj2, G, O, _, rfl⟩
  rintro E K ⟨j, hJ, hj1, hj2, G, O, t, rfl⟩
  rw [hJ] at hD
  by_cases hij : j < i
  · rw [if_pos hij] at hD
    have R1 := rdA O (i := j) (by omega)
    have R2 := rdA O (i := a) (by omega)
    obtain ⟨K2, K3, s1, s2, O, g2⟩ := swA O (i := j) (j := a) (by omega) (by omega)
    subst hD
    simp (maxSteps := 4000000) (disch := omega) only [ah, am, Nat.reduceEqDiff, reduceCtorEq, Nat.reduceAdd, Nat.reduceLeDiff, Nat.reduceMul, Nat.reduceLT, if_true, if_false, true_and, and_true, and_self, Nat.reduceBEq, QOp.loads, boxO, bslO, buildO, cutL, fillV, putL, w81, v81, decide_eq_true (show (j : Int) < (i : Int) by omega), R1, R2, s1, s2]
    exact ⟨G.trans g2, O⟩
  · rw [if_neg hij] at hD
    have R1 := rdA O (i := i) (by omega)
    have R2 := rdA O (i := j) (by omega)
    obtain ⟨K2, K3, s1, s2, O, g2⟩ := swA O (i := i) (j := j) (by omega) (by omega)
    obtain ⟨j, rfl⟩ : ∃ k, j = k + 1 := ⟨j - 1, by omega⟩
    have G := G.trans g2
    simp (maxSteps := 4000000) (disch := omega) only [ah, am, Nat.reduceEqDiff, reduceCtorEq, Nat.reduceAdd, Nat.reduceLeDiff, Nat.reduceMul, Nat.reduceLT, if_true, if_false, true_and, and_true, and_self, Nat.reduceBEq, QOp.loads, boxO, bslO, buildO, cutL, fillV, putL, w81, v81, decide_eq_false (show ¬ ((j + 1 : Nat) : Int) < (i : Int) by omega), R1, R2, s1, s2, W i (by omega), Wd j (by omega)]
    rw [Nat.add_sub_cancel] at hD
    have hs2 : (swp d' i (j + 1)).size = d.size := by rw [swp_size, hs]
    generalize swp d' i (j + 1) = d1 at hD O hs2
    obtain ⟨R, hR⟩ : ∃ R, R = Go.Sort.partLoop ltR a (i + 1) j d1 := ⟨_, rfl⟩
    rw [← hR] at hD
    refine SW_loop_to 4 (fun E K => ∃ (i' : Nat), R.2.size = d.size ∧ a ≤ R.1 ∧ R.1 ≤ bb ∧ ExtG g h K ∧ OwnT g K encReel 3 v R.2.toList ∧ ∃ t, E = (0, v) :: (1, .int .i64 (a : Int)) :: (4, .func (.func 56) #[] #[]) :: (12, .int .i64 (i' : Int)) :: (13, .int .i64 (R.1 : Int)) :: t) ?_ ?_
    · refine ⟨fun m E K => ∃ (i j : Nat) (d1 : Array Reel), m = j + 1 - i ∧ Go.Sort.partLoop ltR a i j d1 = R ∧ d1.size = d.size ∧ a + 1 ≤ i ∧ i ≤ bb + 2 ∧ a ≤ j ∧ j ≤ bb ∧ ExtG g h K ∧ OwnT g K encReel 3 v d1.toList ∧ E = [(0, v), (1, .int .i64 (a : Int)), (4, .func (.func 56) #[] #[]), (12, .int .i64 (i : Int)), (13, .int .i64 (j : Int))], ⟨_, i + 1, j, d1, rfl, hR.symm, hs2, by omega, by omega, by omega, by omega, G, O, rfl⟩, ?_⟩
      clear hR hs2 O G hD hJ hI
      rintro m E K ⟨i1, j1, d1, rfl, hR, hs2, hi1, hi2, hj1, hj2, G, O, rfl⟩
      rw [Go.Sort.partLoop_eq] at hR
      simp (maxSteps := 4000000) (disch := omega) only [ah, am, Nat.reduceEqDiff, reduceCtorEq, Nat.reduceAdd, Nat.reduceLeDiff, Nat.reduceMul, Nat.reduceLT, if_true, if_false, true_and, and_true, and_self, Nat.reduceBEq, QOp.loads, boxO, bslO, buildO, cutL, fillV, putL, w81, v81]
      refine SW_loop_to 6 (fun E K => ∃ i : Nat, Go.Sort.scanUp (fun x => ltR x d1[a]!) d1 j1 i1 = i ∧ i1 ≤ i ∧ i ≤ max i1 (j1 + 1) ∧ ExtG g h K ∧ OwnT g K encReel 3 v d1.toList ∧ ∃ t, E = (0, v) :: (1, .int .i64 (a : Int)) :: (4, .func (.func 56) #[] #[]) :: (12, .int .i64 (i : Int)) :: (13, .int .i64 (j1 : Int)) :: t) ?_ ?_
      · obtain ⟨I0, hI0⟩ : ∃ I0, I0 = Go.Sort.scanUp (fun x => ltR x d1[a]!) d1 j1 i1 := ⟨_, rfl⟩
        rw [← hI0]
        refine ⟨fun m E K => ∃ i : Nat, m = j1 + 1 - i ∧ Go.Sort.scanUp (fun x => ltR x d1[a]!) d1 j1 i = I0 ∧ i1 ≤ i ∧ i ≤ max i1 (j1 + 1) ∧ ExtG g h K ∧ OwnT g K encReel 3 v d1.toList ∧ E = [(0, v), (1, .int .i64 (a : Int)), (4, .func (.func 56) #[] #[]), (12, .int .i64 (i : Int)), (13, .int .i64 (j1 : Int))], ⟨_, i1, rfl, hI0.symm, by omega, by omega, G, O, rfl⟩, ?_⟩
        rintro m E K ⟨i, rfl, hI, hi1, hi2, G, O, rfl⟩
        rw [Go.Sort.scanUp] at hI
        by_cases hij : i ≤ j1
        · have R1 := rdA O (i := i) (by omega)
          have R2 := rdA O (i := a) (by omega)
          simp (maxSteps := 4000000) (disch := omega) only [ah, am, Nat.reduceEqDiff, reduceCtorEq, Nat.reduceAdd, Nat.reduceLeDiff, Nat.reduceMul, Nat.reduceLT, if_true, if_false, true_and, and_true, and_self, Nat.reduceBEq, QOp.loads, boxO, bslO, buildO, cutL, fillV, putL, w81, v81, decide_eq_true (show (i : Int) ≤ (j1 : Int) by omega), R1, R2]
          refine stepV.of hf1 hf2 hf3 (told1_ok _ _ _) ?_
          rintro _ K2 ⟨e, rfl⟩
          have O := O.ext e
          have G := G.trans e.toG
          cases hb : ltR d1[i]! d1[a]! with
          | true =>
            rw [if_pos (by simp [hij, hb])] at hI
            simp (maxSteps := 4000000) (disch := omega) only [ah, am, Nat.reduceEqDiff, reduceCtorEq, Nat.reduceAdd, Nat.reduceLeDiff, Nat.reduceMul, Nat.reduceLT, if_true, if_false, true_and, and_true, and_self, Nat.reduceBEq, QOp.loads, boxO, bslO, buildO, cutL, fillV, putL, w81, v81, ltd, hb, Bool.not_true, Bool.not_false, W i (by omega)]
            exact ⟨j1 + 1 - (i + 1), by omega, i + 1, rfl, hI, by omega, by omega, G, O, rfl⟩
          | false =>
            rw [if_neg (by simp [hij, hb])] at hI
            simp (maxSteps := 4000000) (disch := omega) only [ah, am, Nat.reduceEqDiff, reduceCtorEq, Nat.reduceAdd, Nat.reduceLeDiff, Nat.reduceMul, Nat.reduceLT, if_true, if_false, true_and, and_true, and_self, Nat.reduceBEq, QOp.loads, boxO, bslO, buildO, cutL, fillV, putL, w81, v81, ltd, hb, Bool.not_true, Bool.not_false]
            exact ⟨i, hI.symm, hi1, hi2, G, O, _, rfl⟩
        · rw [if_neg (by simp [hij])] at hI
          simp (maxSteps := 4000000) (disch := omega) only [ah, am, Nat.reduceEqDiff, reduceCtorEq, Nat.reduceAdd, Nat.reduceLeDiff, Nat.reduceMul, Nat.reduceLT, if_true, if_false, true_and, and_true, and_self, Nat.reduceBEq, QOp.loads, boxO, bslO, buildO, cutL, fillV, putL, w81, v81, decide_eq_false (show ¬ (i : Int) ≤ (j1 : Int) by omega)]
          exact ⟨i, hI.symm, hi1, hi2, G, O, _, rfl⟩
      rintro E K ⟨i, hI, hi3, hi4, G, O, t, rfl⟩
      rw [hI] at hR
      simp (maxSteps := 4000000) (disch := omega) only [ah, am, Nat.reduceEqDiff, reduceCtorEq, Nat.reduceAdd, Nat.reduceLeDiff, Nat.reduceMul, Nat.reduceLT, if_true, if_false, true_and, and_true, and_self, Nat.reduceBEq, QOp.loads, boxO, bslO, buildO, cutL, fillV, putL, w81, v81]
      refine SW_loop_to 8 (fun E K => ∃ j : Nat, Go.Sort.scanDown (fun x => !ltR x d1[a]!) d1 i j1 = j ∧ a ≤ j ∧ j ≤ j1 ∧ ExtG g h K ∧ OwnT g K encReel 3 v d1.toList ∧ ∃ t, E = (0, v) :: (1, .int .i64 (a : Int)) :: (4, .func (.func 56) #[] #[]) :: (12, .int .i64 (i : Int)) :: (13, .int .i64 (j : Int)) :: t) ?_ ?_
      · obtain ⟨J0, hJ0⟩ : ∃ J0, J0 = Go.Sort.scanDown (fun x => !ltR x d1[a]!) d1 i j1 := ⟨_, rfl⟩
        rw [← hJ0]
        refine ⟨fun j E K => Go.Sort.scanDown (fun x => !ltR x d1[a]!) d1 i j = J0 ∧ a ≤ j ∧ j ≤ j1 ∧ ExtG g h K ∧ OwnT g K encReel 3 v d1.toList ∧ ∃ t, E = (0, v) :: (1, .int .i64 (a : Int)) :: (4, .func (.func 56) #[] #[]) :: (12, .int .i64 (i : Int)) :: (13, .int .i64 (j : Int)) :: t, ⟨j1, hJ0.symm, by omega, by omega, G, O, _, rfl⟩, ?_⟩
        rintro j E K ⟨hJ, hj1, hj2, G, O, t, rfl⟩
        by_cases hij : i ≤ j
        · obtain ⟨j, rfl⟩ : ∃ k, j = k + 1 := ⟨j - 1, by omega⟩
          rw [Go.Sort.scanDown] at hJ
          have R1 := rdA O (i := j + 1) (by omega)
          have R2 := rdA O (i := a) (by omega)
          simp (maxSteps := 4000000) (disch := omega) only [ah, am, Nat.reduceEqDiff, reduceCtorEq, Nat.reduceAdd, Nat.reduceLeDiff, Nat.reduceMul, Nat.reduceLT, if_true, if_false, true_and, and_true, and_self, Nat.reduceBEq, QOp.loads, boxO, bslO, buildO, cutL, fillV, putL, w81, v81, decide_eq_true (show (i : Int) ≤ ((j + 1 : Nat) : Int) by omega), R1, R2]
          refine stepV.of hf1 hf2 hf3 (told1_ok _ _ _) ?_
          rintro _ K2 ⟨e, rfl⟩
          have O := O.ext e
          have G := G.trans e.toG
          cases hb : ltR d1[j + 1]! d1[a]! with
          | false =>
            rw [if_pos (by simp [hij, hb])] at hJ
            simp (maxSteps := 4000000) (disch := omega) only [ah, am, Nat.reduceEqDiff, reduceCtorEq, Nat.reduceAdd, Nat.reduceLeDiff, Nat.reduceMul, Nat.reduceLT, if_true, if_false, true_and, and_true, and_self, Nat.reduceBEq, QOp.loads, boxO, bslO, buildO, cutL, fillV, putL, w81, v81, ltd, hb, Bool.not_true, Bool.not_false, Wd j (by omega)]
            exact ⟨j, by omega, hJ, by omega, by omega, G, O, _, rfl⟩
          | true =>
            rw [if_neg (by simp [hij, hb])] at hJ
            simp (maxSteps := 4000000) (disch := omega) only [ah, am, Nat.reduceEqDiff, reduceCtorEq, Nat.reduceAdd, Nat.reduceLeDiff, Nat.reduceMul, Nat.reduceLT, if_true, if_false, true_and, and_true, and_self, Nat.reduceBEq, QOp.loads, boxO, bslO, buildO, cutL, fillV, putL, w81, v81, ltd, hb, Bool.not_true, Bool.not_false]
            exact ⟨_, hJ.symm, hj1, hj2, G, O, _, rfl⟩
        · have e : Go.Sort.scanDown (fun x => !ltR x d1[a]!) d1 i j = j := by
            cases j with
            | zero => rfl
            | succ j => rw [Go.Sort.scanDown, if_neg (by simp; omega)]
          rw [e] at hJ
          simp (maxSteps := 4000000) (disch := omega) only [ah, am, Nat.reduceEqDiff, reduceCtorEq, Nat.reduceAdd, Nat.reduceLeDiff, Nat.reduceMul, Nat.reduceLT, if_true, if_false, true_and, and_true, and_self, Nat.reduceBEq, QOp.loads, boxO, bslO, buildO, cutL, fillV, putL, w81, v81, decide_eq_false (show ¬ (i : Int) ≤ (j : Int) by omega)]
          exact ⟨j, hJ.symm, hj1, hj2, G, O, _, rfl⟩
      rintro E K ⟨j, hJ, hj3, hj4, G, O, t, rfl⟩
      rw [hJ] at hR
      by_cases hij : j < i
      · rw [if_pos hij] at hR
        subst hR
        simp (maxSteps := 4000000) (disch := omega) only [ah, am, Nat.reduceEqDiff, reduceCtorEq, Nat.reduceAdd, Nat.reduceLeDiff, Nat.reduceMul, Nat.reduceLT, if_true, if_false, true_and, and_true, and_self, Nat.reduceBEq, QOp.loads, boxO, bslO, buildO, cutL, fillV, putL, w81, v81, decide_eq_true (show (j : Int) < (i : Int) by omega)]
        exact ⟨i, hs2, hj3, by omega, G, O, _, rfl⟩
      · rw [if_neg hij] at hR
        have R1 := rdA O (i := i) (by omega)
        have R2 := rdA O (i := j) (by omega)
        obtain ⟨K2, K3, s1, s2, O, g2⟩ := swA O (i := i) (j := j) (by omega) (by omega)
        obtain ⟨j, rfl⟩ : ∃ k, j = k + 1 := ⟨j - 1, by omega⟩
        have G := G.trans g2
        simp (maxSteps := 4000000) (disch := omega) only [ah, am, Nat.reduceEqDiff, reduceCtorEq, Nat.reduceAdd, Nat.reduceLeDiff, Nat.reduceMul, Nat.reduceLT, if_true, if_false, true_and, and_true, and_self, Nat.reduceBEq, QOp.loads, boxO, bslO, buildO, cutL, fillV, putL, w81, v81, decide_eq_false (show ¬ ((j + 1 : Nat) : Int) < (i : Int) by omega), R1, R2, s1, s2, W i (by omega), Wd j (by omega)]
        rw [Nat.add_sub_cancel] at hR
        exact ⟨j + 1 - (i + 1), by omega, i + 1, j, _, rfl, hR, by rw [swp_size, hs2], by omega, by omega, by omega, by omega, G, O, rfl⟩
    · rintro E K ⟨i', hs3, r1, r2, G, O, t, rfl⟩
      have R1 := rdA O (i := R.1) (by omega)
      have R2 := rdA O (i := a) (by omega)
      obtain ⟨K2, K3, s1, s2, O, g2⟩ := swA O (i := R.1) (j := a) (by omega) (by omega)
      subst hD
      simp (maxSteps := 4000000) (disch := omega) only [ah, am, Nat.reduceEqDiff, reduceCtorEq, Nat.reduceAdd, Nat.reduceLeDiff, Nat.reduceMul, Nat.reduceLT, if_true, if_false, true_and, and_true, and_self, Nat.reduceBEq, QOp.loads, boxO, bslO, buildO, cutL, fillV, putL, w81, v81, R1, R2, s1, s2]
      exact ⟨G.trans g2, O⟩
theorem partitionEqual_ok (h : Heap) (g : Nat) (v : Value) (d : Array Reel) (a b pivot : Nat) (o : OwnT g h encReel 3 v d.toList) (hap : a ≤ pivot) (hpb : pivot < b) (hb : b ≤ d.size) (hl : d.size ≤ 1000000000000) :
    ACall Try.prog 80 [v, .int .i64 (a : Int), .int .i64 (b : Int), .int .i64 (pivot : Int), .func (.func 56) #[] #[]] h
      fun r h' => r = .int .i64 ((Go.Sort.partitionEqual ltR d a b pivot).1 : Int) ∧ ExtG g h h' ∧ OwnT g h' encReel 3 v (Go.Sort.partitionEqual ltR d a b pivot).2.toList := by
  obtain ⟨fn, hf1, hf2, hf3⟩ := fv_ok
  refine ACall.of Try.func80 s80 (of_decide_eq_true rfl) ?_
  have W : ∀ i : Nat, i ≤ 1000000000001 → IntKind.i64.wrap ((i : Int) + 1) = ((i + 1 : Nat) : Int) := fun i hi => i64e (by omega) (by omega)
  have Wd : ∀ i : Nat, i ≤ 1000000000001 → IntKind.i64.wrap (((i + 1 : Nat) : Int) - 1) = (i : Int) := fun i hi => i64e (by omega) (by omega)
  have R1 := rdA o (i := a) (by omega)
  have R2 := rdA o (i := pivot) (by omega)
  obtain ⟨K0, K1, s1, s2, O, G⟩ := swA o (i := a) (j := pivot) (by omega) (by omega)
  obtain ⟨bb, rfl⟩ : ∃ bb, b = bb + 1 := ⟨b - 1, by omega⟩
  simp (maxSteps := 4000000) (disch := omega) only [ah, am, Nat.reduceEqDiff, reduceCtorEq, Nat.reduceAdd, Nat.reduceLeDiff, Nat.reduceMul, Nat.reduceLT, if_true, if_false, true_and, and_true, and_self, Nat.reduceBEq, QOp.loads, boxO, bslO, buildO, cutL, fillV, putL, w80, v80, R1, R2, s1, s2, W a (by omega), Wd bb (by omega)]
  obtain ⟨D, hD⟩ : ∃ D, D = Go.Sort.partitionEqual ltR d a (bb + 1) pivot := ⟨_, rfl⟩
  rw [← hD]
  obtain ⟨d', hd'⟩ : ∃ d', d' = swp d a pivot := ⟨_, rfl⟩
  have hs : d'.size = d.size := by rw [hd', swp_size]
  unfold Go.Sort.partitionEqual at hD
  simp only [Nat.add_sub_cancel] at hD
  rw [← hd'] at hD O
  generalize d' = d1 at hD O hs
  refine SW_loop_to 0 (fun E K => ∃ (j' : Nat), ExtG g h K ∧ OwnT g K encReel 3 v D.2.toList ∧ ∃ t, E = (0, v) :: (1, .int .i64 (a : Int)) :: (4, .func (.func 56) #[] #[]) :: (11, .int .i64 (D.1 : Int)) :: (12, .int .i64 (j' : Int)) :: t) ?_ ?_
  · refine ⟨fun m E K => ∃ (i j : Nat) (d1 : Array Reel), m = j + 1 - i ∧ Go.Sort.partEqLoop ltR a i j d1 = D ∧ d1.size = d.size ∧ a + 1 ≤ i ∧ i ≤ bb + 2 ∧ a ≤ j ∧ j ≤ bb ∧ ExtG g h K ∧ OwnT g K encReel 3 v d1.toList ∧ E = [(0, v), (1, .int .i64 (a : Int)), (4, .func (.func 56) #[] #[]), (11, .int .i64 (i : Int)), (12, .int .i64 (j : Int))], ⟨_, a + 1, bb, d1, rfl, hD.symm, hs, by omega, by omega, by omega, by omega, G, O, rfl⟩, ?_⟩
    clear O G hD hs
    rintro m E K ⟨i1, j1, d1, rfl, hR, hs2, hi1, hi2, hj1, hj2, G, O, rfl⟩
    rw [Go.Sort.partEqLoop_eq] at hR
    simp (maxSteps := 4000000) (disch := omega) only [ah, am, Nat.reduceEqDiff, reduceCtorEq, Nat.reduceAdd, Nat.reduceLeDiff, Nat.reduceMul, Nat.reduceLT, if_true, if_false, true_and, and_true, and_self, Nat.reduceBEq, QOp.loads, boxO, bslO, buildO, cutL, fillV, putL, w80, v80]
    refine SW_loop_to 2 (fun E K => ∃ i : Nat, Go.Sort.scanUp (fun x => !ltR d1[a]! x) d1 j1 i1 = i ∧ i1 ≤ i ∧ i ≤ max i1 (j1 + 1) ∧ ExtG g h K ∧ OwnT g K encReel 3 v d1.toList ∧ ∃ t, E = (0, v) :: (1, .int .i64 (a : Int)) :: (4, .func (.func 56) #[] #[]) :: (11, .int .i64 (i : Int)) :: (12, .int .i64 (j1 : Int)) :: t) ?_ ?_
    · obtain ⟨I0, hI0⟩ : ∃ I0, I0 = Go.Sort.scanUp (fun x => !ltR d1[a]! x) d1 j1 i1 := ⟨_, rfl⟩
      rw [← hI0]
      refine ⟨fun m E K => ∃ i : Nat, m = j1 + 1 - i ∧ Go.Sort.scanUp (fun x => !ltR d1[a]! x) d1 j1 i = I0 ∧ i1 ≤ i ∧ i ≤ max i1 (j1 + 1) ∧ ExtG g h K ∧ OwnT g K encReel 3 v d1.toList ∧ E = [(0, v), (1, .int .i64 (a : Int)), (4, .func (.func 56) #[] #[]), (11, .int .i64 (i : Int)), (12, .int .i64 (j1 : Int))], ⟨_, i1, rfl, hI0.symm, by omega, by omega, G, O, rfl⟩, ?_⟩
      rintro m E K ⟨i, rfl, hI, hi1, hi2, G, O, rfl⟩
      rw [Go.Sort.scanUp] at hI
      by_cases hij : i ≤ j1
      · have R1 := rdA O (i := i) (by omega)
        have R2 := rdA O (i := a) (by omega)
        simp (maxSteps := 4000000) (disch := omega) only [ah, am, Nat.reduceEqDiff, reduceCtorEq, Nat.reduceAdd, Nat.reduceLeDiff, Nat.reduceMul, Nat.reduceLT, if_true, if_false, true_and, and_true, and_self, Nat.reduceBEq, QOp.loads, boxO, bslO, buildO, cutL, fillV, putL, w80, v80, decide_eq_true (show (i : Int) ≤ (j1 : Int) by omega), R1, R2]
        refine stepV.of hf1 hf2 hf3 (told1_ok _ _ _) ?_
        rintro _ K2 ⟨e, rfl⟩
        have O := O.ext e
        have G := G.trans e.toG
        cases hb : ltR d1[a]! d1[i]! with
        | false =>
          rw [if_pos (by simp [hij, hb])] at hI
          simp (maxSteps := 4000000) (disch := omega) only [ah, am, Nat.reduceEqDiff, reduceCtorEq, Nat.reduceAdd, Nat.reduceLeDiff, Nat.reduceMul, Nat.reduceLT, if_true, if_false, true_and, and_true, and_self, Nat.reduceBEq, QOp.loads, boxO, bslO, buildO, cutL, fillV, putL, w80, v80, ltd, hb, Bool.not_true, Bool.not_false, W i (by omega)]
          exact ⟨j1 + 1 - (i + 1), by omega, i + 1, rfl, hI, by omega, by omega, G, O, rfl⟩
        | true =>
          rw [if_neg (by simp [hij, hb])] at hI
          simp (maxSteps := 4000000) (disch := omega) only [ah, am, Nat.reduceEqDiff, reduceCtorEq, Nat.reduceAdd, Nat.reduceLeDiff, Nat.reduceMul, Nat.reduceLT, if_true, if_false, true_and, and_true, and_self, Nat.reduceBEq, QOp.loads, boxO, bslO, buildO, cutL, fillV, putL, w80, v80, ltd, hb, Bool.not_true, Bool.not_false]
          exact ⟨i, hI.symm, hi1, hi2, G, O, _, rfl⟩
      · rw [if_neg (by simp [hij])] at hI
        simp (maxSteps := 4000000) (disch := omega) only [ah, am, Nat.reduceEqDiff, reduceCtorEq, Nat.reduceAdd, Nat.reduceLeDiff, Nat.reduceMul, Nat.reduceLT, if_true, if_false, true_and, and_true, and_self, Nat.reduceBEq, QOp.loads, boxO, bslO, buildO, cutL, fillV, putL, w80, v80, decide_eq_false (show ¬ (i : Int) ≤ (j1 : Int) by omega)]
        exact ⟨i, hI.symm, hi1, hi2, G, O, _, rfl⟩
    rintro E K ⟨i, hI, hi3, hi4, G, O, t, rfl⟩
    rw [hI] at hR
    simp (maxSteps := 4000000) (disch := omega) only [ah, am, Nat.reduceEqDiff, reduceCtorEq, Nat.reduceAdd, Nat.reduceLeDiff, Nat.reduceMul, Nat.reduceLT, if_true, if_false, true_and, and_true, and_self, Nat.reduceBEq, QOp.loads, boxO, bslO, buildO, cutL, fillV, putL, w80, v80]
    refine SW_loop_to 4 (fun E K => ∃ j : Nat, Go.Sort.scanDown (fun x => ltR d1[a]! x) d1 i j1 = j ∧ a ≤ j ∧ j ≤ j1 ∧ ExtG g h K ∧ OwnT g K encReel 3 v d1.toList ∧ ∃ t, E = (0, v) :: (1, .int .i64 (a : Int)) :: (4, .func (.func 56) #[] #[]) :: (11, .int .i64 (i : Int)) :: (12, .int .i64 (j : Int)) :: t) ?_ ?_
    · obtain ⟨J0, hJ0⟩ : ∃ J0, J0 = Go.Sort.scanDown (fun x => ltR d1[a]! x) d1 i j1 := ⟨_, rfl⟩
      rw [← hJ0]
      refine ⟨fun j E K => Go.Sort.scanDown (fun x => ltR d1[a]! x) d1 i j = J0 ∧ a ≤ j ∧ j ≤ j1 ∧ ExtG g h K ∧ OwnT g K encReel 3 v d1.toList ∧ ∃ t, E = (0, v) :: (1, .int .i64 (a : Int)) :: (4, .func (.func 56) #[] #[]) :: (11, .int .i64 (i : Int)) :: (12, .int .i64 (j : Int)) :: t, ⟨j1, hJ0.symm, by omega, by omega, G, O, _, rfl⟩, ?_⟩
      rintro j E K ⟨hJ, hj1, hj2, G, O, t, rfl⟩
      by_cases hij : i ≤ j
      · obtain ⟨j, rfl⟩ : ∃ k, j = k + 1 := ⟨j - 1, by omega⟩
        rw [Go.Sort.scanDown] at hJ
        have R1 := rdA O (i := j + 1) (by omega)
        have R2 := rdA O (i := a) (by omega)
        simp (maxSteps := 4000000) (disch := omega) only [ah, am, Nat.reduceEqDiff, reduceCtorEq, Nat.reduceAdd, Nat.reduceLeDiff, Nat.reduceMul, Nat.reduceLT, if_true, if_false, true_and, and_true, and_self, Nat.reduceBEq, QOp.loads, boxO, bslO, buildO, cutL, fillV, putL, w80, v80, decide_eq_true (show (i : Int) ≤ ((j + 1 : Nat) : Int) by omega), R1, R2]
        refine stepV.of hf1 hf2 hf3 (told1_ok _ _ _) ?_
        rintro _ K2 ⟨e, rfl⟩
        have O := O.ext e
        have G := G.trans e.toG
        cases hb : ltR d1[a]! d1[j + 1]! with
        | true =>
          rw [if_pos (by simp [hij, hb])] at hJ
          simp (maxSteps := 4000000) (disch := omega) only [ah, am, Nat.reduceEqDiff, reduceCtorEq, Nat.reduceAdd, Nat.reduceLeDiff, Nat.reduceMul, Nat.reduceLT, if_true, if_false, true_and, and_true, and_self, Nat.reduceBEq, QOp.loads, boxO, bslO, buildO, cutL, fillV, putL, w80, v80, ltd, hb, Bool.not_true, Bool.not_false, Wd j (by omega)]
          exact ⟨j, by omega, hJ, by omega, by omega, G, O, _, rfl⟩
        | false =>
          rw [if_neg (by simp [hij, hb])] at hJ
          simp (maxSteps := 4000000) (disch := omega) only [ah, am, Nat.reduceEqDiff, reduceCtorEq, Nat.reduceAdd, Nat.reduceLeDiff, Nat.reduceMul, Nat.reduceLT, if_true, if_false, true_and, and_true, and_self, Nat.reduceBEq, QOp.loads, boxO, bslO, buildO, cutL, fillV, putL, w80, v80, ltd, hb, Bool.not_true, Bool.not_false]
          exact ⟨_, hJ.symm, hj1, hj2, G, O, _, rfl⟩
      · have e : Go.Sort.scanDown (fun x => ltR d1[a]! x) d1 i j = j := by
          cases j with
          | zero => rfl
          | succ j => rw [Go.Sort.scanDown, if_neg (by simp; omega)]
        rw [e] at hJ
        simp (maxSteps := 4000000) (disch := omega) only [ah, am, Nat.reduceEqDiff, reduceCtorEq, Nat.reduceAdd, Nat.reduceLeDiff, Nat.reduceMul, Nat.reduceLT, if_true, if_false, true_and, and_true, and_self, Nat.reduceBEq, QOp.loads, boxO, bslO, buildO, cutL, fillV, putL, w80, v80, decide_eq_false (show ¬ (i : Int) ≤ (j : Int) by omega)]
        exact ⟨j, hJ.symm, hj1, hj2, G, O, _, rfl⟩
    rintro E K ⟨j, hJ, hj3, hj4, G, O, t, rfl⟩
    rw [hJ] at hR
    by_cases hij : j < i
    · rw [if_pos hij] at hR
      subst hR
      simp (maxSteps := 4000000) (disch := omega) only [ah, am, Nat.reduceEqDiff, reduceCtorEq, Nat.reduceAdd, Nat.reduceLeDiff, Nat.reduceMul, Nat.reduceLT, if_true, if_false, true_and, and_true, and_self, Nat.reduceBEq, QOp.loads, boxO, bslO, buildO, cutL, fillV, putL, w80, v80, decide_eq_true (show (j : Int) < (i : Int) by omega)]
      exact ⟨j, G, O, _, rfl⟩
    · rw [if_neg hij] at hR
      have R1 := rdA O (i := i) (by omega)
      have R2 := rdA O (i := j) (by omega)
      obtain ⟨K2, K3, s1, s2, O, g2⟩ := swA O (i := i) (j := j) (by omega) (by omega)
      obtain ⟨j, rfl⟩ : ∃ k, j = k + 1 := ⟨j - 1, by omega⟩
      have G := G.trans g2
      simp (maxSteps := 4000000) (disch := omega) only [ah, am, Nat.reduceEqDiff, reduceCtorEq, Nat.reduceAdd, Nat.reduceLeDiff, Nat.reduceMul, Nat.reduceLT, if_true, if_false, true_and, and_true, and_self, Nat.reduceBEq, QOp.loads, boxO, bslO, buildO, cutL, fillV, putL, w80, v80, decide_eq_false (show ¬ ((j + 1 : Nat) : Int) < (i : Int) by omega), R1, R2, s1, s2, W i (by omega), Wd j (by omega)]
      rw [Nat.add_sub_cancel] at hR
      exact ⟨j + 1 - (i + 1), by omega, i + 1, j, _, rfl, hR, by rw [swp_size, hs2], by omega, by omega, by omega, by omega, G, O, rfl⟩
  · rintro E K ⟨j', G, O, t, rfl⟩
    simp (maxSteps := 4000000) (disch := omega) only [ah, am, Nat.reduceEqDiff, reduceCtorEq, Nat.reduceAdd, Nat.reduceLeDiff, Nat.reduceMul, Nat.reduceLT, if_true, if_false, true_and, and_true, and_self, Nat.reduceBEq, QOp.loads, boxO, bslO, buildO, cutL, fillV, putL, w80, v80]
    exact ⟨G, O⟩
end Go.Proofs.Ytmippcfdakjhfaa
