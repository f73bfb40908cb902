import Derived.Test.YtbnkpligdcponaaM0
import Derived.Test.YtbnkpligdcponaaN13
namespace Go.Proofs.Ytbnkpligdcponaa
open Go Go.Ah
set_option linter.unusedSimpArgs false
set_option linter.unusedVariables false
set_option maxRecDepth 10000
set_option maxHeartbeats 4000000
/-! 5 loop.example/g00066/laws.FnFarmed: parameters 1, live [0], slots [0:code, 1:code, 3:j, 4:w, 5:l, 6:ends, 7:i, 8:k, 9:sum, 10:i, 11:t, 12:k] -/
def c5_0 : List SOper := [⟨some 2, .q (.mv (.c (.bool false))), none⟩]
def c5_1 : List SOper := [⟨some 13, .q (.mv (.t 0)), none⟩, ⟨some 14, .e (.call 20 [(.t 13)]), none⟩]
def c5_2 : List SOper := [⟨some 2, .q (.mv (.c (.bool true))), none⟩]
def c5_3 : SCode := .seq (.region c5_2 [2]) .ret
def c5_4 : SCode := .cond (.t 14) c5_3 .skip
def c5_5 : SCode := .seq (.region c5_1 [0, 14]) c5_4
def c5_6 : List SOper := [⟨some 16, .q (.mv (.t 0)), none⟩, ⟨some 17, .e (.call 21 [(.t 16)]), none⟩, ⟨some 15, .q (.mv (.t 17)), none⟩, ⟨some 18, .q (.ext (.t 15) 0), none⟩, ⟨some 19, .q (.ext (.t 15) 1), none⟩, ⟨some 3, .q (.mv (.t 18)), none⟩, ⟨some 4, .q (.mv (.t 19)), none⟩]
def c5_7 : List SOper := [⟨some 20, .q (.mv (.t 3)), none⟩, ⟨some 21, .q (.mv (.t 4)), none⟩, ⟨some 22, .e (.call 22 [(.t 20), (.t 21)]), none⟩, ⟨some 5, .q (.mv (.t 22)), none⟩]
def c5_8 : List SOper := [⟨some 23, .q (.mv (.t 5)), none⟩, ⟨some 24, .q (.len (.t 23)), none⟩, ⟨some 25, .q (.mv (.t 3)), none⟩, ⟨some 26, .q (.mv (.t 4)), none⟩, ⟨some 27, .e (.call 23 [(.t 25), (.t 26)]), none⟩, ⟨some 28, .q (.len (.t 27)), none⟩, ⟨some 29, .q (.bin .neq (.t 24) (.t 28)), none⟩]
def c5_9 : List SOper := [⟨some 2, .q (.mv (.c (.bool false))), none⟩]
def c5_10 : SCode := .seq (.region c5_9 [2]) .ret
def c5_11 : SCode := .cond (.t 29) c5_10 .skip
def c5_12 : SCode := .seq (.region c5_8 [3, 4, 5, 29]) c5_11
def c5_13 : List SOper := [⟨some 30, .q (.mv (.t 5)), none⟩, ⟨some 31, .q (.len (.t 30)), none⟩, ⟨some 32, .q (.bin .eql (.t 31) (.c (.int .i64 0))), none⟩, ⟨some 33, .q (.mv (.t 32)), none⟩, ⟨some 34, .q (.mv (.t 5)), some (33, false)⟩, ⟨some 35, .q (.len (.t 34)), some (33, false)⟩, ⟨some 36, .q (.bin .gtr (.t 35) (.c (.int .i64 60))), some (33, false)⟩, ⟨some 37, .q (.pick (.t 33) (.c (.bool true)) (.t 36)), none⟩]
def c5_14 : List SOper := [⟨some 2, .q (.mv (.c (.bool true))), none⟩]
def c5_15 : SCode := .seq (.region c5_14 [2]) .ret
def c5_16 : SCode := .cond (.t 37) c5_15 .skip
def c5_17 : SCode := .seq (.region c5_13 [3, 4, 5, 37]) c5_16
def c5_18 : List SOper := [⟨some 38, .q (.mv (.t 3)), none⟩, ⟨some 39, .q (.len (.t 38)), none⟩, ⟨some 40, .a (.mks 8 1 [(.int .i64 0)] (.t 39) (.t 39)), none⟩, ⟨some 6, .q (.mv (.t 40)), none⟩]
def c5_19 : List SOper := [⟨some 7, .q (.mv (.c (.int .i64 0))), none⟩]
def c5_20 : List SOper := [⟨some 41, .q (.mv (.t 7)), none⟩, ⟨some 42, .q (.mv (.t 5)), none⟩, ⟨some 43, .q (.len (.t 42)), none⟩, ⟨some 44, .q (.bin .lss (.t 41) (.t 43)), none⟩]
def c5_21 : SCode := .cond (.t 44) .skip (.exit 0)
def c5_22 : SCode := .seq (.region c5_20 [3, 4, 5, 6, 7, 44]) c5_21
def c5_23 : List SOper := [⟨some 47, .q (.mv (.t 6)), none⟩, ⟨some 48, .q (.mv (.t 5)), none⟩, ⟨some 49, .q (.mv (.t 7)), none⟩, ⟨some 50, .q (.ia 4 (.t 48) (.t 49)), none⟩, ⟨some 51, .q (.fa 0 (.t 50)), none⟩, ⟨some 52, .q (.ld (.t 51)), none⟩, ⟨some 53, .q (.ia 1 (.t 47) (.t 52)), none⟩, ⟨some 54, .q (.ld (.t 53)), none⟩, ⟨some 55, .q (.bin .neq (.t 54) (.c (.int .i64 0))), none⟩, ⟨some 56, .q (.mv (.t 55)), none⟩, ⟨some 57, .q (.mv (.t 5)), some (56, false)⟩, ⟨some 58, .q (.mv (.t 7)), some (56, false)⟩, ⟨some 59, .q (.ia 4 (.t 57) (.t 58)), some (56, false)⟩, ⟨some 60, .q (.fa 3 (.t 59)), some (56, false)⟩, ⟨some 61, .q (.ld (.t 60)), some (56, false)⟩, ⟨some 62, .q (.mv (.t 5)), some (56, false)⟩, ⟨some 63, .q (.mv (.t 7)), some (56, false)⟩, ⟨some 64, .q (.ia 4 (.t 62) (.t 63)), some (56, false)⟩, ⟨some 65, .q (.fa 2 (.t 64)), some (56, false)⟩, ⟨some 66, .q (.ld (.t 65)), some (56, false)⟩, ⟨some 67, .q (.bin .sub (.t 61) (.t 66)), some (56, false)⟩, ⟨some 68, .q (.mv (.t 3)), some (56, false)⟩, ⟨some 69, .q (.mv (.t 5)), some (56, false)⟩, ⟨some 70, .q (.mv (.t 7)), some (56, false)⟩, ⟨some 71, .q (.ia 4 (.t 69) (.t 70)), some (56, false)⟩, ⟨some 72, .q (.fa 0 (.t 71)), some (56, false)⟩, ⟨some 73, .q (.ld (.t 72)), some (56, false)⟩, ⟨some 74, .q (.ia 4 (.t 68) (.t 73)), some (56, false)⟩, ⟨some 75, .q (.fa 3 (.t 74)), some (56, false)⟩, ⟨some 76, .q (.ld (.t 75)), some (56, false)⟩, ⟨some 77, .q (.bin .neq (.t 67) (.t 76)), some (56, false)⟩, ⟨some 78, .q (.pick (.t 56) (.c (.bool true)) (.t 77)), none⟩, ⟨some 79, .q (.mv (.t 78)), none⟩, ⟨some 80, .q (.mv (.t 5)), some (79, false)⟩, ⟨some 81, .q (.mv (.t 7)), some (79, false)⟩, ⟨some 82, .q (.ia 4 (.t 80) (.t 81)), some (79, false)⟩, ⟨some 83, .q (.fa 1 (.t 82)), some (79, false)⟩, ⟨some 84, .q (.ld (.t 83)), some (79, false)⟩, ⟨some 85, .q (.bin .lss (.t 84) (.c (.int .i64 0))), some (79, false)⟩, ⟨some 86, .q (.pick (.t 79) (.c (.bool true)) (.t 85)), none⟩, ⟨some 87, .q (.mv (.t 86)), none⟩, ⟨some 88, .q (.mv (.t 5)), some (87, false)⟩, ⟨some 89, .q (.mv (.t 7)), some (87, false)⟩, ⟨some 90, .q (.ia 4 (.t 88) (.t 89)), some (87, false)⟩, ⟨some 91, .q (.fa 1 (.t 90)), some (87, false)⟩, ⟨some 92, .q (.ld (.t 91)), some (87, false)⟩, ⟨some 93, .q (.mv (.t 4)), some (87, false)⟩, ⟨some 94, .q (.bin .geq (.t 92) (.t 93)), some (87, false)⟩, ⟨some 95, .q (.pick (.t 87) (.c (.bool true)) (.t 94)), none⟩]
def c5_24 : List SOper := [⟨some 2, .q (.mv (.c (.bool false))), none⟩]
def c5_25 : SCode := .seq (.region c5_24 [2]) .ret
def c5_26 : SCode := .cond (.t 95) c5_25 .skip
def c5_27 : SCode := .seq (.region c5_23 [3, 4, 5, 6, 7, 95]) c5_26
def c5_28 : List SOper := [⟨some 96, .q (.mv (.t 6)), none⟩, ⟨some 97, .q (.mv (.t 5)), none⟩, ⟨some 98, .q (.mv (.t 7)), none⟩, ⟨some 99, .q (.ia 4 (.t 97) (.t 98)), none⟩, ⟨some 100, .q (.fa 0 (.t 99)), none⟩, ⟨some 101, .q (.ld (.t 100)), none⟩, ⟨some 102, .q (.mv (.t 5)), none⟩, ⟨some 103, .q (.mv (.t 7)), none⟩, ⟨some 104, .q (.ia 4 (.t 102) (.t 103)), none⟩, ⟨some 105, .q (.fa 3 (.t 104)), none⟩, ⟨some 106, .q (.ld (.t 105)), none⟩, ⟨some 107, .q (.ia 1 (.t 96) (.t 101)), none⟩, ⟨none, .e (.st 1 (.t 107) (.t 106)), none⟩]
def c5_29 : List SOper := [⟨some 8, .q (.mv (.c (.int .i64 0))), none⟩]
def c5_30 : List SOper := [⟨some 108, .q (.mv (.t 8)), none⟩, ⟨some 109, .q (.mv (.t 7)), none⟩, ⟨some 110, .q (.bin .lss (.t 108) (.t 109)), none⟩]
def c5_31 : SCode := .cond (.t 110) .skip (.exit 2)
def c5_32 : SCode := .seq (.region c5_30 [3, 4, 5, 6, 7, 8, 110]) c5_31
def c5_33 : List SOper := [⟨some 113, .q (.mv (.t 5)), none⟩, ⟨some 114, .q (.mv (.t 8)), none⟩, ⟨some 115, .q (.ia 4 (.t 113) (.t 114)), none⟩, ⟨some 116, .q (.fa 1 (.t 115)), none⟩, ⟨some 117, .q (.ld (.t 116)), none⟩, ⟨some 118, .q (.mv (.t 5)), none⟩, ⟨some 119, .q (.mv (.t 7)), none⟩, ⟨some 120, .q (.ia 4 (.t 118) (.t 119)), none⟩, ⟨some 121, .q (.fa 1 (.t 120)), none⟩, ⟨some 122, .q (.ld (.t 121)), none⟩, ⟨some 123, .q (.bin .eql (.t 117) (.t 122)), none⟩, ⟨some 124, .q (.mv (.t 123)), none⟩, ⟨some 125, .q (.mv (.t 5)), some (124, true)⟩, ⟨some 126, .q (.mv (.t 8)), some (124, true)⟩, ⟨some 127, .q (.ia 4 (.t 125) (.t 126)), some (124, true)⟩, ⟨some 128, .q (.fa 3 (.t 127)), some (124, true)⟩, ⟨some 129, .q (.ld (.t 128)), some (124, true)⟩, ⟨some 130, .q (.mv (.t 5)), some (124, true)⟩, ⟨some 131, .q (.mv (.t 7)), some (124, true)⟩, ⟨some 132, .q (.ia 4 (.t 130) (.t 131)), some (124, true)⟩, ⟨some 133, .q (.fa 2 (.t 132)), some (124, true)⟩, ⟨some 134, .q (.ld (.t 133)), some (124, true)⟩, ⟨some 135, .q (.bin .gtr (.t 129) (.t 134)), some (124, true)⟩, ⟨some 136, .q (.pick (.t 124) (.t 135) (.c (.bool false))), none⟩]
def c5_34 : List SOper := [⟨some 2, .q (.mv (.c (.bool false))), none⟩]
def c5_35 : SCode := .seq (.region c5_34 [2]) .ret
def c5_36 : SCode := .cond (.t 136) c5_35 .skip
def c5_37 : SCode := .seq (.region c5_33 [3, 4, 5, 6, 7, 8, 136]) c5_36
def c5_38 : SCode := .block 3 c5_37
def c5_39 : List SOper := [⟨some 111, .q (.mv (.t 8)), none⟩, ⟨some 112, .q (.bin .add (.t 111) (.c (.int .i64 1))), none⟩, ⟨some 8, .q (.mv (.t 112)), none⟩]
def c5_40 : SCode := .seq c5_38 (.region c5_39 [3, 4, 5, 6, 7, 8])
def c5_41 : SCode := .seq c5_32 c5_40
def c5_42 : SCode := .loop c5_41
def c5_43 : SCode := .block 2 c5_42
def c5_44 : SCode := .seq (.region c5_29 [3, 4, 5, 6, 7, 8]) c5_43
def c5_45 : SCode := .seq (.region c5_28 [3, 4, 5, 6, 7]) c5_44
def c5_46 : SCode := .seq c5_27 c5_45
def c5_47 : SCode := .block 1 c5_46
def c5_48 : List SOper := [⟨some 45, .q (.mv (.t 7)), none⟩, ⟨some 46, .q (.bin .add (.t 45) (.c (.int .i64 1))), none⟩, ⟨some 7, .q (.mv (.t 46)), none⟩]
def c5_49 : SCode := .seq c5_47 (.region c5_48 [3, 4, 5, 6, 7])
def c5_50 : SCode := .seq c5_22 c5_49
def c5_51 : SCode := .loop c5_50
def c5_52 : SCode := .block 0 c5_51
def c5_53 : SCode := .seq (.region c5_19 [3, 4, 5, 6, 7]) c5_52
def c5_54 : List SOper := [⟨some 9, .q (.mv (.c (.int .i64 0))), none⟩]
def c5_55 : List SOper := [⟨some 10, .q (.mv (.c (.int .i64 0))), none⟩]
def c5_56 : List SOper := [⟨some 137, .q (.mv (.t 10)), none⟩, ⟨some 138, .q (.mv (.t 5)), none⟩, ⟨some 139, .q (.len (.t 138)), none⟩, ⟨some 140, .q (.bin .lss (.t 137) (.t 139)), none⟩]
def c5_57 : SCode := .cond (.t 140) .skip (.exit 4)
def c5_58 : SCode := .seq (.region c5_56 [3, 5, 6, 9, 10, 140]) c5_57
def c5_59 : List SOper := [⟨some 143, .q (.mv (.t 3)), none⟩, ⟨some 144, .q (.mv (.t 5)), none⟩, ⟨some 145, .q (.mv (.t 10)), none⟩, ⟨some 146, .q (.ia 4 (.t 144) (.t 145)), none⟩, ⟨some 147, .q (.fa 0 (.t 146)), none⟩, ⟨some 148, .q (.ld (.t 147)), none⟩, ⟨some 149, .q (.ia 4 (.t 143) (.t 148)), none⟩, ⟨some 150, .q (.ldn 4 (.t 149)), none⟩, ⟨some 11, .a (.new [(.int .i64 0), (.int .i64 0), (.slice none 0 0), (.int .i64 0)]), none⟩, ⟨none, .e (.st 4 (.t 11) (.t 150)), none⟩]
def c5_60 : List SOper := [⟨some 151, .q (.mv (.t 9)), none⟩, ⟨some 152, .q (.fa 3 (.t 11)), none⟩, ⟨some 153, .q (.ld (.t 152)), none⟩, ⟨some 154, .q (.bin .add (.t 151) (.t 153)), none⟩, ⟨some 9, .q (.mv (.t 154)), none⟩]
def c5_61 : List SOper := [⟨some 12, .q (.mv (.c (.int .i64 0))), none⟩]
def c5_62 : List SOper := [⟨some 155, .q (.mv (.t 12)), none⟩, ⟨some 156, .q (.fa 2 (.t 11)), none⟩, ⟨some 157, .q (.ld (.t 156)), none⟩, ⟨some 158, .q (.len (.t 157)), none⟩, ⟨some 159, .q (.bin .lss (.t 155) (.t 158)), none⟩]
def c5_63 : SCode := .cond (.t 159) .skip (.exit 6)
def c5_64 : SCode := .seq (.region c5_62 [3, 5, 6, 9, 10, 11, 12, 159]) c5_63
def c5_65 : List SOper := [⟨some 162, .q (.mv (.t 6)), none⟩, ⟨some 163, .q (.fa 2 (.t 11)), none⟩, ⟨some 164, .q (.ld (.t 163)), none⟩, ⟨some 165, .q (.mv (.t 12)), none⟩, ⟨some 166, .q (.ia 1 (.t 164) (.t 165)), none⟩, ⟨some 167, .q (.ld (.t 166)), none⟩, ⟨some 168, .q (.ia 1 (.t 162) (.t 167)), none⟩, ⟨some 169, .q (.ld (.t 168)), none⟩, ⟨some 170, .q (.mv (.t 5)), none⟩, ⟨some 171, .q (.mv (.t 10)), none⟩, ⟨some 172, .q (.ia 4 (.t 170) (.t 171)), none⟩, ⟨some 173, .q (.fa 2 (.t 172)), none⟩, ⟨some 174, .q (.ld (.t 173)), none⟩, ⟨some 175, .q (.bin .gtr (.t 169) (.t 174)), none⟩]
def c5_66 : List SOper := [⟨some 2, .q (.mv (.c (.bool false))), none⟩]
def c5_67 : SCode := .seq (.region c5_66 [2]) .ret
def c5_68 : SCode := .cond (.t 175) c5_67 .skip
def c5_69 : SCode := .seq (.region c5_65 [3, 5, 6, 9, 10, 11, 12, 175]) c5_68
def c5_70 : SCode := .block 7 c5_69
def c5_71 : List SOper := [⟨some 160, .q (.mv (.t 12)), none⟩, ⟨some 161, .q (.bin .add (.t 160) (.c (.int .i64 1))), none⟩, ⟨some 12, .q (.mv (.t 161)), none⟩]
def c5_72 : SCode := .seq c5_70 (.region c5_71 [3, 5, 6, 9, 10, 11, 12])
def c5_73 : SCode := .seq c5_64 c5_72
def c5_74 : SCode := .loop c5_73
def c5_75 : SCode := .block 6 c5_74
def c5_76 : SCode := .seq (.region c5_61 [3, 5, 6, 9, 10, 11, 12]) c5_75
def c5_77 : SCode := .seq (.region c5_60 [3, 5, 6, 9, 10, 11]) c5_76
def c5_78 : SCode := .seq (.region c5_59 [3, 5, 6, 9, 10, 11]) c5_77
def c5_79 : SCode := .block 5 c5_78
def c5_80 : List SOper := [⟨some 141, .q (.mv (.t 10)), none⟩, ⟨some 142, .q (.bin .add (.t 141) (.c (.int .i64 1))), none⟩, ⟨some 10, .q (.mv (.t 142)), none⟩]
def c5_81 : SCode := .seq c5_79 (.region c5_80 [3, 5, 6, 9, 10])
def c5_82 : SCode := .seq c5_58 c5_81
def c5_83 : SCode := .loop c5_82
def c5_84 : SCode := .block 4 c5_83
def c5_85 : SCode := .seq (.region c5_55 [3, 5, 6, 9, 10]) c5_84
def c5_86 : List SOper := [⟨some 176, .q (.mv (.t 3)), none⟩, ⟨some 177, .e (.call 22 [(.t 176), (.c (.int .i64 1))]), none⟩, ⟨some 178, .e (.call 24 [(.t 177)]), none⟩, ⟨some 179, .q (.mv (.t 9)), none⟩, ⟨some 180, .q (.bin .eql (.t 178) (.t 179)), none⟩, ⟨some 181, .q (.mv (.t 180)), none⟩, ⟨some 182, .q (.mv (.t 5)), some (181, true)⟩, ⟨some 183, .e (.call 24 [(.t 182)]), some (181, true)⟩, ⟨some 184, .q (.mv (.t 3)), some (181, true)⟩, ⟨some 185, .e (.call 25 [(.t 184)]), some (181, true)⟩, ⟨some 186, .q (.bin .geq (.t 183) (.t 185)), some (181, true)⟩, ⟨some 187, .q (.pick (.t 181) (.t 186) (.c (.bool false))), none⟩, ⟨some 188, .q (.mv (.t 187)), none⟩, ⟨some 189, .q (.mv (.t 5)), some (188, true)⟩, ⟨some 190, .e (.call 24 [(.t 189)]), some (188, true)⟩, ⟨some 191, .q (.mv (.t 9)), some (188, true)⟩, ⟨some 192, .q (.bin .leq (.t 190) (.t 191)), some (188, true)⟩, ⟨some 193, .q (.pick (.t 188) (.t 192) (.c (.bool false))), none⟩, ⟨some 194, .q (.mv (.t 193)), none⟩, ⟨some 195, .q (.mv (.t 3)), some (194, true)⟩, ⟨some 196, .q (.len (.t 195)), some (194, true)⟩, ⟨some 197, .q (.bin .gtr (.t 196) (.c (.int .i64 50))), some (194, true)⟩, ⟨some 198, .q (.mv (.t 197)), some (194, true)⟩, ⟨some 199, .q (.mv (.t 3)), some (198, false)⟩, ⟨some 200, .e (.call 22 [(.t 199), (.c (.int .i64 50))]), some (198, false)⟩, ⟨some 201, .e (.call 24 [(.t 200)]), some (198, false)⟩, ⟨some 202, .q (.mv (.t 3)), some (198, false)⟩, ⟨some 203, .e (.call 25 [(.t 202)]), some (198, false)⟩, ⟨some 204, .q (.bin .eql (.t 201) (.t 203)), some (198, false)⟩, ⟨some 205, .q (.pick (.t 198) (.c (.bool true)) (.t 204)), some (194, true)⟩, ⟨some 206, .q (.pick (.t 194) (.t 205) (.c (.bool false))), none⟩, ⟨some 2, .q (.mv (.t 206)), none⟩]
def c5_87 : SCode := .seq (.region c5_86 [2]) .ret
def c5_88 : SCode := .seq c5_85 c5_87
def c5_89 : SCode := .seq (.region c5_54 [3, 5, 6, 9]) c5_88
def c5_90 : SCode := .seq c5_53 c5_89
def c5_91 : SCode := .seq (.region c5_18 [3, 4, 5, 6]) c5_90
def c5_92 : SCode := .seq c5_17 c5_91
def c5_93 : SCode := .seq c5_12 c5_92
def c5_94 : SCode := .seq (.region c5_7 [3, 4, 5]) c5_93
def c5_95 : SCode := .seq (.region c5_6 [3, 4]) c5_94
def c5_96 : SCode := .seq c5_5 c5_95
def c5_97 : SCode := .seq (.region c5_0 [0]) c5_96
def c5 : SCode := c5_97
theorem w5 : type_of% (And.intro (uR Try.prog c5_0.eq_1) (And.intro (uR Try.prog c5_1.eq_1) (And.intro (uR Try.prog c5_2.eq_1) (And.intro (uC Try.prog c5_3.eq_1) (And.intro (uC Try.prog c5_4.eq_1) (And.intro (uC Try.prog c5_5.eq_1) (And.intro (uR Try.prog c5_6.eq_1) (And.intro (uR Try.prog c5_7.eq_1) (And.intro (uR Try.prog c5_8.eq_1) (And.intro (uR Try.prog c5_9.eq_1) (And.intro (uC Try.prog c5_10.eq_1) (And.intro (uC Try.prog c5_11.eq_1) (And.intro (uC Try.prog c5_12.eq_1) (And.intro (uR Try.prog c5_13.eq_1) (And.intro (uR Try.prog c5_14.eq_1) (And.intro (uC Try.prog c5_15.eq_1) (And.intro (uC Try.prog c5_16.eq_1) (And.intro (uC Try.prog c5_17.eq_1) (And.intro (uR Try.prog c5_18.eq_1) (And.intro (uR Try.prog c5_19.eq_1) (And.intro (uR Try.prog c5_20.eq_1) (And.intro (uC Try.prog c5_21.eq_1) (And.intro (uC Try.prog c5_22.eq_1) (And.intro (uR Try.prog c5_23.eq_1) (And.intro (uR Try.prog c5_24.eq_1) (And.intro (uC Try.prog c5_25.eq_1) (And.intro (uC Try.prog c5_26.eq_1) (And.intro (uC Try.prog c5_27.eq_1) (And.intro (uR Try.prog c5_28.eq_1) (And.intro (uR Try.prog c5_29.eq_1) (And.intro (uR Try.prog c5_30.eq_1) (And.intro (uC Try.prog c5_31.eq_1) (And.intro (uC Try.prog c5_32.eq_1) (And.intro (uR Try.prog c5_33.eq_1) (And.intro (uR Try.prog c5_34.eq_1) (And.intro (uC Try.prog c5_35.eq_1) (And.intro (uC Try.prog c5_36.eq_1) (And.intro (uC Try.prog c5_37.eq_1) (And.intro (uC Try.prog c5_38.eq_1) (And.intro (uR Try.prog c5_39.eq_1) (And.intro (uC Try.prog c5_40.eq_1) (And.intro (uC Try.prog c5_41.eq_1) (And.intro (uC Try.prog c5_42.eq_1) (And.intro (uC Try.prog c5_43.eq_1) (And.intro (uC Try.prog c5_44.eq_1) (And.intro (uC Try.prog c5_45.eq_1) (And.intro (uC Try.prog c5_46.eq_1) (And.intro (uC Try.prog c5_47.eq_1) (And.intro (uR Try.prog c5_48.eq_1) (And.intro (uC Try.prog c5_49.eq_1) (And.intro (uC Try.prog c5_50.eq_1) (And.intro (uC Try.prog c5_51.eq_1) (And.intro (uC Try.prog c5_52.eq_1) (And.intro (uC Try.prog c5_53.eq_1) (And.intro (uR Try.prog c5_54.eq_1) (And.intro (uR Try.prog c5_55.eq_1) (And.intro (uR Try.prog c5_56.eq_1) (And.intro (uC Try.prog c5_57.eq_1) (And.intro (uC Try.prog c5_58.eq_1) (And.intro (uR Try.prog c5_59.eq_1) (And.intro (uR Try.prog c5_60.eq_1) (And.intro (uR Try.prog c5_61.eq_1) (And.intro (uR Try.prog c5_62.eq_1) (And.intro (uC Try.prog c5_63.eq_1) (And.intro (uC Try.prog c5_64.eq_1) (And.intro (uR Try.prog c5_65.eq_1) (And.intro (uR Try.prog c5_66.eq_1) (And.intro (uC Try.prog c5_67.eq_1) (And.intro (uC Try.prog c5_68.eq_1) (And.intro (uC Try.prog c5_69.eq_1) (And.intro (uC Try.prog c5_70.eq_1) (And.intro (uR Try.prog c5_71.eq_1) (And.intro (uC Try.prog c5_72.eq_1) (And.intro (uC Try.prog c5_73.eq_1) (And.intro (uC Try.prog c5_74.eq_1) (And.intro (uC Try.prog c5_75.eq_1) (And.intro (uC Try.prog c5_76.eq_1) (And.intro (uC Try.prog c5_77.eq_1) (And.intro (uC Try.prog c5_78.eq_1) (And.intro (uC Try.prog c5_79.eq_1) (And.intro (uR Try.prog c5_80.eq_1) (And.intro (uC Try.prog c5_81.eq_1) (And.intro (uC Try.prog c5_82.eq_1) (And.intro (uC Try.prog c5_83.eq_1) (And.intro (uC Try.prog c5_84.eq_1) (And.intro (uC Try.prog c5_85.eq_1) (And.intro (uR Try.prog c5_86.eq_1) (And.intro (uC Try.prog c5_87.eq_1) (And.intro (uC Try.prog c5_88.eq_1) (And.intro (uC Try.prog c5_89.eq_1) (And.intro (uC Try.prog c5_90.eq_1) (And.intro (uC Try.prog c5_91.eq_1) (And.intro (uC Try.prog c5_92.eq_1) (And.intro (uC Try.prog c5_93.eq_1) (And.intro (uC Try.prog c5_94.eq_1) (And.intro (uC Try.prog c5_95.eq_1) (And.intro (uC Try.prog c5_96.eq_1) (And.intro (uC Try.prog c5_97.eq_1) (uC Try.prog c5.eq_1))))))))))))))))))))))))))))))))))))))))))))))))))))))))))))))))))))))))))))))))))))))))))))))))))) := (And.intro (uR Try.prog c5_0.eq_1) (And.intro (uR Try.prog c5_1.eq_1) (And.intro (uR Try.prog c5_2.eq_1) (And.intro (uC Try.prog c5_3.eq_1) (And.intro (uC Try.prog c5_4.eq_1) (And.intro (uC Try.prog c5_5.eq_1) (And.intro (uR Try.prog c5_6.eq_1) (And.intro (uR Try.prog c5_7.eq_1) (And.intro (uR Try.prog c5_8.eq_1) (And.intro (uR Try.prog c5_9.eq_1) (And.intro (uC Try.prog c5_10.eq_1) (And.intro (uC Try.prog c5_11.eq_1) (And.intro (uC Try.prog c5_12.eq_1) (And.intro (uR Try.prog c5_13.eq_1) (And.intro (uR Try.prog c5_14.eq_1) (And.intro (uC Try.prog c5_15.eq_1) (And.intro (uC Try.prog c5_16.eq_1) (And.intro (uC Try.prog c5_17.eq_1) (And.intro (uR Try.prog c5_18.eq_1) (And.intro (uR Try.prog c5_19.eq_1) (And.intro (uR Try.prog c5_20.eq_1) (And.intro (uC Try.prog c5_21.eq_1) (And.intro (uC Try.prog c5_22.eq_1) (And.intro (uR Try.prog c5_23.eq_1) (And.intro (uR Try.prog c5_24.eq_1) (And.intro (uC Try.prog c5_25.eq_1) (And.intro (uC Try.prog c5_26.eq_1) (And.intro (uC Try.prog c5_27.eq_1) (And.intro (uR Try.prog c5_28.eq_1) (And.intro (uR Try.prog c5_29.eq_1) (And.intro (uR Try.prog c5_30.eq_1) (And.intro (uC Try.prog c5_31.eq_1) (And.intro (uC Try.prog c5_32.eq_1) (And.intro (uR Try.prog c5_33.eq_1) (And.intro (uR Try.prog c5_34.eq_1) (And.intro (uC Try.prog c5_35.eq_1) (And.intro (uC Try.prog c5_36.eq_1) (And.intro (uC Try.prog c5_37.eq_1) (And.intro (uC Try.prog c5_38.eq_1) (And.intro (uR Try.prog c5_39.eq_1) (And.intro (uC Try.prog c5_40.eq_1) (And.intro (uC Try.prog c5_41.eq_1) (And.intro (uC Try.prog c5_42.eq_1) (And.intro (uC Try.prog c5_43.eq_1) (And.intro (uC Try.prog c5_44.eq_1) (And.intro (uC Try.prog c5_45.eq_1) (And.intro (uC Try.prog c5_46.eq_1) (And.intro (uC Try.prog c5_47.eq_1) (And.intro (uR Try.prog c5_48.eq_1) (And.intro (uC Try.prog c5_49.eq_1) (And.intro (uC Try.prog c5_50.eq_1) (And.intro (uC Try.prog c5_51.eq_1) (And.intro (uC Try.prog c5_52.eq_1) (And.intro (uC Try.prog c5_53.eq_1) (And.intro (uR Try.prog c5_54.eq_1) (And.intro (uR Try.prog c5_55.eq_1) (And.intro (uR Try.prog c5_56.eq_1) (And.intro (uC Try.prog c5_57.eq_1) (And.intro (uC Try.prog c5_58.eq_1) (And.intro (uR Try.prog c5_59.eq_1) (And.intro (uR Try.prog c5_60.eq_1) (And.intro (uR Try.prog c5_61.eq_1) (And.intro (uR Try.prog c5_62.eq_1) (And.intro (uC Try.prog c5_63.eq_1) (And.intro (uC Try.prog c5_64.eq_1) (And.intro (uR Try.prog c5_65.eq_1) (And.intro (uR Try.prog c5_66.eq_1) (And.intro (uC Try.prog c5_67.eq_1) (And.intro (uC Try.prog c5_68.eq_1) (And.intro (uC Try.prog c5_69.eq_1) (And.intro (uC Try.prog c5_70.eq_1) (And.intro (uR Try.prog c5_71.eq_1) (And.intro (uC Try.prog c5_72.eq_1) (And.intro (uC Try.prog c5_73.eq_1) (And.intro (uC Try.prog c5_74.eq_1) (And.intro (uC Try.prog c5_75.eq_1) (And.intro (uC Try.prog c5_76.eq_1) (And.intro (uC Try.prog c5_77.eq_1) (And.intro (uC Try.prog c5_78.eq_1) (And.intro (uC Try.prog c5_79.eq_1) (And.intro (uR Try.prog c5_80.eq_1) (And.intro (uC Try.prog c5_81.eq_1) (And.intro (uC Try.prog c5_82.eq_1) (And.intro (uC Try.prog c5_83.eq_1) (And.intro (uC Try.prog c5_84.eq_1) (And.intro (uC Try.prog c5_85.eq_1) (And.intro (uR Try.prog c5_86.eq_1) (And.intro (uC Try.prog c5_87.eq_1) (And.intro (uC Try.prog c5_88.eq_1) (And.intro (uC Try.prog c5_89.eq_1) (And.intro (uC Try.prog c5_90.eq_1) (And.intro (uC Try.prog c5_91.eq_1) (And.intro (uC Try.prog c5_92.eq_1) (And.intro (uC Try.prog c5_93.eq_1) (And.intro (uC Try.prog c5_94.eq_1) (And.intro (uC Try.prog c5_95.eq_1) (And.intro (uC Try.prog c5_96.eq_1) (And.intro (uC Try.prog c5_97.eq_1) (uC Try.prog c5.eq_1)))))))))))))))))))))))))))))))))))))))))))))))))))))))))))))))))))))))))))))))))))))))))))))))))))
def v5 : List RV := [.t 2]
theorem s5 : slimF Try.prog Try.f5 = some (c5.bare, v5) := by kernel_rfl

def endsF (n : Nat) (L : List Run) : List Int := L.foldl (fun E r => E.set r.task.toNat r.to) (List.replicate n 0)
theorem endsF_len (n : Nat) (L : List Run) : (endsF n L).length = n := by
  have key : ∀ (L : List Run) (E : List Int), (L.foldl (fun E r => E.set r.task.toNat r.to) E).length = E.length := by
    intro L
    induction L with
    | nil => intro E; rfl
    | cons r L ih => intro E; rw [List.foldl_cons, ih]; simp
  unfold endsF; rw [key]; simp
theorem endsF_take (n : Nat) (L : List Run) {i : Nat} (hi : i < L.length) : endsF n (L.take (i + 1)) = (endsF n (L.take i)).set L[i].task.toNat L[i].to := by
  unfold endsF
  rw [List.take_add_one, List.getElem?_eq_getElem hi, Option.toList_some, List.foldl_append]; rfl
theorem endsF_get (n : Nat) (L : List Run) (t : Nat) (ht : t < n) : (endsF n L).getD t 0 = 0 ∨ ∃ r ∈ L, r.task.toNat = t ∧ (endsF n L).getD t 0 = r.to := by
  have key : ∀ m, m ≤ L.length → (endsF n (L.take m)).getD t 0 = 0 ∨ ∃ r ∈ L.take m, r.task.toNat = t ∧ (endsF n (L.take m)).getD t 0 = r.to := by
    intro m
    induction m with
    | zero => intro _; left; simp [endsF, List.getD, List.getElem?_replicate, ht]
    | succ m ih =>
      intro hm
      have hm' : m < L.length := by omega
      rw [endsF_take n L hm']
      by_cases e : L[m].task.toNat = t
      · right
        refine ⟨L[m], ?_, e, ?_⟩
        · rw [List.take_succ_eq_append_getElem hm']; exact List.mem_append_right _ (List.mem_singleton.mpr rfl)
        · rw [getD_set0 _ _ _ _ (by rw [endsF_len]; omega), if_pos e.symm]
      · have e2 : ((endsF n (L.take m)).set L[m].task.toNat L[m].to).getD t 0 = (endsF n (L.take m)).getD t 0 := by
          simp only [List.getD]; rw [List.getElem?_set_ne e]
        rw [e2]
        rcases ih (by omega) with h | ⟨r, hr, h1, h2⟩
        · exact .inl h
        · exact .inr ⟨r, by rw [List.take_succ_eq_append_getElem hm']; exact List.mem_append_left _ hr, h1, h2⟩
  have := key L.length (Nat.le_refl _)
  rw [List.take_length] at this; exact this
structure Fin (job : List Task) (w : Int) (L : List Run) : Prop where
  len : L.length = job.length
  at' : ∀ r ∈ L, ∃ t k : Nat, r.task = (t : Int) ∧ t < job.length ∧ r.worker = (k : Int) ∧ (k : Int) < w ∧ r.to = r.fr + costAt job t ∧ 0 ≤ r.fr
  apart : ∀ k i (hk : k < L.length) (hi : i < L.length), k < i → L[k].task ≠ L[i].task ∧ (L[k].worker = L[i].worker → L[k].to ≤ L[i].fr)
  need : ∀ r ∈ L, ∀ n ∈ needsAt job r.task.toNat, ∀ r' ∈ L, r'.task = n → r'.to ≤ r.fr
  tot : (L.map fun r => costAt job r.task.toNat).sum = totJ job
theorem farm_fin {job : List Task} {w : Int} (hj : jobOk job) (h1 : 1 ≤ w) (h2 : w ≤ 50) : Fin job w (farmF job w) := by
  obtain ⟨c, now, o, q, e, hl⟩ := farm_all w hj h1 h2
  rw [e]
  refine ⟨hl, fun r hr => ?_, fun k i hk hi hki => ?_, fun r hr n hn r' hr' e' => ?_, ?_⟩
  · have a := q.rng r hr
    have b := q.val r hr
    exact ⟨r.task.toNat, r.worker.toNat, by omega, a.2.1, by omega, by omega, b.2.1, b.2.2.1⟩
  · exact List.pairwise_iff_getElem.mp q.apart k i hk hi hki
  · have a := q.need r hr n hn
    have b := q.val r' hr'
    rw [e'] at b
    omega
  · rw [← (q.total o hl).1]
    unfold totR
    congr 1
    refine List.map_congr_left fun r hr => ?_
    have := (q.val r hr).2.1
    omega
theorem sum_take (f : Run → Int) (L : List Run) {i : Nat} (hi : i < L.length) : ((L.take (i + 1)).map f).sum = ((L.take i).map f).sum + f L[i] := by
  rw [List.take_succ_eq_append_getElem hi, List.map_append, List.sum_append]
  simp only [List.map_cons, List.map_nil, List.sum_cons, List.sum_nil, Int.add_zero]
theorem sum_bd {job : List Task} (hj : jobIn job) (L : List Run) (hL : ∀ r ∈ L, r.task.toNat < job.length) : ∀ i, i ≤ L.length → 0 ≤ ((L.take i).map fun r => costAt job r.task.toNat).sum ∧ ((L.take i).map fun r => costAt job r.task.toNat).sum ≤ 1000 * (i : Int) := by
  intro i
  induction i with
  | zero => intro _; simp
  | succ i ih =>
    intro hi
    rw [sum_take _ _ (by omega)]
    have := ih (by omega)
    have := cost_in hj (hL _ (List.getElem_mem (show i < L.length by omega)))
    omega
theorem FnFarmed_ok (h : Heap) (v : Value) (code : List Int) (s : SlT h encByte 1 v code) (hl : code.length ≤ 9223372036854775807) :
    ACall Try.prog 5 [v] h fun r h' => r = .bool true := by
  refine ACall.of Try.func5 s5 (of_decide_eq_true rfl) ?_
  simp (maxSteps := 4000000) (disch := omega) only [ah, am, Nat.reduceEqDiff, reduceCtorEq, Nat.reduceAdd, Nat.reduceLeDiff, Nat.reduceMul, Nat.reduceLT, if_true, if_false, true_and, and_true, and_self, Nat.reduceBEq, QOp.loads, boxO, bslO, buildO, cutL, fillV, putL, w5, v5]
  refine stepC.of (big_ok _ _ _ s) ?_
  rintro _ Hx ⟨hx, rfl⟩; rw [hx]; clear hx Hx
  by_cases hbig : (4096 : Int) < code.length
  · simp (maxSteps := 4000000) (disch := omega) only [ah, am, Nat.reduceEqDiff, reduceCtorEq, Nat.reduceAdd, Nat.reduceLeDiff, Nat.reduceMul, Nat.reduceLT, if_true, if_false, true_and, and_true, and_self, Nat.reduceBEq, QOp.loads, boxO, bslO, buildO, cutL, fillV, putL, w5, v5, decide_eq_true hbig]
  simp (maxSteps := 4000000) (disch := omega) only [ah, am, Nat.reduceEqDiff, reduceCtorEq, Nat.reduceAdd, Nat.reduceLeDiff, Nat.reduceMul, Nat.reduceLT, if_true, if_false, true_and, and_true, and_self, Nat.reduceBEq, QOp.loads, boxO, bslO, buildO, cutL, fillV, putL, w5, v5, decide_eq_false hbig]
  refine stepC.of (DrawFarm_ok _ _ _ s (by omega)) ?_
  rintro _ H1 ⟨jv, w, j, rfl, e1, J, hjl⟩
  simp (maxSteps := 4000000) (disch := omega) only [ah, am, Nat.reduceEqDiff, reduceCtorEq, Nat.reduceAdd, Nat.reduceLeDiff, Nat.reduceMul, Nat.reduceLT, if_true, if_false, true_and, and_true, and_self, Nat.reduceBEq, QOp.loads, boxO, bslO, buildO, cutL, fillV, putL, w5, v5]
  refine stepC.of (Farm_ok _ _ _ w J (by omega)) ?_
  intro lv H2 F2
  have J := J.ext F2.1
  have R0 := F2.slt.rulesN
  simp (maxSteps := 4000000) (disch := omega) only [ah, am, Nat.reduceEqDiff, reduceCtorEq, Nat.reduceAdd, Nat.reduceLeDiff, Nat.reduceMul, Nat.reduceLT, if_true, if_false, true_and, and_true, and_self, Nat.reduceBEq, QOp.loads, boxO, bslO, buildO, cutL, fillV, putL, w5, v5, R0.1]
  refine stepC.of (specFarm_ok _ _ _ w J (by omega)) ?_
  intro lv2 K F3
  have J := J.ext F3.1
  have sl := F2.slt.ext F3.1
  have R2 := F3.slt.rulesN
  have R1 := sl.rulesN
  clear F2 F3 e1 R0
  simp (maxSteps := 4000000) (disch := omega) only [ah, am, Nat.reduceEqDiff, reduceCtorEq, Nat.reduceAdd, Nat.reduceLeDiff, Nat.reduceMul, Nat.reduceLT, if_true, if_false, true_and, and_true, and_self, Nat.reduceBEq, QOp.loads, boxO, bslO, buildO, cutL, fillV, putL, w5, v5, R1.1, R2.1, eq_self, decide_true, Bool.not_true]
  by_cases hz : (farmF j w).length = 0
  · have hz' : decide (((farmF j w).length : Int) = 0) = true := decide_eq_true (by omega)
    simp (maxSteps := 4000000) (disch := omega) only [ah, am, Nat.reduceEqDiff, reduceCtorEq, Nat.reduceAdd, Nat.reduceLeDiff, Nat.reduceMul, Nat.reduceLT, if_true, if_false, true_and, and_true, and_self, Nat.reduceBEq, QOp.loads, boxO, bslO, buildO, cutL, fillV, putL, w5, v5, R1.1, hz']
  have hz' : decide (((farmF j w).length : Int) = 0) = false := decide_eq_false (by omega)
  by_cases h60 : (60 : Int) < (farmF j w).length
  · simp (maxSteps := 4000000) (disch := omega) only [ah, am, Nat.reduceEqDiff, reduceCtorEq, Nat.reduceAdd, Nat.reduceLeDiff, Nat.reduceMul, Nat.reduceLT, if_true, if_false, true_and, and_true, and_self, Nat.reduceBEq, QOp.loads, boxO, bslO, buildO, cutL, fillV, putL, w5, v5, R1.1, hz', decide_eq_true h60]
  simp (maxSteps := 4000000) (disch := omega) only [ah, am, Nat.reduceEqDiff, reduceCtorEq, Nat.reduceAdd, Nat.reduceLeDiff, Nat.reduceMul, Nat.reduceLT, if_true, if_false, true_and, and_true, and_self, Nat.reduceBEq, QOp.loads, boxO, bslO, buildO, cutL, fillV, putL, w5, v5, R1.1, hz', decide_eq_false h60]
  have hok : jobOk j ∧ 1 ≤ w ∧ w ≤ 50 := by
    by_cases q : jobOk j ∧ 1 ≤ w ∧ w ≤ 50
    · exact q
    · exfalso; apply hz; unfold farmF; rw [if_neg q]; rfl
  obtain ⟨hj, w1, w2⟩ := hok
  have hf := farm_fin hj w1 w2
  have h0 : 0 < j.length := by have := hf.len; omega
  obtain ⟨T1, T2, T3, T4⟩ := farm_times hj w1 w2 h0
  have hk := hj.in
  generalize farmF j w = L at sl R1 R2 hz h60 hf T2 T3 ⊢
  have hlen := hf.len
  obtain ⟨rs, sj, hln, Hr⟩ := id J
  have Rj := sj.rulesN
  simp only [hln] at Rj
  simp (maxSteps := 4000000) (disch := omega) only [ah, am, Nat.reduceEqDiff, reduceCtorEq, Nat.reduceAdd, Nat.reduceLeDiff, Nat.reduceMul, Nat.reduceLT, if_true, if_false, true_and, and_true, and_self, Nat.reduceBEq, QOp.loads, boxO, bslO, buildO, cutL, fillV, putL, w5, v5, Rj.1, mksV_nat]
  have Fe : Fk [] K (K.more [(List.replicate j.length [.int .i64 0]).flatten]) encI 1 (.slice (some ⟨K.size, 0, none⟩) j.length 1) (endsF j.length []) [] := Fk.of (Fresh.newR K j.length (0 : Int) encI_len (by omega))
  generalize K.more [(List.replicate j.length [.int .i64 0]).flatten] = K1 at Fe ⊢
  generalize hev : (Value.slice (some ⟨K.size, 0, none⟩) j.length 1) = ev at Fe ⊢
  clear hev
  refine SW_loop_to 0 (fun E H => Fk [] K H encI 1 ev (endsF j.length L) [] ∧ ∃ t, E = (3, jv) :: (4, .int .i64 w) :: (5, lv) :: (6, ev) :: t) ?_ ?_
  · refine SW_loop_up (fun i E H => Fk [] K H encI 1 ev (endsF j.length (L.take i)) [] ∧ E = [(3, jv), (4, .int .i64 w), (5, lv), (6, ev), (7, .int .i64 (i : Int))]) L.length 0 (by omega) ⟨Fe, rfl⟩ ?_
    clear Fe
    rintro i E H hi ⟨F, rfl⟩
    have W : IntKind.i64.wrap ((i : Int) + 1) = ((i + 1 : Nat) : Int) := i64e (by omega) (by omega)
    have Rl := (sl.ext F.ext.ext).rulesN
    simp (maxSteps := 4000000) (disch := omega) only [ah, am, Nat.reduceEqDiff, reduceCtorEq, Nat.reduceAdd, Nat.reduceLeDiff, Nat.reduceMul, Nat.reduceLT, if_true, if_false, true_and, and_true, and_self, Nat.reduceBEq, QOp.loads, boxO, bslO, buildO, cutL, fillV, putL, w5, v5, Rl.1]
    refine stepI.split (fun hp => ?_) (fun hp => ?_)
    rotate_left
    · simp (maxSteps := 4000000) (disch := omega) only [ah, am, Nat.reduceEqDiff, reduceCtorEq, Nat.reduceAdd, Nat.reduceLeDiff, Nat.reduceMul, Nat.reduceLT, if_true, if_false, true_and, and_true, and_self, Nat.reduceBEq, QOp.loads, boxO, bslO, buildO, cutL, fillV, putL, w5, v5]
      have : i = L.length := by omega
      subst this
      rw [List.take_length] at F
      exact ⟨F, _, rfl⟩
    have hi2 : i < L.length := by omega
    obtain ⟨t, k, r1, r2, r3, r4, r5, r6⟩ := hf.at' L[i] (List.getElem_mem hi2)
    have hap := hf.apart
    have hE0 : (endsF j.length (L.take i)).getD t 0 = 0 := by
      rcases endsF_get j.length (L.take i) t r2 with q | ⟨r, hr, q1, q2⟩
      · exact q
      · exfalso
        obtain ⟨m, hm, rfl⟩ := List.getElem_of_mem hr
        simp only [List.length_take] at hm
        rw [List.getElem_take] at q1
        obtain ⟨t', k', s1, _⟩ := hf.at' L[m] (List.getElem_mem (by omega))
        have := (hap m i (by omega) hi2 (by omega)).1
        omega
    have hcost := cost_in hk r2
    have hca := costAt_eq r2
    rw [endsF_take _ _ hi2, r1, Int.toNat_natCast]
    obtain ⟨x, hx⟩ : ∃ x, x = L[i] := ⟨_, rfl⟩
    have LD : ∀ {H : Heap}, Ext K H → ldV H (ptrAt lv (i * 4)) = some (.int .i64 (t : Int)) ∧ ldV H (ptrAt lv (i * 4 + 1)) = some (.int .i64 (k : Int)) ∧ ldV H (ptrAt lv (i * 4 + 2)) = some (.int .i64 x.fr) ∧ ldV H (ptrAt lv (i * 4 + 3)) = some (.int .i64 x.to) := by
      intro H e
      have R := (sl.ext e).rulesN
      rw [hx, ← r1, ← r3]
      exact ⟨R.2.2.2.2.1 i hi2, R.2.2.2.1 i 1 hi2 (by omega), R.2.2.2.1 i 2 hi2 (by omega), R.2.2.2.1 i 3 hi2 (by omega)⟩
    have hap2 : ∀ m (hm : m < L.length), m < i → L[m].worker = (k : Int) → L[m].to ≤ x.fr := by
      intro m hm hmi e
      rw [hx]; exact (hap m i hm hi2 hmi).2 (by rw [e, r3])
    rw [← hx] at r1 r3 r5 r6 ⊢
    clear hx
    have L0 := LD F.ext.ext
    have elen := endsF_len j.length (L.take i)
    generalize endsF j.length (L.take i) = E at F hE0 elen ⊢
    have Re := F.slt.rulesN
    have Rj := (sj.ext F.ext.ext).rulesN
    have htE : t < E.length := by omega
    have htr : t < rs.length := by omega
    have LE : ldV H (ptrAt ev (t * 1)) = some (.int .i64 0) := by
      have := Re.2.2.2.2.1 t htE
      rw [this]
      have : E[t] = 0 := by rw [← hE0]; simp [List.getD, List.getElem?_eq_getElem htE]
      rw [this]; rfl
    have AE := Re.2.1 .i64 t htE
    have AJ := Rj.2.1 .i64 t htr
    have FJ := Rj.2.2.1
    have FL := Rl.2.2.1
    have LJ : ldV H (ptrAt jv (t * 4 + 3)) = some (.int .i64 (costAt j t)) := by
      have := Rj.2.2.2.1 t 3 htr (by omega)
      rw [this]
      have := (Hr t htr r2).2.2.1
      rw [hca, ← this]; rfl
    have Wd : IntKind.i64.wrap (x.to - x.fr) = costAt j t := i64e (by omega) (by omega)
    have D0 : decide ((0 : Int) = 0) = true := rfl
    have D1 : decide ((k : Int) < 0) = false := decide_eq_false (by omega)
    have D2 : decide (w ≤ (k : Int)) = false := decide_eq_false (by omega)
    obtain ⟨K5, es, F5, -⟩ := F.setF (j := t) (f := 0) (n := 1) (x := x.to) (y := .int .i64 x.to) htE rfl (by omega) rfl (by omega) rfl
    rw [Nat.add_zero] at es
    simp (maxSteps := 4000000) (disch := omega) only [ah, am, Nat.reduceEqDiff, reduceCtorEq, Nat.reduceAdd, Nat.reduceLeDiff, Nat.reduceMul, Nat.reduceLT, if_true, if_false, true_and, and_true, and_self, Nat.reduceBEq, QOp.loads, boxO, bslO, buildO, cutL, fillV, putL, w5, v5, Rl.2.1, FL, L0, LE, AE, AJ, FJ, LJ, Wd, D0, D1, D2, eq_self, decide_true, Bool.not_true, es]
    have e5 := F5.ext.ext
    refine SW_loop_to 2 (fun E' H => H = K5 ∧ ∃ t, E' = (3, jv) :: (4, .int .i64 w) :: (5, lv) :: (6, ev) :: (7, .int .i64 (i : Int)) :: t) ?_ ?_
    rotate_left
    · rintro E' _ ⟨rfl, t', rfl⟩
      simp (maxSteps := 4000000) (disch := omega) only [ah, am, Nat.reduceEqDiff, reduceCtorEq, Nat.reduceAdd, Nat.reduceLeDiff, Nat.reduceMul, Nat.reduceLT, if_true, if_false, true_and, and_true, and_self, Nat.reduceBEq, QOp.loads, boxO, bslO, buildO, cutL, fillV, putL, w5, v5, W]
      exact ⟨hi2, F5⟩
    refine SW_loop_up (fun m E' H => K5 = H ∧ E' = [(3, jv), (4, .int .i64 w), (5, lv), (6, ev), (7, .int .i64 (i : Int)), (8, .int .i64 (m : Int))]) i 0 (by omega) ⟨rfl, rfl⟩ ?_
    rintro m E' _ hm ⟨rfl, rfl⟩
    have Wm : IntKind.i64.wrap ((m : Int) + 1) = ((m + 1 : Nat) : Int) := i64e (by omega) (by omega)
    simp (maxSteps := 4000000) (disch := omega) only [ah, am, Nat.reduceEqDiff, reduceCtorEq, Nat.reduceAdd, Nat.reduceLeDiff, Nat.reduceMul, Nat.reduceLT, if_true, if_false, true_and, and_true, and_self, Nat.reduceBEq, QOp.loads, boxO, bslO, buildO, cutL, fillV, putL, w5, v5]
    refine stepI.split (fun hq => ?_) (fun hq => ?_)
    rotate_left
    · simp (maxSteps := 4000000) (disch := omega) only [ah, am, Nat.reduceEqDiff, reduceCtorEq, Nat.reduceAdd, Nat.reduceLeDiff, Nat.reduceMul, Nat.reduceLT, if_true, if_false, true_and, and_true, and_self, Nat.reduceBEq, QOp.loads, boxO, bslO, buildO, cutL, fillV, putL, w5, v5]
      exact ⟨_, rfl⟩
    have hm2 : m < L.length := by omega
    have R5 := (sl.ext e5).rulesN
    have L5 := LD e5
    have M1 : ldV K5 (ptrAt lv (m * 4 + 1)) = some (.int .i64 (L[m]'hm2).worker) := R5.2.2.2.1 m 1 hm2 (by omega)
    have M3 : ldV K5 (ptrAt lv (m * 4 + 3)) = some (.int .i64 (L[m]'hm2).to) := R5.2.2.2.1 m 3 hm2 (by omega)
    have FL5 := R5.2.2.1
    by_cases c1 : (L[m]'hm2).worker = (k : Int)
    · have c2 : decide (x.fr < (L[m]'hm2).to) = false := decide_eq_false (by have := hap2 m hm2 (by omega) c1; omega)
      simp (maxSteps := 4000000) (disch := omega) only [ah, am, Nat.reduceEqDiff, reduceCtorEq, Nat.reduceAdd, Nat.reduceLeDiff, Nat.reduceMul, Nat.reduceLT, if_true, if_false, true_and, and_true, and_self, Nat.reduceBEq, QOp.loads, boxO, bslO, buildO, cutL, fillV, putL, w5, v5, R5.2.1, FL5, L5, M1, M3, decide_eq_true c1, c2, Wm]
      omega
    · simp (maxSteps := 4000000) (disch := omega) only [ah, am, Nat.reduceEqDiff, reduceCtorEq, Nat.reduceAdd, Nat.reduceLeDiff, Nat.reduceMul, Nat.reduceLT, if_true, if_false, true_and, and_true, and_self, Nat.reduceBEq, QOp.loads, boxO, bslO, buildO, cutL, fillV, putL, w5, v5, R5.2.1, FL5, L5, M1, M3, decide_eq_false c1, Wm]
      omega
  · clear Fe
    rintro E H ⟨F, t, rfl⟩
    have eH := F.ext.ext
    have se := F.slt
    have helen := endsF_len j.length L
    have hget := endsF_get j.length L
    generalize endsF j.length L = EL at se helen hget
    clear F
    have sl := sl.ext eH
    have sj := sj.ext eH
    have Hr : ∀ i (h1 : i < rs.length) (h2 : i < j.length), TaskAt H rs[i] j[i] := fun i h1 h2 => (Hr i h1 h2).ext eH
    clear eH Rj R1 R2
    simp (maxSteps := 4000000) (disch := omega) only [ah, am, Nat.reduceEqDiff, reduceCtorEq, Nat.reduceAdd, Nat.reduceLeDiff, Nat.reduceMul, Nat.reduceLT, if_true, if_false, true_and, and_true, and_self, Nat.reduceBEq, QOp.loads, boxO, bslO, buildO, cutL, fillV, putL, w5, v5]
    have hsb := sum_bd hk L (fun r hr => by obtain ⟨t, _, q1, q2, _⟩ := hf.at' r hr; omega)
    refine SW_loop_to 4 (fun E K => Ext H K ∧ ∃ t, E = (3, jv) :: (5, lv) :: (6, ev) :: (9, .int .i64 (totJ j)) :: t) ?_ ?_
    · refine SW_loop_up (fun i E K => Ext H K ∧ E = [(3, jv), (5, lv), (6, ev), (9, .int .i64 ((L.take i).map fun r => costAt j r.task.toNat).sum), (10, .int .i64 (i : Int))]) L.length 0 (by omega) ⟨Ext.refl H, rfl⟩ ?_
      rintro i E K hi ⟨e, rfl⟩
      have W : IntKind.i64.wrap ((i : Int) + 1) = ((i + 1 : Nat) : Int) := i64e (by omega) (by omega)
      have Rl := (sl.ext e).rulesN
      simp (maxSteps := 4000000) (disch := omega) only [ah, am, Nat.reduceEqDiff, reduceCtorEq, Nat.reduceAdd, Nat.reduceLeDiff, Nat.reduceMul, Nat.reduceLT, if_true, if_false, true_and, and_true, and_self, Nat.reduceBEq, QOp.loads, boxO, bslO, buildO, cutL, fillV, putL, w5, v5, Rl.1]
      refine stepI.split (fun hp => ?_) (fun hp => ?_)
      rotate_left
      · simp (maxSteps := 4000000) (disch := omega) only [ah, am, Nat.reduceEqDiff, reduceCtorEq, Nat.reduceAdd, Nat.reduceLeDiff, Nat.reduceMul, Nat.reduceLT, if_true, if_false, true_and, and_true, and_self, Nat.reduceBEq, QOp.loads, boxO, bslO, buildO, cutL, fillV, putL, w5, v5]
        have : i = L.length := by omega
        subst this
        rw [List.take_length, hf.tot]
        exact ⟨e, _, rfl⟩
      have hi2 : i < L.length := by omega
      obtain ⟨t, k, r1, r2, r3, r4, r5, r6⟩ := hf.at' L[i] (List.getElem_mem hi2)
      have hneed := hf.need L[i] (List.getElem_mem hi2)
      have hs1 := hsb i (by omega)
      rw [sum_take _ _ hi2]
      have hcost := cost_in hk r2
      have hca := costAt_eq r2
      have hnl := (hk t r2).2.2.1
      have hni := need_in hk r2
      rw [r1, Int.toNat_natCast] at hneed
      rw [needsAt_eq r2] at hneed hni
      have Rj := (sj.ext e).rulesN
      have htr : t < rs.length := by omega
      have AJ := Rj.2.1 .i64 t htr
      have NJ := Rj.2.2.2.2.2 t htr
      have FL := Rl.2.2.1
      have L0 : ldV K (ptrAt lv (i * 4)) = some (.int .i64 (t : Int)) := by rw [← r1]; exact Rl.2.2.2.2.1 i hi2
      obtain ⟨k1, k2, k3, sn⟩ := Hr t htr r2
      have sn := sn.ext e
      have p1 := cells_slT sn; have p2 := oneB_slT sn
      rw [r1, Int.toNat_natCast, hca]
      rw [hca] at hcost
      obtain ⟨tk, ht⟩ : ∃ tk, tk = j[t] := ⟨_, rfl⟩
      rw [← ht] at k1 k2 k3 sn hcost hneed hni hnl ⊢
      have Ws : IntKind.i64.wrap (((L.take i).map fun r => costAt j r.task.toNat).sum + tk.cost) = ((L.take i).map fun r => costAt j r.task.toNat).sum + tk.cost := i64w (by omega)
      generalize ((L.take i).map fun r => costAt j r.task.toNat).sum = S at Ws ⊢
      have eM : Ext K (K.more [encT rs[t]]) := Ext.more K _
      have eHM := e.trans eM
      have Rn := (sn.ext eM).rulesN
      have Rl2 := (sl.ext eHM).rulesN
      have Re := (se.ext eHM).rulesN
      have L2 : ldV (K.more [encT rs[t]]) (ptrAt lv (i * 4 + 2)) = some (.int .i64 (L[i]'hi2).fr) := Rl2.2.2.2.1 i 2 hi2 (by omega)
      have AL := Rl2.2.1 .i64 i hi2
      have FL2 := Rl2.2.2.1
      simp only [encT, k1, k2, k3] at NJ eHM Rn L2 Re
      simp (maxSteps := 4000000) (disch := omega) only [ah, am, Nat.reduceEqDiff, reduceCtorEq, Nat.reduceAdd, Nat.reduceLeDiff, Nat.reduceMul, Nat.reduceLT, if_true, if_false, true_and, and_true, and_self, Nat.reduceBEq, QOp.loads, boxO, bslO, buildO, cutL, fillV, putL, w5, v5, Rl.2.1, FL, L0, AJ, NJ, encT, p1, p2, k1, k2, k3, Ws]
      refine SW_loop_to 6 (fun E' H' => H' = K.more [[.int .i64 tk.kind, .int .i64 tk.value, rs[t].nv, .int .i64 tk.cost]] ∧ ∃ q, E' = (3, jv) :: (5, lv) :: (6, ev) :: (9, .int .i64 (S + tk.cost)) :: (10, .int .i64 (i : Int)) :: q) ?_ ?_
      rotate_left
      · rintro E' _ ⟨rfl, q, rfl⟩
        simp (maxSteps := 4000000) (disch := omega) only [ah, am, Nat.reduceEqDiff, reduceCtorEq, Nat.reduceAdd, Nat.reduceLeDiff, Nat.reduceMul, Nat.reduceLT, if_true, if_false, true_and, and_true, and_self, Nat.reduceBEq, QOp.loads, boxO, bslO, buildO, cutL, fillV, putL, w5, v5, W]
        exact ⟨hi2, eHM⟩
      refine SW_loop_up (fun m E' H' => H' = K.more [[.int .i64 tk.kind, .int .i64 tk.value, rs[t].nv, .int .i64 tk.cost]] ∧ E' = [(3, jv), (5, lv), (6, ev), (9, .int .i64 (S + tk.cost)), (10, .int .i64 (i : Int)), (11, .pointer (some ⟨K.size, 0, none⟩)), (12, .int .i64 (m : Int))]) tk.needs.length 0 (by omega) ⟨rfl, rfl⟩ ?_
      rintro m E' _ hm ⟨rfl, rfl⟩
      have Wm : IntKind.i64.wrap ((m : Int) + 1) = ((m + 1 : Nat) : Int) := i64e (by omega) (by omega)
      simp (maxSteps := 4000000) (disch := omega) only [ah, am, Nat.reduceEqDiff, reduceCtorEq, Nat.reduceAdd, Nat.reduceLeDiff, Nat.reduceMul, Nat.reduceLT, if_true, if_false, true_and, and_true, and_self, Nat.reduceBEq, QOp.loads, boxO, bslO, buildO, cutL, fillV, putL, w5, v5, Rn.1]
      refine stepI.split (fun hq => ?_) (fun hq => ?_)
      rotate_left
      · simp (maxSteps := 4000000) (disch := omega) only [ah, am, Nat.reduceEqDiff, reduceCtorEq, Nat.reduceAdd, Nat.reduceLeDiff, Nat.reduceMul, Nat.reduceLT, if_true, if_false, true_and, and_true, and_self, Nat.reduceBEq, QOp.loads, boxO, bslO, buildO, cutL, fillV, putL, w5, v5]
        exact ⟨_, rfl⟩
      have hm2 : m < tk.needs.length := by omega
      have hmem := List.getElem_mem hm2
      have hn1 := hni _ hmem
      have hn2 := hneed _ hmem
      obtain ⟨n, hn⟩ : ∃ n : Nat, tk.needs[m] = (n : Int) := ⟨tk.needs[m].toNat, by omega⟩
      rw [hn] at hn1 hn2
      have hnE : n < EL.length := by omega
      have LN : ldV (K.more [[.int .i64 tk.kind, .int .i64 tk.value, rs[t].nv, .int .i64 tk.cost]]) (ptrAt rs[t].nv (m * 1)) = some (.int .i64 (n : Int)) := by
        have := Rn.2.2.2.2.1 m hm2
        rw [this, hn]; rfl
      have LE : ldV (K.more [[.int .i64 tk.kind, .int .i64 tk.value, rs[t].nv, .int .i64 tk.cost]]) (ptrAt ev (n * 1)) = some (.int .i64 (EL.getD n 0)) := by
        have := Re.2.2.2.2.1 n hnE
        rw [this, show EL.getD n 0 = EL[n] by simp [List.getD, List.getElem?_eq_getElem hnE]]; rfl
      have D : decide ((L[i]'hi2).fr < EL.getD n 0) = false := by
        refine decide_eq_false ?_
        rcases hget n (by omega) with q | ⟨r, hr, q1, q2⟩
        · omega
        · obtain ⟨t', _, s1, _⟩ := hf.at' r hr
          have := hn2 r hr (by omega)
          omega
      simp (maxSteps := 4000000) (disch := omega) only [ah, am, Nat.reduceEqDiff, reduceCtorEq, Nat.reduceAdd, Nat.reduceLeDiff, Nat.reduceMul, Nat.reduceLT, if_true, if_false, true_and, and_true, and_self, Nat.reduceBEq, QOp.loads, boxO, bslO, buildO, cutL, fillV, putL, w5, v5, Rn.2.1, LN, Re.2.1, LE, AL, FL2, L2, D, Wm]
      exact hm2
    · rintro E K ⟨e, t, rfl⟩
      have J : JobAt K jv j := ⟨rs, sj.ext e, hln, fun i h1 h2 => (Hr i h1 h2).ext e⟩
      have sl := sl.ext e
      have hF1 := farmF_length j 1
      have hF50 := farmF_length j 50
      simp (maxSteps := 4000000) (disch := omega) only [ah, am, Nat.reduceEqDiff, reduceCtorEq, Nat.reduceAdd, Nat.reduceLeDiff, Nat.reduceMul, Nat.reduceLT, if_true, if_false, true_and, and_true, and_self, Nat.reduceBEq, QOp.loads, boxO, bslO, buildO, cutL, fillV, putL, w5, v5]
      refine stepC.of (Farm_ok _ _ _ 1 J (by omega)) ?_
      intro v1 K1 F1
      have J := J.ext F1.1
      have sl := sl.ext F1.1
      simp (maxSteps := 4000000) (disch := omega) only [ah, am, Nat.reduceEqDiff, reduceCtorEq, Nat.reduceAdd, Nat.reduceLeDiff, Nat.reduceMul, Nat.reduceLT, if_true, if_false, true_and, and_true, and_self, Nat.reduceBEq, QOp.loads, boxO, bslO, buildO, cutL, fillV, putL, w5, v5]
      refine stepC.of (Span_ok _ _ _ F1.slt (by omega)) ?_
      rintro _ K2 ⟨e2, rfl⟩
      have J := J.ext e2
      have sl := sl.ext e2
      simp (maxSteps := 4000000) (disch := omega) only [ah, am, Nat.reduceEqDiff, reduceCtorEq, Nat.reduceAdd, Nat.reduceLeDiff, Nat.reduceMul, Nat.reduceLT, if_true, if_false, true_and, and_true, and_self, Nat.reduceBEq, QOp.loads, boxO, bslO, buildO, cutL, fillV, putL, w5, v5, T1, eq_self, decide_true]
      refine stepC.of (Span_ok _ _ _ sl (by omega)) ?_
      rintro _ K3 ⟨e3, rfl⟩
      have J := J.ext e3
      have sl := sl.ext e3
      simp (maxSteps := 4000000) (disch := omega) only [ah, am, Nat.reduceEqDiff, reduceCtorEq, Nat.reduceAdd, Nat.reduceLeDiff, Nat.reduceMul, Nat.reduceLT, if_true, if_false, true_and, and_true, and_self, Nat.reduceBEq, QOp.loads, boxO, bslO, buildO, cutL, fillV, putL, w5, v5]
      refine stepC.of (Critical_ok _ _ _ J (by omega)) ?_
      rintro _ K4 ⟨e4, rfl⟩
      have J := J.ext e4
      have sl := sl.ext e4
      simp (maxSteps := 4000000) (disch := omega) only [ah, am, Nat.reduceEqDiff, reduceCtorEq, Nat.reduceAdd, Nat.reduceLeDiff, Nat.reduceMul, Nat.reduceLT, if_true, if_false, true_and, and_true, and_self, Nat.reduceBEq, QOp.loads, boxO, bslO, buildO, cutL, fillV, putL, w5, v5, decide_eq_true T2]
      refine stepC.of (Span_ok _ _ _ sl (by omega)) ?_
      rintro _ K5 ⟨e5, rfl⟩
      have J := J.ext e5
      obtain ⟨rs', sj', hln', _⟩ := id J
      have Rj := sj'.rulesN
      simp only [hln'] at Rj
      by_cases h50 : (50 : Int) < j.length
      · simp (maxSteps := 4000000) (disch := omega) only [ah, am, Nat.reduceEqDiff, reduceCtorEq, Nat.reduceAdd, Nat.reduceLeDiff, Nat.reduceMul, Nat.reduceLT, if_true, if_false, true_and, and_true, and_self, Nat.reduceBEq, QOp.loads, boxO, bslO, buildO, cutL, fillV, putL, w5, v5, decide_eq_true T3, Rj.1, decide_eq_true h50]
      simp (maxSteps := 4000000) (disch := omega) only [ah, am, Nat.reduceEqDiff, reduceCtorEq, Nat.reduceAdd, Nat.reduceLeDiff, Nat.reduceMul, Nat.reduceLT, if_true, if_false, true_and, and_true, and_self, Nat.reduceBEq, QOp.loads, boxO, bslO, buildO, cutL, fillV, putL, w5, v5, decide_eq_true T3, Rj.1, decide_eq_false h50]
      refine stepC.of (Farm_ok _ _ _ 50 J (by omega)) ?_
      intro v6 K6 F6
      have J := J.ext F6.1
      simp (maxSteps := 4000000) (disch := omega) only [ah, am, Nat.reduceEqDiff, reduceCtorEq, Nat.reduceAdd, Nat.reduceLeDiff, Nat.reduceMul, Nat.reduceLT, if_true, if_false, true_and, and_true, and_self, Nat.reduceBEq, QOp.loads, boxO, bslO, buildO, cutL, fillV, putL, w5, v5]
      refine stepC.of (Span_ok _ _ _ F6.slt (by omega)) ?_
      rintro _ K7 ⟨e7, rfl⟩
      have J := J.ext e7
      simp (maxSteps := 4000000) (disch := omega) only [ah, am, Nat.reduceEqDiff, reduceCtorEq, Nat.reduceAdd, Nat.reduceLeDiff, Nat.reduceMul, Nat.reduceLT, if_true, if_false, true_and, and_true, and_self, Nat.reduceBEq, QOp.loads, boxO, bslO, buildO, cutL, fillV, putL, w5, v5]
      refine stepC.of (Critical_ok _ _ _ J (by omega)) ?_
      rintro _ K8 ⟨e8, rfl⟩
      simp (maxSteps := 4000000) (disch := omega) only [ah, am, Nat.reduceEqDiff, reduceCtorEq, Nat.reduceAdd, Nat.reduceLeDiff, Nat.reduceMul, Nat.reduceLT, if_true, if_false, true_and, and_true, and_self, Nat.reduceBEq, QOp.loads, boxO, bslO, buildO, cutL, fillV, putL, w5, v5, T4 (by omega), eq_self, decide_true]
end Go.Proofs.Ytbnkpligdcponaa
