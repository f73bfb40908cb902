import Derived.Test.YtmhbmbhdeofbaaaE4
namespace Go.Proofs.Ytmhbmbhdeofbaaa
open Go Go.Ah
set_option linter.unusedSimpArgs false
set_option linter.unusedVariables false
set_option maxRecDepth 10000
set_option maxHeartbeats 4000000
/-! 7 loop.example/g00066/spec.Cube: parameters 3, live [0, 1, 2], slots [0:n, 1:table, 2:c, 3:n, 4:table, 5:c, 7:i, 8:at, 9:rest, 10:left, 11:done, 12:r, 13:g, 14:b, 15:k, 16:best, 17:next, 18:i, 19:w, 20:x] -/
def c7_0 : List SOper := [⟨some 5, .a (.box (.t 2)), none⟩, ⟨some 6, .a (.new [(.int .i64 0), (.int .i64 0), (.int .i64 0)]), none⟩]
def c7_1 : List SOper := [⟨some 21, .q (.mv (.t 0)), none⟩, ⟨some 22, .e (.call 21 [(.t 21), (.c (.int .i64 2)), (.c (.int .i64 9))]), none⟩, ⟨some 23, .q (.not (.t 22)), none⟩, ⟨some 24, .q (.mv (.t 23)), none⟩, ⟨some 25, .q (.mv (.t 1)), some (24, false)⟩, ⟨some 26, .q (.len (.t 25)), some (24, false)⟩, ⟨some 27, .q (.mv (.t 0)), some (24, false)⟩, ⟨some 28, .q (.mv (.t 0)), some (24, false)⟩, ⟨some 29, .q (.bin .mul (.t 27) (.t 28)), some (24, false)⟩, ⟨some 30, .q (.mv (.t 0)), some (24, false)⟩, ⟨some 31, .q (.bin .mul (.t 29) (.t 30)), some (24, false)⟩, ⟨some 32, .q (.bin .neq (.t 26) (.t 31)), some (24, false)⟩, ⟨some 33, .q (.pick (.t 24) (.c (.bool true)) (.t 32)), none⟩, ⟨some 34, .q (.mv (.t 33)), none⟩, ⟨some 35, .q (.ldn 3 (.t 5)), some (34, false)⟩, ⟨some 36, .e (.call 22 [(.t 35)]), some (34, false)⟩, ⟨some 37, .q (.not (.t 36)), some (34, false)⟩, ⟨some 38, .q (.pick (.t 34) (.c (.bool true)) (.t 37)), none⟩]
def c7_2 : List SOper := [⟨some 39, .q (.build [(.int .i64 0), (.int .i64 0), (.int .i64 0)] []), none⟩, ⟨none, .e (.st 3 (.t 6) (.t 39)), none⟩]
def c7_3 : SCode := .seq (.region c7_2 [6]) .ret
def c7_4 : SCode := .cond (.t 38) c7_3 .skip
def c7_5 : SCode := .seq (.region c7_1 [0, 1, 5, 6, 38]) c7_4
def c7_6 : List SOper := [⟨some 7, .q (.mv (.c (.int .i64 0))), none⟩]
def c7_7 : List SOper := [⟨some 40, .q (.mv (.t 7)), none⟩, ⟨some 41, .q (.mv (.t 1)), none⟩, ⟨some 42, .q (.len (.t 41)), none⟩, ⟨some 43, .q (.bin .lss (.t 40) (.t 42)), none⟩]
def c7_8 : SCode := .cond (.t 43) .skip (.exit 0)
def c7_9 : SCode := .seq (.region c7_7 [0, 1, 5, 6, 7, 43]) c7_8
def c7_10 : List SOper := [⟨some 46, .q (.mv (.t 1)), none⟩, ⟨some 47, .q (.mv (.t 7)), none⟩, ⟨some 48, .q (.ia 3 (.t 46) (.t 47)), none⟩, ⟨some 49, .q (.ldn 3 (.t 48)), none⟩, ⟨some 50, .e (.call 22 [(.t 49)]), none⟩, ⟨some 51, .q (.not (.t 50)), none⟩]
def c7_11 : List SOper := [⟨some 52, .q (.build [(.int .i64 0), (.int .i64 0), (.int .i64 0)] []), none⟩, ⟨none, .e (.st 3 (.t 6) (.t 52)), none⟩]
def c7_12 : SCode := .seq (.region c7_11 [6]) .ret
def c7_13 : SCode := .cond (.t 51) c7_12 .skip
def c7_14 : SCode := .seq (.region c7_10 [0, 1, 5, 6, 7, 51]) c7_13
def c7_15 : SCode := .block 1 c7_14
def c7_16 : List SOper := [⟨some 44, .q (.mv (.t 7)), none⟩, ⟨some 45, .q (.bin .add (.t 44) (.c (.int .i64 1))), none⟩, ⟨some 7, .q (.mv (.t 45)), none⟩]
def c7_17 : SCode := .seq c7_15 (.region c7_16 [0, 1, 5, 6, 7])
def c7_18 : SCode := .seq c7_9 c7_17
def c7_19 : SCode := .loop c7_18
def c7_20 : SCode := .block 0 c7_19
def c7_21 : SCode := .seq (.region c7_6 [0, 1, 5, 6, 7]) c7_20
def c7_22 : List SOper := [⟨some 53, .a (.bsl 3 1 [(.int .i64 0), (.int .i64 0), (.int .i64 0)] [(0, 1, (.c (.int .i64 0))), (1, 1, (.c (.int .i64 0))), (2, 1, (.c (.int .i64 0)))]), none⟩, ⟨some 8, .q (.mv (.t 53)), none⟩]
def c7_23 : List SOper := [⟨some 54, .a (.bsl 3 1 [(.int .i64 0), (.int .i64 0), (.int .i64 0)] [(0, 1, (.c (.int .i64 0))), (1, 1, (.c (.int .i64 0))), (2, 1, (.c (.int .i64 0)))]), none⟩, ⟨some 9, .q (.mv (.t 54)), none⟩]
def c7_24 : List SOper := [⟨some 56, .q (.mv (.t 8)), none⟩, ⟨some 57, .q (.mv (.t 9)), none⟩, ⟨some 58, .q (.fa 0 (.t 5)), none⟩, ⟨some 59, .q (.ld (.t 58)), none⟩, ⟨some 60, .q (.mv (.t 0)), none⟩, ⟨some 61, .q (.bin .sub (.t 60) (.c (.int .i64 1))), none⟩, ⟨some 62, .e (.call 23 [(.t 59), (.t 61)]), none⟩, ⟨some 55, .q (.mv (.t 62)), none⟩, ⟨some 63, .q (.ext (.t 55) 0), none⟩, ⟨some 64, .q (.ext (.t 55) 1), none⟩, ⟨some 65, .q (.ia 1 (.t 56) (.c (.int .i64 0))), none⟩, ⟨none, .e (.st 1 (.t 65) (.t 63)), none⟩, ⟨some 66, .q (.ia 1 (.t 57) (.c (.int .i64 0))), none⟩, ⟨none, .e (.st 1 (.t 66) (.t 64)), none⟩]
def c7_25 : List SOper := [⟨some 68, .q (.mv (.t 8)), none⟩, ⟨some 69, .q (.mv (.t 9)), none⟩, ⟨some 70, .q (.fa 1 (.t 5)), none⟩, ⟨some 71, .q (.ld (.t 70)), none⟩, ⟨some 72, .q (.mv (.t 0)), none⟩, ⟨some 73, .q (.bin .sub (.t 72) (.c (.int .i64 1))), none⟩, ⟨some 74, .e (.call 23 [(.t 71), (.t 73)]), none⟩, ⟨some 67, .q (.mv (.t 74)), none⟩, ⟨some 75, .q (.ext (.t 67) 0), none⟩, ⟨some 76, .q (.ext (.t 67) 1), none⟩, ⟨some 77, .q (.ia 1 (.t 68) (.c (.int .i64 1))), none⟩, ⟨none, .e (.st 1 (.t 77) (.t 75)), none⟩, ⟨some 78, .q (.ia 1 (.t 69) (.c (.int .i64 1))), none⟩, ⟨none, .e (.st 1 (.t 78) (.t 76)), none⟩]
def c7_26 : List SOper := [⟨some 80, .q (.mv (.t 8)), none⟩, ⟨some 81, .q (.mv (.t 9)), none⟩, ⟨some 82, .q (.fa 2 (.t 5)), none⟩, ⟨some 83, .q (.ld (.t 82)), none⟩, ⟨some 84, .q (.mv (.t 0)), none⟩, ⟨some 85, .q (.bin .sub (.t 84) (.c (.int .i64 1))), none⟩, ⟨some 86, .e (.call 23 [(.t 83), (.t 85)]), none⟩, ⟨some 79, .q (.mv (.t 86)), none⟩, ⟨some 87, .q (.ext (.t 79) 0), none⟩, ⟨some 88, .q (.ext (.t 79) 1), none⟩, ⟨some 89, .q (.ia 1 (.t 80) (.c (.int .i64 2))), none⟩, ⟨none, .e (.st 1 (.t 89) (.t 87)), none⟩, ⟨some 90, .q (.ia 1 (.t 81) (.c (.int .i64 2))), none⟩, ⟨none, .e (.st 1 (.t 90) (.t 88)), none⟩]
def c7_27 : List SOper := [⟨some 10, .q (.mv (.c (.int .i64 65535))), none⟩]
def c7_28 : List SOper := [⟨some 91, .a (.bsl 3 1 [(.bool false), (.bool false), (.bool false)] [(0, 1, (.c (.bool false))), (1, 1, (.c (.bool false))), (2, 1, (.c (.bool false)))]), none⟩, ⟨some 11, .q (.mv (.t 91)), none⟩]
def c7_29 : List SOper := [⟨some 12, .q (.mv (.c (.int .i64 0))), none⟩]
def c7_30 : List SOper := [⟨some 13, .q (.mv (.c (.int .i64 0))), none⟩]
def c7_31 : List SOper := [⟨some 14, .q (.mv (.c (.int .i64 0))), none⟩]
def c7_32 : List SOper := [⟨some 15, .q (.mv (.c (.int .i64 0))), none⟩]
def c7_33 : List SOper := [⟨some 92, .q (.mv (.t 15)), none⟩, ⟨some 93, .q (.bin .lss (.t 92) (.c (.int .i64 4))), none⟩]
def c7_34 : SCode := .cond (.t 93) .skip (.exit 2)
def c7_35 : SCode := .seq (.region c7_33 [0, 1, 6, 8, 9, 10, 11, 12, 13, 14, 15, 93]) c7_34
def c7_36 : List SOper := [⟨some 16, .q (.mv (.c (.int .i64 (-1)))), none⟩]
def c7_37 : List SOper := [⟨some 17, .q (.mv (.c (.int .i64 0))), none⟩]
def c7_38 : List SOper := [⟨some 18, .q (.mv (.c (.int .i64 0))), none⟩]
def c7_39 : List SOper := [⟨some 96, .q (.mv (.t 18)), none⟩, ⟨some 97, .q (.bin .lss (.t 96) (.c (.int .i64 3))), none⟩]
def c7_40 : SCode := .cond (.t 97) .skip (.exit 4)
def c7_41 : SCode := .seq (.region c7_39 [0, 1, 6, 8, 9, 10, 11, 12, 13, 14, 15, 16, 17, 18, 97]) c7_40
def c7_42 : List SOper := [⟨some 100, .q (.mv (.t 11)), none⟩, ⟨some 101, .q (.mv (.t 18)), none⟩, ⟨some 102, .q (.ia 1 (.t 100) (.t 101)), none⟩, ⟨some 103, .q (.ld (.t 102)), none⟩, ⟨some 104, .q (.not (.t 103)), none⟩, ⟨some 105, .q (.mv (.t 104)), none⟩, ⟨some 106, .q (.mv (.t 16)), some (105, true)⟩, ⟨some 107, .q (.bin .lss (.t 106) (.c (.int .i64 0))), some (105, true)⟩, ⟨some 108, .q (.mv (.t 107)), some (105, true)⟩, ⟨some 109, .q (.mv (.t 9)), some (108, false)⟩, ⟨some 110, .q (.mv (.t 18)), some (108, false)⟩, ⟨some 111, .q (.ia 1 (.t 109) (.t 110)), some (108, false)⟩, ⟨some 112, .q (.ld (.t 111)), some (108, false)⟩, ⟨some 113, .q (.mv (.t 9)), some (108, false)⟩, ⟨some 114, .q (.mv (.t 16)), some (108, false)⟩, ⟨some 115, .q (.ia 1 (.t 113) (.t 114)), some (108, false)⟩, ⟨some 116, .q (.ld (.t 115)), some (108, false)⟩, ⟨some 117, .q (.bin .gtr (.t 112) (.t 116)), some (108, false)⟩, ⟨some 118, .q (.pick (.t 108) (.c (.bool true)) (.t 117)), some (105, true)⟩, ⟨some 119, .q (.pick (.t 105) (.t 118) (.c (.bool false))), none⟩]
def c7_43 : List SOper := [⟨some 120, .q (.mv (.t 18)), none⟩, ⟨some 16, .q (.mv (.t 120)), none⟩]
def c7_44 : SCode := .cond (.t 119) (.region c7_43 [0, 1, 6, 8, 9, 10, 11, 12, 13, 14, 15, 16, 17, 18]) .skip
def c7_45 : SCode := .seq (.region c7_42 [0, 1, 6, 8, 9, 10, 11, 12, 13, 14, 15, 16, 17, 18, 119]) c7_44
def c7_46 : SCode := .block 5 c7_45
def c7_47 : List SOper := [⟨some 98, .q (.mv (.t 18)), none⟩, ⟨some 99, .q (.bin .add (.t 98) (.c (.int .i64 1))), none⟩, ⟨some 18, .q (.mv (.t 99)), none⟩]
def c7_48 : SCode := .seq c7_46 (.region c7_47 [0, 1, 6, 8, 9, 10, 11, 12, 13, 14, 15, 16, 17, 18])
def c7_49 : SCode := .seq c7_41 c7_48
def c7_50 : SCode := .loop c7_49
def c7_51 : SCode := .block 4 c7_50
def c7_52 : SCode := .seq (.region c7_38 [0, 1, 6, 8, 9, 10, 11, 12, 13, 14, 15, 16, 17, 18]) c7_51
def c7_53 : List SOper := [⟨some 121, .q (.mv (.t 16)), none⟩, ⟨some 122, .q (.bin .geq (.t 121) (.c (.int .i64 0))), none⟩]
def c7_54 : List SOper := [⟨some 123, .q (.mv (.t 9)), none⟩, ⟨some 124, .q (.mv (.t 16)), none⟩, ⟨some 125, .q (.ia 1 (.t 123) (.t 124)), none⟩, ⟨some 126, .q (.ld (.t 125)), none⟩, ⟨some 17, .q (.mv (.t 126)), none⟩]
def c7_55 : SCode := .cond (.t 122) (.region c7_54 [0, 1, 6, 8, 9, 10, 11, 12, 13, 14, 15, 16, 17]) .skip
def c7_56 : SCode := .seq (.region c7_53 [0, 1, 6, 8, 9, 10, 11, 12, 13, 14, 15, 16, 17, 122]) c7_55
def c7_57 : List SOper := [⟨some 127, .q (.mv (.t 10)), none⟩, ⟨some 128, .q (.mv (.t 17)), none⟩, ⟨some 129, .q (.bin .sub (.t 127) (.t 128)), none⟩, ⟨some 19, .q (.mv (.t 129)), none⟩]
def c7_58 : List SOper := [⟨some 130, .q (.mv (.t 1)), none⟩, ⟨some 131, .q (.mv (.t 8)), none⟩, ⟨some 132, .q (.ia 1 (.t 131) (.c (.int .i64 0))), none⟩, ⟨some 133, .q (.ld (.t 132)), none⟩, ⟨some 134, .q (.mv (.t 0)), none⟩, ⟨some 135, .q (.bin .mul (.t 133) (.t 134)), none⟩, ⟨some 136, .q (.mv (.t 8)), none⟩, ⟨some 137, .q (.ia 1 (.t 136) (.c (.int .i64 1))), none⟩, ⟨some 138, .q (.ld (.t 137)), none⟩, ⟨some 139, .q (.bin .add (.t 135) (.t 138)), none⟩, ⟨some 140, .q (.mv (.t 0)), none⟩, ⟨some 141, .q (.bin .mul (.t 139) (.t 140)), none⟩, ⟨some 142, .q (.mv (.t 8)), none⟩, ⟨some 143, .q (.ia 1 (.t 142) (.c (.int .i64 2))), none⟩, ⟨some 144, .q (.ld (.t 143)), none⟩, ⟨some 145, .q (.bin .add (.t 141) (.t 144)), none⟩, ⟨some 146, .q (.ia 3 (.t 130) (.t 145)), none⟩, ⟨some 147, .q (.ldn 3 (.t 146)), none⟩, ⟨some 20, .a (.new [(.int .i64 0), (.int .i64 0), (.int .i64 0)]), none⟩, ⟨none, .e (.st 3 (.t 20) (.t 147)), none⟩]
def c7_59 : List SOper := [⟨some 148, .q (.mv (.t 12)), none⟩, ⟨some 149, .q (.fa 0 (.t 20)), none⟩, ⟨some 150, .q (.ld (.t 149)), none⟩, ⟨some 151, .q (.mv (.t 19)), none⟩, ⟨some 152, .q (.bin .mul (.t 150) (.t 151)), none⟩, ⟨some 153, .q (.bin .add (.t 148) (.t 152)), none⟩, ⟨some 12, .q (.mv (.t 153)), none⟩]
def c7_60 : List SOper := [⟨some 154, .q (.mv (.t 13)), none⟩, ⟨some 155, .q (.fa 1 (.t 20)), none⟩, ⟨some 156, .q (.ld (.t 155)), none⟩, ⟨some 157, .q (.mv (.t 19)), none⟩, ⟨some 158, .q (.bin .mul (.t 156) (.t 157)), none⟩, ⟨some 159, .q (.bin .add (.t 154) (.t 158)), none⟩, ⟨some 13, .q (.mv (.t 159)), none⟩]
def c7_61 : List SOper := [⟨some 160, .q (.mv (.t 14)), none⟩, ⟨some 161, .q (.fa 2 (.t 20)), none⟩, ⟨some 162, .q (.ld (.t 161)), none⟩, ⟨some 163, .q (.mv (.t 19)), none⟩, ⟨some 164, .q (.bin .mul (.t 162) (.t 163)), none⟩, ⟨some 165, .q (.bin .add (.t 160) (.t 164)), none⟩, ⟨some 14, .q (.mv (.t 165)), none⟩]
def c7_62 : List SOper := [⟨some 166, .q (.mv (.t 16)), none⟩, ⟨some 167, .q (.bin .geq (.t 166) (.c (.int .i64 0))), none⟩]
def c7_63 : List SOper := [⟨some 168, .q (.mv (.t 11)), none⟩, ⟨some 169, .q (.mv (.t 16)), none⟩, ⟨some 170, .q (.ia 1 (.t 168) (.t 169)), none⟩, ⟨none, .e (.st 1 (.t 170) (.c (.bool true))), none⟩]
def c7_64 : List SOper := [⟨some 171, .q (.mv (.t 8)), none⟩, ⟨some 172, .q (.mv (.t 16)), none⟩, ⟨some 173, .q (.mv (.t 8)), none⟩, ⟨some 174, .q (.mv (.t 16)), none⟩, ⟨some 175, .q (.ia 1 (.t 173) (.t 174)), none⟩, ⟨some 176, .q (.ld (.t 175)), none⟩, ⟨some 177, .q (.bin .add (.t 176) (.c (.int .i64 1))), none⟩, ⟨some 178, .q (.ia 1 (.t 171) (.t 172)), none⟩, ⟨none, .e (.st 1 (.t 178) (.t 177)), none⟩]
def c7_65 : SCode := .seq (.region c7_63 [0, 1, 6, 8, 9, 11, 12, 13, 14, 15, 16, 17]) (.region c7_64 [0, 1, 6, 8, 9, 11, 12, 13, 14, 15, 17])
def c7_66 : SCode := .cond (.t 167) c7_65 .skip
def c7_67 : SCode := .seq (.region c7_62 [0, 1, 6, 8, 9, 11, 12, 13, 14, 15, 16, 17, 167]) c7_66
def c7_68 : List SOper := [⟨some 179, .q (.mv (.t 17)), none⟩, ⟨some 10, .q (.mv (.t 179)), none⟩]
def c7_69 : SCode := .seq c7_67 (.region c7_68 [0, 1, 6, 8, 9, 10, 11, 12, 13, 14, 15])
def c7_70 : SCode := .seq (.region c7_61 [0, 1, 6, 8, 9, 11, 12, 13, 14, 15, 16, 17]) c7_69
def c7_71 : SCode := .seq (.region c7_60 [0, 1, 6, 8, 9, 11, 12, 13, 14, 15, 16, 17, 19, 20]) c7_70
def c7_72 : SCode := .seq (.region c7_59 [0, 1, 6, 8, 9, 11, 12, 13, 14, 15, 16, 17, 19, 20]) c7_71
def c7_73 : SCode := .seq (.region c7_58 [0, 1, 6, 8, 9, 11, 12, 13, 14, 15, 16, 17, 19, 20]) c7_72
def c7_74 : SCode := .seq (.region c7_57 [0, 1, 6, 8, 9, 11, 12, 13, 14, 15, 16, 17, 19]) c7_73
def c7_75 : SCode := .seq c7_56 c7_74
def c7_76 : SCode := .seq c7_52 c7_75
def c7_77 : SCode := .seq (.region c7_37 [0, 1, 6, 8, 9, 10, 11, 12, 13, 14, 15, 16, 17]) c7_76
def c7_78 : SCode := .seq (.region c7_36 [0, 1, 6, 8, 9, 10, 11, 12, 13, 14, 15, 16]) c7_77
def c7_79 : SCode := .block 3 c7_78
def c7_80 : List SOper := [⟨some 94, .q (.mv (.t 15)), none⟩, ⟨some 95, .q (.bin .add (.t 94) (.c (.int .i64 1))), none⟩, ⟨some 15, .q (.mv (.t 95)), none⟩]
def c7_81 : SCode := .seq c7_79 (.region c7_80 [0, 1, 6, 8, 9, 10, 11, 12, 13, 14, 15])
def c7_82 : SCode := .seq c7_35 c7_81
def c7_83 : SCode := .loop c7_82
def c7_84 : SCode := .block 2 c7_83
def c7_85 : SCode := .seq (.region c7_32 [0, 1, 6, 8, 9, 10, 11, 12, 13, 14, 15]) c7_84
def c7_86 : List SOper := [⟨some 180, .q (.mv (.t 12)), none⟩, ⟨some 181, .e (.call 24 [(.t 180), (.c (.int .i64 65535))]), none⟩, ⟨some 182, .q (.mv (.t 13)), none⟩, ⟨some 183, .e (.call 24 [(.t 182), (.c (.int .i64 65535))]), none⟩, ⟨some 184, .q (.mv (.t 14)), none⟩, ⟨some 185, .e (.call 24 [(.t 184), (.c (.int .i64 65535))]), none⟩, ⟨some 186, .q (.build [(.int .i64 0), (.int .i64 0), (.int .i64 0)] [(0, 1, (.t 181)), (1, 1, (.t 183)), (2, 1, (.t 185))]), none⟩, ⟨none, .e (.st 3 (.t 6) (.t 186)), none⟩]
def c7_87 : SCode := .seq (.region c7_86 [6]) .ret
def c7_88 : SCode := .seq c7_85 c7_87
def c7_89 : SCode := .seq (.region c7_31 [0, 1, 6, 8, 9, 10, 11, 12, 13, 14]) c7_88
def c7_90 : SCode := .seq (.region c7_30 [0, 1, 6, 8, 9, 10, 11, 12, 13]) c7_89
def c7_91 : SCode := .seq (.region c7_29 [0, 1, 6, 8, 9, 10, 11, 12]) c7_90
def c7_92 : SCode := .seq (.region c7_28 [0, 1, 6, 8, 9, 10, 11]) c7_91
def c7_93 : SCode := .seq (.region c7_27 [0, 1, 6, 8, 9, 10]) c7_92
def c7_94 : SCode := .seq (.region c7_26 [0, 1, 6, 8, 9]) c7_93
def c7_95 : SCode := .seq (.region c7_25 [0, 1, 5, 6, 8, 9]) c7_94
def c7_96 : SCode := .seq (.region c7_24 [0, 1, 5, 6, 8, 9]) c7_95
def c7_97 : SCode := .seq (.region c7_23 [0, 1, 5, 6, 8, 9]) c7_96
def c7_98 : SCode := .seq (.region c7_22 [0, 1, 5, 6, 8]) c7_97
def c7_99 : SCode := .seq c7_21 c7_98
def c7_100 : SCode := .seq c7_5 c7_99
def c7_101 : SCode := .seq (.region c7_0 [0, 1, 5, 6]) c7_100
def c7 : SCode := c7_101
theorem w7 : type_of% (And.intro (uR Try.prog c7_0.eq_1) (And.intro (uR Try.prog c7_1.eq_1) (And.intro (uR Try.prog c7_2.eq_1) (And.intro (uC Try.prog c7_3.eq_1) (And.intro (uC Try.prog c7_4.eq_1) (And.intro (uC Try.prog c7_5.eq_1) (And.intro (uR Try.prog c7_6.eq_1) (And.intro (uR Try.prog c7_7.eq_1) (And.intro (uC Try.prog c7_8.eq_1) (And.intro (uC Try.prog c7_9.eq_1) (And.intro (uR Try.prog c7_10.eq_1) (And.intro (uR Try.prog c7_11.eq_1) (And.intro (uC Try.prog c7_12.eq_1) (And.intro (uC Try.prog c7_13.eq_1) (And.intro (uC Try.prog c7_14.eq_1) (And.intro (uC Try.prog c7_15.eq_1) (And.intro (uR Try.prog c7_16.eq_1) (And.intro (uC Try.prog c7_17.eq_1) (And.intro (uC Try.prog c7_18.eq_1) (And.intro (uC Try.prog c7_19.eq_1) (And.intro (uC Try.prog c7_20.eq_1) (And.intro (uC Try.prog c7_21.eq_1) (And.intro (uR Try.prog c7_22.eq_1) (And.intro (uR Try.prog c7_23.eq_1) (And.intro (uR Try.prog c7_24.eq_1) (And.intro (uR Try.prog c7_25.eq_1) (And.intro (uR Try.prog c7_26.eq_1) (And.intro (uR Try.prog c7_27.eq_1) (And.intro (uR Try.prog c7_28.eq_1) (And.intro (uR Try.prog c7_29.eq_1) (And.intro (uR Try.prog c7_30.eq_1) (And.intro (uR Try.prog c7_31.eq_1) (And.intro (uR Try.prog c7_32.eq_1) (And.intro (uR Try.prog c7_33.eq_1) (And.intro (uC Try.prog c7_34.eq_1) (And.intro (uC Try.prog c7_35.eq_1) (And.intro (uR Try.prog c7_36.eq_1) (And.intro (uR Try.prog c7_37.eq_1) (And.intro (uR Try.prog c7_38.eq_1) (And.intro (uR Try.prog c7_39.eq_1) (And.intro (uC Try.prog c7_40.eq_1) (And.intro (uC Try.prog c7_41.eq_1) (And.intro (uR Try.prog c7_42.eq_1) (And.intro (uR Try.prog c7_43.eq_1) (And.intro (uC Try.prog c7_44.eq_1) (And.intro (uC Try.prog c7_45.eq_1) (And.intro (uC Try.prog c7_46.eq_1) (And.intro (uR Try.prog c7_47.eq_1) (And.intro (uC Try.prog c7_48.eq_1) (And.intro (uC Try.prog c7_49.eq_1) (And.intro (uC Try.prog c7_50.eq_1) (And.intro (uC Try.prog c7_51.eq_1) (And.intro (uC Try.prog c7_52.eq_1) (And.intro (uR Try.prog c7_53.eq_1) (And.intro (uR Try.prog c7_54.eq_1) (And.intro (uC Try.prog c7_55.eq_1) (And.intro (uC Try.prog c7_56.eq_1) (And.intro (uR Try.prog c7_57.eq_1) (And.intro (uR Try.prog c7_58.eq_1) (And.intro (uR Try.prog c7_59.eq_1) (And.intro (uR Try.prog c7_60.eq_1) (And.intro (uR Try.prog c7_61.eq_1) (And.intro (uR Try.prog c7_62.eq_1) (And.intro (uR Try.prog c7_63.eq_1) (And.intro (uR Try.prog c7_64.eq_1) (And.intro (uC Try.prog c7_65.eq_1) (And.intro (uC Try.prog c7_66.eq_1) (And.intro (uC Try.prog c7_67.eq_1) (And.intro (uR Try.prog c7_68.eq_1) (And.intro (uC Try.prog c7_69.eq_1) (And.intro (uC Try.prog c7_70.eq_1) (And.intro (uC Try.prog c7_71.eq_1) (And.intro (uC Try.prog c7_72.eq_1) (And.intro (uC Try.prog c7_73.eq_1) (And.intro (uC Try.prog c7_74.eq_1) (And.intro (uC Try.prog c7_75.eq_1) (And.intro (uC Try.prog c7_76.eq_1) (And.intro (uC Try.prog c7_77.eq_1) (And.intro (uC Try.prog c7_78.eq_1) (And.intro (uC Try.prog c7_79.eq_1) (And.intro (uR Try.prog c7_80.eq_1) (And.intro (uC Try.prog c7_81.eq_1) (And.intro (uC Try.prog c7_82.eq_1) (And.intro (uC Try.prog c7_83.eq_1) (And.intro (uC Try.prog c7_84.eq_1) (And.intro (uC Try.prog c7_85.eq_1) (And.intro (uR Try.prog c7_86.eq_1) (And.intro (uC Try.prog c7_87.eq_1) (And.intro (uC Try.prog c7_88.eq_1) (And.intro (uC Try.prog c7_89.eq_1) (And.intro (uC Try.prog c7_90.eq_1) (And.intro (uC Try.prog c7_91.eq_1) (And.intro (uC Try.prog c7_92.eq_1) (And.intro (uC Try.prog c7_93.eq_1) (And.intro (uC Try.prog c7_94.eq_1) (And.intro (uC Try.prog c7_95.eq_1) (And.intro (uC Try.prog c7_96.eq_1) (And.intro (uC Try.prog c7_97.eq_1) (And.intro (uC Try.prog c7_98.eq_1) (And.intro (uC Try.prog c7_99.eq_1) (And.intro (uC Try.prog c7_100.eq_1) (And.intro (uC Try.prog c7_101.eq_1) (uC Try.prog c7.eq_1))))))))))))))))))))))))))))))))))))))))))))))))))))))))))))))))))))))))))))))))))))))))))))))))))))))) := (And.intro (uR Try.prog c7_0.eq_1) (And.intro (uR Try.prog c7_1.eq_1) (And.intro (uR Try.prog c7_2.eq_1) (And.intro (uC Try.prog c7_3.eq_1) (And.intro (uC Try.prog c7_4.eq_1) (And.intro (uC Try.prog c7_5.eq_1) (And.intro (uR Try.prog c7_6.eq_1) (And.intro (uR Try.prog c7_7.eq_1) (And.intro (uC Try.prog c7_8.eq_1) (And.intro (uC Try.prog c7_9.eq_1) (And.intro (uR Try.prog c7_10.eq_1) (And.intro (uR Try.prog c7_11.eq_1) (And.intro (uC Try.prog c7_12.eq_1) (And.intro (uC Try.prog c7_13.eq_1) (And.intro (uC Try.prog c7_14.eq_1) (And.intro (uC Try.prog c7_15.eq_1) (And.intro (uR Try.prog c7_16.eq_1) (And.intro (uC Try.prog c7_17.eq_1) (And.intro (uC Try.prog c7_18.eq_1) (And.intro (uC Try.prog c7_19.eq_1) (And.intro (uC Try.prog c7_20.eq_1) (And.intro (uC Try.prog c7_21.eq_1) (And.intro (uR Try.prog c7_22.eq_1) (And.intro (uR Try.prog c7_23.eq_1) (And.intro (uR Try.prog c7_24.eq_1) (And.intro (uR Try.prog c7_25.eq_1) (And.intro (uR Try.prog c7_26.eq_1) (And.intro (uR Try.prog c7_27.eq_1) (And.intro (uR Try.prog c7_28.eq_1) (And.intro (uR Try.prog c7_29.eq_1) (And.intro (uR Try.prog c7_30.eq_1) (And.intro (uR Try.prog c7_31.eq_1) (And.intro (uR Try.prog c7_32.eq_1) (And.intro (uR Try.prog c7_33.eq_1) (And.intro (uC Try.prog c7_34.eq_1) (And.intro (uC Try.prog c7_35.eq_1) (And.intro (uR Try.prog c7_36.eq_1) (And.intro (uR Try.prog c7_37.eq_1) (And.intro (uR Try.prog c7_38.eq_1) (And.intro (uR Try.prog c7_39.eq_1) (And.intro (uC Try.prog c7_40.eq_1) (And.intro (uC Try.prog c7_41.eq_1) (And.intro (uR Try.prog c7_42.eq_1) (And.intro (uR Try.prog c7_43.eq_1) (And.intro (uC Try.prog c7_44.eq_1) (And.intro (uC Try.prog c7_45.eq_1) (And.intro (uC Try.prog c7_46.eq_1) (And.intro (uR Try.prog c7_47.eq_1) (And.intro (uC Try.prog c7_48.eq_1) (And.intro (uC Try.prog c7_49.eq_1) (And.intro (uC Try.prog c7_50.eq_1) (And.intro (uC Try.prog c7_51.eq_1) (And.intro (uC Try.prog c7_52.eq_1) (And.intro (uR Try.prog c7_53.eq_1) (And.intro (uR Try.prog c7_54.eq_1) (And.intro (uC Try.prog c7_55.eq_1) (And.intro (uC Try.prog c7_56.eq_1) (And.intro (uR Try.prog c7_57.eq_1) (And.intro (uR Try.prog c7_58.eq_1) (And.intro (uR Try.prog c7_59.eq_1) (And.intro (uR Try.prog c7_60.eq_1) (And.intro (uR Try.prog c7_61.eq_1) (And.intro (uR Try.prog c7_62.eq_1) (And.intro (uR Try.prog c7_63.eq_1) (And.intro (uR Try.prog c7_64.eq_1) (And.intro (uC Try.prog c7_65.eq_1) (And.intro (uC Try.prog c7_66.eq_1) (And.intro (uC Try.prog c7_67.eq_1) (And.intro (uR Try.prog c7_68.eq_1) (And.intro (uC Try.prog c7_69.eq_1) (And.intro (uC Try.prog c7_70.eq_1) (And.intro (uC Try.prog c7_71.eq_1) (And.intro (uC Try.prog c7_72.eq_1) (And.intro (uC Try.prog c7_73.eq_1) (And.intro (uC Try.prog c7_74.eq_1) (And.intro (uC Try.prog c7_75.eq_1) (And.intro (uC Try.prog c7_76.eq_1) (And.intro (uC Try.prog c7_77.eq_1) (And.intro (uC Try.prog c7_78.eq_1) (And.intro (uC Try.prog c7_79.eq_1) (And.intro (uR Try.prog c7_80.eq_1) (And.intro (uC Try.prog c7_81.eq_1) (And.intro (uC Try.prog c7_82.eq_1) (And.intro (uC Try.prog c7_83.eq_1) (And.intro (uC Try.prog c7_84.eq_1) (And.intro (uC Try.prog c7_85.eq_1) (And.intro (uR Try.prog c7_86.eq_1) (And.intro (uC Try.prog c7_87.eq_1) (And.intro (uC Try.prog c7_88.eq_1) (And.intro (uC Try.prog c7_89.eq_1) (And.intro (uC Try.prog c7_90.eq_1) (And.intro (uC Try.prog c7_91.eq_1) (And.intro (uC Try.prog c7_92.eq_1) (And.intro (uC Try.prog c7_93.eq_1) (And.intro (uC Try.prog c7_94.eq_1) (And.intro (uC Try.prog c7_95.eq_1) (And.intro (uC Try.prog c7_96.eq_1) (And.intro (uC Try.prog c7_97.eq_1) (And.intro (uC Try.prog c7_98.eq_1) (And.intro (uC Try.prog c7_99.eq_1) (And.intro (uC Try.prog c7_100.eq_1) (And.intro (uC Try.prog c7_101.eq_1) (uC Try.prog c7.eq_1)))))))))))))))))))))))))))))))))))))))))))))))))))))))))))))))))))))))))))))))))))))))))))))))))))))))
def v7 : List RV := [.c 6 (some 3)]
theorem s7 : slimF Try.prog Try.f7 = some (c7.bare, v7) := by kernel_rfl

/-- The best that is not done, of the first `i`. -/
def bsF (d : List Bool) (r : List Int) : Nat → Int
  | 0 => -1
  | i + 1 => if d.getD i false = false ∧ (bsF d r i < 0 ∨ r.getD (bsF d r i).toNat 0 < r.getD i 0) then (i : Int) else bsF d r i
def dnF (r : List Int) (k : Nat) : List Bool := [decide (0 ∈ (ordF r).take k), decide (1 ∈ (ordF r).take k), decide (2 ∈ (ordF r).take k)]
def apF (a r : List Int) (k : Nat) : List Int := [a.getD 0 0 + if 0 ∈ (ordF r).take k then 1 else 0, a.getD 1 0 + if 1 ∈ (ordF r).take k then 1 else 0, a.getD 2 0 + if 2 ∈ (ordF r).take k then 1 else 0]
def orK (r : List Int) (k : Nat) : Int := if k < 3 then (ordF r).getD k 0 else -1
theorem bsF_b (d : List Bool) (r : List Int) : ∀ i, -1 ≤ bsF d r i ∧ bsF d r i < i := by
  intro i
  induction i with
  | zero => simp [bsF]
  | succ i ih => simp only [bsF]; split <;> omega
theorem bs1 (d0 d1 d2 : Bool) (r0 r1 r2 : Int) : bsF [d0, d1, d2] [r0, r1, r2] 1 = if d0 = false then 0 else -1 := by
  simp [bsF, List.getD]
theorem bs2 (d0 d1 d2 : Bool) (r0 r1 r2 : Int) : bsF [d0, d1, d2] [r0, r1, r2] 2 = if d1 = false ∧ (d0 = true ∨ r0 < r1) then 1 else if d0 = false then 0 else -1 := by
  rw [bsF, bs1]
  cases d0 <;> cases d1 <;> simp [List.getD]
theorem bs3 (d0 d1 d2 : Bool) (r0 r1 r2 : Int) : bsF [d0, d1, d2] [r0, r1, r2] 3 = if d2 = false ∧ (d0 = true ∨ r0 < r2) ∧ (d1 = true ∨ r1 < r2) then 2 else if d1 = false ∧ (d0 = true ∨ r0 < r1) then 1 else if d0 = false then 0 else -1 := by
  rw [bsF, bs2]
  cases d0 <;> cases d1 <;> cases d2 <;> simp [List.getD]
  by_cases q : r0 < r1
  · simp [q]
    by_cases q2 : r1 < r2
    · rw [if_pos q2, if_pos ⟨by omega, q2⟩]
    · rw [if_neg q2, if_neg (by omega)]
  · simp [q]
    by_cases q2 : r0 < r2
    · rw [if_pos q2, if_pos ⟨q2, by omega⟩]
    · rw [if_neg q2, if_neg (by omega)]
theorem best {a0 a1 a2 r0 r1 r2 n : Int} (k : Nat) (hk : k ≤ 3) :
    bsF (dnF [r0, r1, r2] k) [r0, r1, r2] 3 = orK [r0, r1, r2] k ∧
    ((apF [a0, a1, a2] [r0, r1, r2] k).getD 0 0 * n + (apF [a0, a1, a2] [r0, r1, r2] k).getD 1 0) * n + (apF [a0, a1, a2] [r0, r1, r2] k).getD 2 0 = idxF n [a0, a1, a2] [r0, r1, r2] k := by
  have k4 : ∀ k, k ≤ 3 → k = 0 ∨ k = 1 ∨ k = 2 ∨ k = 3 := by omega
  rcases ordF_cases r0 r1 r2 with ⟨e, c1, c2⟩ | ⟨e, c1, c2⟩ | ⟨e, c1, c2⟩ | ⟨e, c1, c2⟩ | ⟨e, c1, c2⟩ | ⟨e, c1, c2⟩
  all_goals
    rcases k4 k hk with rfl | rfl | rfl | rfl
    all_goals
      refine ⟨?_, ?_⟩
      · rw [dnF, bs3, e]
        simp [orK, e, List.getD]
        try (repeat' split) <;> omega
      · simp [apF, idxF, e, List.getD, stF, Int.add_mul, Int.mul_assoc]
        try omega
theorem next (a r : List Int) (k : Nat) (hk : k < 3) (e : ordF r = [0, 1, 2] ∨ ordF r = [0, 2, 1] ∨ ordF r = [1, 0, 2] ∨ ordF r = [1, 2, 0] ∨ ordF r = [2, 0, 1] ∨ ordF r = [2, 1, 0]) :
    (dnF r k).set ((ordF r).getD k 0).toNat true = dnF r (k + 1) ∧ (apF a r k).set ((ordF r).getD k 0).toNat ((apF a r k).getD ((ordF r).getD k 0).toNat 0 + 1) = apF a r (k + 1) := by
  have k4 : ∀ k, k < 3 → k = 0 ∨ k = 1 ∨ k = 2 := by omega
  rcases e with e | e | e | e | e | e
  all_goals
    rcases k4 k hk with rfl | rfl | rfl
    all_goals
      simp [dnF, apF, e, List.getD]
theorem rdI {g : Nat} {K : Heap} {v : Value} {l : List Int} (o : OwnT g K encI 1 v l) {i : Nat} (hi : i < l.length) : iaV 1 v (.int .i64 (i : Int)) = some (ptrAt v i) ∧ ldV K (ptrAt v i) = some (.int .i64 (l.getD i 0)) := by
  have a := o.slt.rulesN.2.1 .i64 i hi
  have b := o.slt.rulesN.2.2.2.2.1 i hi
  rw [Nat.mul_one] at a b
  exact ⟨a, by rw [b, getD_atE hi]; rfl⟩
theorem rdB {g : Nat} {K : Heap} {v : Value} {l : List Bool} (o : OwnT g K encB 1 v l) {i : Nat} (hi : i < l.length) : iaV 1 v (.int .i64 (i : Int)) = some (ptrAt v i) ∧ ldV K (ptrAt v i) = some (.bool (l.getD i false)) := by
  have a := o.slt.rulesN.2.1 .i64 i hi
  have b := o.slt.rulesN.2.2.2.2.1 i hi
  rw [Nat.mul_one] at a b
  exact ⟨a, by rw [b, getD_atE hi]; rfl⟩
theorem wrI {g : Nat} {K : Heap} {v : Value} {l : List Int} (o : OwnT g K encI 1 v l) {i : Nat} (hi : i < l.length) (x : Int) : ∃ h', stV K 1 (ptrAt v i) (.int .i64 x) = some h' ∧ OwnT g h' encI 1 v (l.set i x) ∧ ExtG g K h' := by
  obtain ⟨h', a, b, c, _⟩ := o.setF (f := 0) (n := 1) hi (x := x) (y := .int .i64 x) rfl (by omega) rfl (by omega) rfl
  rw [Nat.mul_one] at a
  exact ⟨h', a, b, c⟩
theorem wrB {g : Nat} {K : Heap} {v : Value} {l : List Bool} (o : OwnT g K encB 1 v l) {i : Nat} (hi : i < l.length) (x : Bool) : ∃ h', stV K 1 (ptrAt v i) (.bool x) = some h' ∧ OwnT g h' encB 1 v (l.set i x) ∧ ExtG g K h' := by
  obtain ⟨h', a, b, c, _⟩ := o.setF (f := 0) (n := 1) hi (x := x) (y := .bool x) rfl (by omega) rfl (by omega) rfl
  rw [Nat.mul_one] at a
  exact ⟨h', a, b, c⟩
theorem specCube_ok (h : Heap) (v : Value) (t : List Rgb) (n : Int) (c : Rgb) (s : SlT h encRgb 3 v t) (hl : t.length ≤ 1048576) (hn : -9223372036854775808 ≤ n ∧ n ≤ 9223372036854775807) :
    ACall Try.prog 7 [.int .i64 n, v, .agg (encRgb c).toArray] h fun r h' => Ext h h' ∧ r = .agg (encRgb (cubeF n t c)).toArray := by
  refine ACall.of Try.func7 s7 (of_decide_eq_true rfl) ?_
  simp (maxSteps := 4000000) (disch := omega) only [ah, am, Nat.reduceEqDiff, reduceCtorEq, Nat.reduceAdd, Nat.reduceLeDiff, Nat.reduceMul, Nat.reduceLT, if_true, if_false, true_and, and_true, and_self, Nat.reduceBEq, QOp.loads, boxO, bslO, buildO, cutL, fillV, putL, w7, v7, encRgb]
  refine stepC.of (l1In_ok _ _ _ _) ?_
  rintro _ Hx ⟨hx, rfl⟩; rw [hx]; clear hx Hx
  have B6 : Bx (h.more [[.int .i64 c.r, .int .i64 c.g, .int .i64 c.b], [.int .i64 0, .int .i64 0, .int .i64 0]]) (h.size + 1) [.int .i64 0, .int .i64 0, .int .i64 0] := by unfold Bx; rw [get_more]; rfl
  have B5 : Bx (h.more [[.int .i64 c.r, .int .i64 c.g, .int .i64 c.b], [.int .i64 0, .int .i64 0, .int .i64 0]]) h.size [.int .i64 c.r, .int .i64 c.g, .int .i64 c.b] := Bx.new h _ _
  have E0 := Ext.more h [[.int .i64 c.r, .int .i64 c.g, .int .i64 c.b], [.int .i64 0, .int .i64 0, .int .i64 0]]
  generalize h.more [[.int .i64 c.r, .int .i64 c.g, .int .i64 c.b], [.int .i64 0, .int .i64 0, .int .i64 0]] = H0 at B6 B5 E0 ⊢
  have none0 : ∀ {K : Heap}, Ext H0 K → ∃ K2, stV K 3 (.pointer (some ⟨h.size + 1, 0, none⟩)) (.agg #[.int .i64 0, .int .i64 0, .int .i64 0]) = some K2 ∧ Ext h K2 ∧ ldnV K2 3 (.pointer (some ⟨h.size + 1, 0, none⟩)) = some (.agg #[.int .i64 0, .int .i64 0, .int .i64 0]) := by
    intro K e
    obtain ⟨K2, es, b2, g⟩ := (B6.ext e).put (o := 0) (n := 3) (y := .agg #[.int .i64 0, .int .i64 0, .int .i64 0]) rfl (by simp) rfl
    refine ⟨K2, es, g.ext (E0.trans e) (by omega), ?_⟩
    have := b2.ld.2 0 3
    simpa [splice, cells_agg, cutL] using this
  have zz : ¬ cubeOk n t c → cubeF n t c = zRgb := fun q => if_neg q
  by_cases c1 : 2 ≤ n ∧ n ≤ 9
  rotate_left
  · obtain ⟨K2, es, e2, l2⟩ := none0 (Ext.refl H0)
    simp (maxSteps := 4000000) (disch := omega) only [ah, am, Nat.reduceEqDiff, reduceCtorEq, Nat.reduceAdd, Nat.reduceLeDiff, Nat.reduceMul, Nat.reduceLT, if_true, if_false, true_and, and_true, and_self, Nat.reduceBEq, QOp.loads, boxO, bslO, buildO, cutL, fillV, putL, w7, v7, decide_eq_false c1, Bool.not_false, es, l2]
    rw [zz fun q => c1 q.1]; exact ⟨e2, rfl⟩
  have hnn : 4 ≤ n * n ∧ n * n ≤ 81 := by
    have hn8 : n = 2 ∨ n = 3 ∨ n = 4 ∨ n = 5 ∨ n = 6 ∨ n = 7 ∨ n = 8 ∨ n = 9 := by omega
    rcases hn8 with rfl | rfl | rfl | rfl | rfl | rfl | rfl | rfl <;> decide
  have hnnn : 8 ≤ n * n * n ∧ n * n * n ≤ 729 := by
    have hn8 : n = 2 ∨ n = 3 ∨ n = 4 ∨ n = 5 ∨ n = 6 ∨ n = 7 ∨ n = 8 ∨ n = 9 := by omega
    rcases hn8 with rfl | rfl | rfl | rfl | rfl | rfl | rfl | rfl <;> decide
  have Wnn : IntKind.i64.wrap (n * n) = n * n := i64w (by omega)
  have Wnnn : IntKind.i64.wrap (n * n * n) = n * n * n := i64w (by omega)
  have R := (s.ext E0).rulesN
  by_cases c2 : (t.length : Int) = n * n * n
  rotate_left
  · obtain ⟨K2, es, e2, l2⟩ := none0 (Ext.refl H0)
    simp (maxSteps := 4000000) (disch := omega) only [ah, am, Nat.reduceEqDiff, reduceCtorEq, Nat.reduceAdd, Nat.reduceLeDiff, Nat.reduceMul, Nat.reduceLT, if_true, if_false, true_and, and_true, and_self, Nat.reduceBEq, QOp.loads, boxO, bslO, buildO, cutL, fillV, putL, w7, v7, decide_eq_true c1, Bool.not_true, R, Wnn, Wnnn, decide_eq_false c2, Bool.not_false, es, l2]
    rw [zz fun q => c2 q.2.1]; exact ⟨e2, rfl⟩
  have X5 := B5.ld
  simp (maxSteps := 4000000) (disch := omega) only [ah, am, Nat.reduceEqDiff, reduceCtorEq, Nat.reduceAdd, Nat.reduceLeDiff, Nat.reduceMul, Nat.reduceLT, if_true, if_false, true_and, and_true, and_self, Nat.reduceBEq, QOp.loads, boxO, bslO, buildO, cutL, fillV, putL, w7, v7, decide_eq_true c1, Bool.not_true, R, Wnn, Wnnn, decide_eq_true c2, X5]
  refine stepC.of (l9Rgb_ok _ c) ?_
  rintro _ H1 ⟨e1, rfl⟩
  by_cases c3 : rgbOk c
  rotate_left
  · obtain ⟨K2, es, e2, l2⟩ := none0 e1
    simp (maxSteps := 4000000) (disch := omega) only [ah, am, Nat.reduceEqDiff, reduceCtorEq, Nat.reduceAdd, Nat.reduceLeDiff, Nat.reduceMul, Nat.reduceLT, if_true, if_false, true_and, and_true, and_self, Nat.reduceBEq, QOp.loads, boxO, bslO, buildO, cutL, fillV, putL, w7, v7, decide_eq_false c3, Bool.not_false, es, l2]
    rw [zz fun q => c3 q.2.2.1]; exact ⟨e2, rfl⟩
  simp (maxSteps := 4000000) (disch := omega) only [ah, am, Nat.reduceEqDiff, reduceCtorEq, Nat.reduceAdd, Nat.reduceLeDiff, Nat.reduceMul, Nat.reduceLT, if_true, if_false, true_and, and_true, and_self, Nat.reduceBEq, QOp.loads, boxO, bslO, buildO, cutL, fillV, putL, w7, v7, decide_eq_true c3, Bool.not_true]
  refine SW_loop_up (fun i E K => Ext H0 K ∧ (∀ j (hj : j < t.length), j < i → rgbOk t[j]) ∧ E = [(0, .int .i64 n), (1, v), (5, .pointer (some ⟨h.size, 0, none⟩)), (6, .pointer (some ⟨h.size + 1, 0, none⟩)), (7, .int .i64 (i : Int))]) t.length 0 (by omega) ?_ ?_
  · exact ⟨e1, fun j _ hj => by omega, rfl⟩
  rintro i E K hi ⟨eK, F, rfl⟩
  have R := (s.ext (E0.trans eK)).rulesN
  simp (maxSteps := 4000000) (disch := omega) only [ah, am, Nat.reduceEqDiff, reduceCtorEq, Nat.reduceAdd, Nat.reduceLeDiff, Nat.reduceMul, Nat.reduceLT, if_true, if_false, true_and, and_true, and_self, Nat.reduceBEq, QOp.loads, boxO, bslO, buildO, cutL, fillV, putL, w7, v7, R]
  refine stepI.split (fun hp => ?_) (fun hp => ?_)
  · simp (maxSteps := 4000000) (disch := omega) only [ah, am, Nat.reduceEqDiff, reduceCtorEq, Nat.reduceAdd, Nat.reduceLeDiff, Nat.reduceMul, Nat.reduceLT, if_true, if_false, true_and, and_true, and_self, Nat.reduceBEq, QOp.loads, boxO, bslO, buildO, cutL, fillV, putL, w7, v7, R]
    refine stepC.of (l9Rgb_ok _ _) ?_
    rintro _ K2 ⟨ek2, rfl⟩
    have W : IntKind.i64.wrap ((i : Int) + 1) = ((i + 1 : Nat) : Int) := i64e (by omega) (by omega)
    by_cases c5 : rgbOk (t[i]'(by omega))
    · simp (maxSteps := 4000000) (disch := omega) only [ah, am, Nat.reduceEqDiff, reduceCtorEq, Nat.reduceAdd, Nat.reduceLeDiff, Nat.reduceMul, Nat.reduceLT, if_true, if_false, true_and, and_true, and_self, Nat.reduceBEq, QOp.loads, boxO, bslO, buildO, cutL, fillV, putL, w7, v7, decide_eq_true c5, Bool.not_true, W]
      refine ⟨by omega, eK.trans ek2, fun j hj h2 => ?_⟩
      by_cases hji : j = i
      · subst hji; exact c5
      · exact F j hj (by omega)
    · obtain ⟨K3, es, e2, l2⟩ := none0 (eK.trans ek2)
      simp (maxSteps := 4000000) (disch := omega) only [ah, am, Nat.reduceEqDiff, reduceCtorEq, Nat.reduceAdd, Nat.reduceLeDiff, Nat.reduceMul, Nat.reduceLT, if_true, if_false, true_and, and_true, and_self, Nat.reduceBEq, QOp.loads, boxO, bslO, buildO, cutL, fillV, putL, w7, v7, decide_eq_false c5, Bool.not_false, es, l2]
      rw [zz fun q => c5 (q.2.2.2 _ (List.getElem_mem _))]; exact ⟨e2, rfl⟩
  have c4 : ∀ x ∈ t, rgbOk x := fun x hx => by
    obtain ⟨j, hj, rfl⟩ := List.getElem_of_mem hx
    exact F j hj (by omega)
  rw [show cubeF n t c = cubeL n t c from if_pos ⟨c1, c2, c3, c4⟩]
  clear none0 zz F
  obtain ⟨⟨u1, u2⟩, ⟨u3, u4⟩, ⟨u5, u6⟩⟩ := id c3
  have P0 := place_b (v := c.r) (n := n - 1) ⟨u1, u2⟩ (by omega)
  have P1 := place_b (v := c.g) (n := n - 1) ⟨u3, u4⟩ (by omega)
  have P2 := place_b (v := c.b) (n := n - 1) ⟨u5, u6⟩ (by omega)
  have W1 : IntKind.i64.wrap (n - 1) = n - 1 := i64w (by omega)
  have t0 : Int.toNat 0 = 0 := rfl
  have t1 : Int.toNat 1 = 1 := rfl
  have t2 : Int.toNat 2 = 2 := rfl
  have X5 := ((B5.ext eK).ext (Ext.more K [[.int .i64 0, .int .i64 0, .int .i64 0], [.int .i64 0, .int .i64 0, .int .i64 0]])).ld
  simp (maxSteps := 4000000) (disch := omega) only [ah, am, Nat.reduceEqDiff, reduceCtorEq, Nat.reduceAdd, Nat.reduceLeDiff, Nat.reduceMul, Nat.reduceLT, if_true, if_false, true_and, and_true, and_self, Nat.reduceBEq, QOp.loads, boxO, bslO, buildO, cutL, fillV, putL, w7, v7, X5, W1]
  obtain ⟨q, hq⟩ : ∃ q, q = K.size := ⟨_, rfl⟩
  have hq2 : h.size + 1 < q := by have := Heap.get_lt (B6.ext eK); omega
  have b8 : Bx (K.more [[.int .i64 0, .int .i64 0, .int .i64 0], [.int .i64 0, .int .i64 0, .int .i64 0]]) q [.int .i64 0, .int .i64 0, .int .i64 0] := by rw [hq]; exact Bx.new _ _ _
  have b9 : Bx (K.more [[.int .i64 0, .int .i64 0, .int .i64 0], [.int .i64 0, .int .i64 0, .int .i64 0]]) (q + 1) [.int .i64 0, .int .i64 0, .int .i64 0] := by rw [hq]; unfold Bx; rw [get_more]; rfl
  have eh := E0.trans (eK.trans (Ext.more K [[.int .i64 0, .int .i64 0, .int .i64 0], [.int .i64 0, .int .i64 0, .int .i64 0]]))
  have b5 := (B5.ext eK).ext (Ext.more K [[.int .i64 0, .int .i64 0, .int .i64 0], [.int .i64 0, .int .i64 0, .int .i64 0]])
  have b6 := (B6.ext eK).ext (Ext.more K [[.int .i64 0, .int .i64 0, .int .i64 0], [.int .i64 0, .int .i64 0, .int .i64 0]])
  rw [← hq]
  generalize K.more [[.int .i64 0, .int .i64 0, .int .i64 0], [.int .i64 0, .int .i64 0, .int .i64 0]] = M at b8 b9 eh b5 b6 X5 ⊢
  refine stepC.of (l9Place_ok _ c.r (n - 1) ⟨u1, u2⟩ (by omega)) ?_
  rintro _ Hx ⟨hx, rfl⟩; rw [hx]; clear hx Hx
  obtain ⟨Ma0, ea0, b8, g⟩ := b8.put (o := 0) (n := 1) (y := .int .i64 (placeI c.r (n - 1))) rfl (by simp) rfl
  have b8 : Bx Ma0 q [.int .i64 (placeI c.r (n - 1)), .int .i64 0, .int .i64 0] := b8
  have b9 := b9.step g (by omega)
  have b5 := b5.step g (by omega)
  have b6 := b6.step g (by omega)
  have eh := g.ext eh (by omega)
  obtain ⟨Mb0, eb0, b9, g⟩ := b9.put (o := 0) (n := 1) (y := .int .i64 (placeR c.r (n - 1))) rfl (by simp) rfl
  have b9 : Bx Mb0 (q + 1) [.int .i64 (placeR c.r (n - 1)), .int .i64 0, .int .i64 0] := b9
  have b8 := b8.step g (by omega)
  have b5 := b5.step g (by omega)
  have b6 := b6.step g (by omega)
  have eh := g.ext eh (by omega)
  have X5 := b5.ld
  simp (maxSteps := 4000000) (disch := omega) only [ah, am, Nat.reduceEqDiff, reduceCtorEq, Nat.reduceAdd, Nat.reduceLeDiff, Nat.reduceMul, Nat.reduceLT, if_true, if_false, true_and, and_true, and_self, Nat.reduceBEq, QOp.loads, boxO, bslO, buildO, cutL, fillV, putL, w7, v7, ea0, eb0, X5, W1, t0, t1, t2]
  refine stepC.of (l9Place_ok _ c.g (n - 1) ⟨u3, u4⟩ (by omega)) ?_
  rintro _ Hx ⟨hx, rfl⟩; rw [hx]; clear hx Hx
  obtain ⟨Ma1, ea1, b8, g⟩ := b8.put (o := 1) (n := 1) (y := .int .i64 (placeI c.g (n - 1))) rfl (by simp) rfl
  have b8 : Bx Ma1 q [.int .i64 (placeI c.r (n - 1)), .int .i64 (placeI c.g (n - 1)), .int .i64 0] := b8
  have b9 := b9.step g (by omega)
  have b5 := b5.step g (by omega)
  have b6 := b6.step g (by omega)
  have eh := g.ext eh (by omega)
  obtain ⟨Mb1, eb1, b9, g⟩ := b9.put (o := 1) (n := 1) (y := .int .i64 (placeR c.g (n - 1))) rfl (by simp) rfl
  have b9 : Bx Mb1 (q + 1) [.int .i64 (placeR c.r (n - 1)), .int .i64 (placeR c.g (n - 1)), .int .i64 0] := b9
  have b8 := b8.step g (by omega)
  have b5 := b5.step g (by omega)
  have b6 := b6.step g (by omega)
  have eh := g.ext eh (by omega)
  have X5 := b5.ld
  simp (maxSteps := 4000000) (disch := omega) only [ah, am, Nat.reduceEqDiff, reduceCtorEq, Nat.reduceAdd, Nat.reduceLeDiff, Nat.reduceMul, Nat.reduceLT, if_true, if_false, true_and, and_true, and_self, Nat.reduceBEq, QOp.loads, boxO, bslO, buildO, cutL, fillV, putL, w7, v7, ea1, eb1, X5, W1, t0, t1, t2]
  refine stepC.of (l9Place_ok _ c.b (n - 1) ⟨u5, u6⟩ (by omega)) ?_
  rintro _ Hx ⟨hx, rfl⟩; rw [hx]; clear hx Hx
  obtain ⟨Ma2, ea2, b8, g⟩ := b8.put (o := 2) (n := 1) (y := .int .i64 (placeI c.b (n - 1))) rfl (by simp) rfl
  have b8 : Bx Ma2 q [.int .i64 (placeI c.r (n - 1)), .int .i64 (placeI c.g (n - 1)), .int .i64 (placeI c.b (n - 1))] := b8
  have b9 := b9.step g (by omega)
  have b5 := b5.step g (by omega)
  have b6 := b6.step g (by omega)
  have eh := g.ext eh (by omega)
  obtain ⟨Mb2, eb2, b9, g⟩ := b9.put (o := 2) (n := 1) (y := .int .i64 (placeR c.b (n - 1))) rfl (by simp) rfl
  have b9 : Bx Mb2 (q + 1) [.int .i64 (placeR c.r (n - 1)), .int .i64 (placeR c.g (n - 1)), .int .i64 (placeR c.b (n - 1))] := b9
  have b8 := b8.step g (by omega)
  have b5 := b5.step g (by omega)
  have b6 := b6.step g (by omega)
  have eh := g.ext eh (by omega)
  have X5 := b5.ld
  simp (maxSteps := 4000000) (disch := omega) only [ah, am, Nat.reduceEqDiff, reduceCtorEq, Nat.reduceAdd, Nat.reduceLeDiff, Nat.reduceMul, Nat.reduceLT, if_true, if_false, true_and, and_true, and_self, Nat.reduceBEq, QOp.loads, boxO, bslO, buildO, cutL, fillV, putL, w7, v7, ea2, eb2, X5, W1, t0, t1, t2]
  obtain ⟨a, ha⟩ : ∃ a, a = atF n c := ⟨_, rfl⟩
  obtain ⟨r, hr⟩ : ∃ r, r = restF n c := ⟨_, rfl⟩
  have hway : Way n a r := by
    rw [ha, hr]; exact way c1 (by omega) (by omega) (by omega) P0.2 P1.2 P2.2
  have hbest := fun k hk => best (a0 := placeI c.r (n - 1)) (a1 := placeI c.g (n - 1)) (a2 := placeI c.b (n - 1)) (r0 := placeR c.r (n - 1)) (r1 := placeR c.g (n - 1)) (r2 := placeR c.b (n - 1)) (n := n) k hk
  rw [show ([placeI c.r (n - 1), placeI c.g (n - 1), placeI c.b (n - 1)] : List Int) = a from ha.symm, show ([placeR c.r (n - 1), placeR c.g (n - 1), placeR c.b (n - 1)] : List Int) = r from hr.symm] at hbest
  have ab : ∀ i, 0 ≤ a.getD i 0 ∧ a.getD i 0 ≤ 7 := by
    have h3 : ∀ i, i < 3 → i = 0 ∨ i = 1 ∨ i = 2 := by omega
    intro z
    by_cases hz : z < 3
    · rw [ha]; rcases h3 z hz with rfl | rfl | rfl
      · have := P0.1; change 0 ≤ placeI c.r (n - 1) ∧ placeI c.r (n - 1) ≤ 7; omega
      · have := P1.1; change 0 ≤ placeI c.g (n - 1) ∧ placeI c.g (n - 1) ≤ 7; omega
      · have := P2.1; change 0 ≤ placeI c.b (n - 1) ∧ placeI c.b (n - 1) ≤ 7; omega
    · rw [show a.getD z 0 = 0 by rw [ha]; simp [List.getD]; rw [List.getElem?_eq_none (by simp [atF]; omega)]; rfl]; omega
  have O8 := Bx_own b8 (enc := encI) (sz := 1) a encI_len (by omega) (by rw [ha]; rfl)
  have O9 := Bx_own b9 (enc := encI) (sz := 1) r encI_len (by omega) (by rw [hr]; rfl)
  obtain ⟨va, hva⟩ : ∃ va : Value, va = .slice (some ⟨q, 0, none⟩) 3 1 := ⟨_, rfl⟩
  obtain ⟨vr, hvr⟩ : ∃ vr : Value, vr = .slice (some ⟨q + 1, 0, none⟩) 3 1 := ⟨_, rfl⟩
  rw [show a.length = 3 by rw [ha]; rfl, ← hva] at O8
  rw [show r.length = 3 by rw [hr]; rfl, ← hvr] at O9
  rw [← hva, ← hvr]
  have hqm := Heap.get_lt b9
  clear b8 b9 b5 X5 B5 B6 e1 ea0 ea1 ea2 eb0 eb1 eb2 P0 P1 P2
  have Bd : Bx (Mb2.more [[.bool false, .bool false, .bool false]]) Mb2.size [.bool false, .bool false, .bool false] := Bx.new _ _ _
  have eM := Ext.more Mb2 [[.bool false, .bool false, .bool false]]
  obtain ⟨m, hm⟩ : ∃ m, m = Mb2.size := ⟨_, rfl⟩
  rw [← hm] at Bd hqm ⊢
  generalize Mb2.more [[.bool false, .bool false, .bool false]] = M0 at Bd eM ⊢
  have b6 := b6.ext eM
  have O8 := O8.ext eM
  have O9 := O9.ext eM
  have eh := eh.trans eM
  have Od := Bx_own Bd (enc := encB) (sz := 1) [false, false, false] encB_len (by omega) rfl
  obtain ⟨vd, hvd⟩ : ∃ vd : Value, vd = .slice (some ⟨m, 0, none⟩) 3 1 := ⟨_, rfl⟩
  rw [show ([false, false, false] : List Bool).length = 3 from rfl, ← hvd] at Od
  rw [← hvd]
  have bd : ∀ k : Nat, k ≤ 4 → ∀ f : Rgb → Int, (∀ x ∈ t, 0 ≤ f x ∧ f x ≤ 65535) → -((k : Int) * 4294836225) ≤ sumF n a r t f k ∧ sumF n a r t f k ≤ (k : Int) * 4294836225 := by
    intro k
    induction k with
    | zero => intro _ f hf; simp [sumF]
    | succ k ih =>
      intro hk f hf
      obtain ⟨i1, i2⟩ := ih (by omega) f hf
      obtain ⟨j1, j2⟩ := hway.ix k (by omega)
      have := hf (t.getD (idxF n a r k).toNat zRgb) (by rw [getD_atE (by omega)]; exact List.getElem_mem _)
      have mb := mul_bound this.1 this.2 (N := 65535) (by have := (hway.wt k (by omega)).2; omega) (hway.wt k (by omega)).2.2
      simp only [sumF]; omega
  have bp : ∀ k : Nat, k ≤ 3 → ∀ f : Rgb → Int, (∀ x ∈ t, 0 ≤ f x ∧ f x ≤ 65535) → -4294836225 ≤ f (t.getD (idxF n a r k).toNat zRgb) * (lftF r k - nxtF r k) ∧ f (t.getD (idxF n a r k).toNat zRgb) * (lftF r k - nxtF r k) ≤ 4294836225 := by
    intro k hk f hf
    obtain ⟨j1, j2⟩ := hway.ix k (by omega)
    have := hf (t.getD (idxF n a r k).toNat zRgb) (by rw [getD_atE (by omega)]; exact List.getElem_mem _)
    have mb := mul_bound this.1 this.2 (N := 65535) (by have := (hway.wt k (by omega)).2; omega) (hway.wt k (by omega)).2.2
    omega
  have fr : ∀ x ∈ t, 0 ≤ x.r ∧ x.r ≤ 65535 := fun x hx => (c4 x hx).1
  have fg : ∀ x ∈ t, 0 ≤ x.g ∧ x.g ≤ 65535 := fun x hx => (c4 x hx).2.1
  have fb : ∀ x ∈ t, 0 ≤ x.b ∧ x.b ≤ 65535 := fun x hx => (c4 x hx).2.2
  have ol := hway.ol
  have hlr : r.length = 3 := by rw [hr]; rfl
  have oc : ordF r = [0, 1, 2] ∨ ordF r = [0, 2, 1] ∨ ordF r = [1, 0, 2] ∨ ordF r = [1, 2, 0] ∨ ordF r = [2, 0, 1] ∨ ordF r = [2, 1, 0] := by
    have := ordF_cases (placeR c.r (n - 1)) (placeR c.g (n - 1)) (placeR c.b (n - 1))
    rw [show ([placeR c.r (n - 1), placeR c.g (n - 1), placeR c.b (n - 1)] : List Int) = r from hr.symm] at this
    rcases this with q | q | q | q | q | q <;> simp [q.1]
  have hnext := fun k hk => next a r k hk oc
  refine SW_loop_up (fun k E K => Ext h K ∧ Bx K (h.size + 1) [.int .i64 0, .int .i64 0, .int .i64 0] ∧ OwnT q K encI 1 va (apF a r k) ∧ OwnT (q + 1) K encI 1 vr r ∧ OwnT m K encB 1 vd (dnF r k) ∧
    E = [(0, .int .i64 n), (1, v), (6, .pointer (some ⟨h.size + 1, 0, none⟩)), (8, va), (9, vr), (10, .int .i64 (lftF r k)), (11, vd), (12, .int .i64 (sumF n a r t (·.r) k)), (13, .int .i64 (sumF n a r t (·.g) k)), (14, .int .i64 (sumF n a r t (·.b) k)), (15, .int .i64 (k : Int))]) 4 0 (by omega) ?_ ?_
  · refine ⟨eh, b6, ?_, O9, Od, rfl⟩
    rw [show apF a r 0 = a by rw [ha]; simp [apF, atF, List.getD]]; exact O8
  clear O8 O9 Od b6 eh eM eK hp hva hvr hvd
  rintro k E K hk ⟨eK, b6, O8, O9, Od, rfl⟩
  simp (maxSteps := 4000000) (disch := omega) only [ah, am, Nat.reduceEqDiff, reduceCtorEq, Nat.reduceAdd, Nat.reduceLeDiff, Nat.reduceMul, Nat.reduceLT, if_true, if_false, true_and, and_true, and_self, Nat.reduceBEq, QOp.loads, boxO, bslO, buildO, cutL, fillV, putL, w7, v7]
  refine stepI.split (fun hp => ?_) (fun hp => ?_)
  · have hk3 : k ≤ 3 := by omega
    simp (maxSteps := 4000000) (disch := omega) only [ah, am, Nat.reduceEqDiff, reduceCtorEq, Nat.reduceAdd, Nat.reduceLeDiff, Nat.reduceMul, Nat.reduceLT, if_true, if_false, true_and, and_true, and_self, Nat.reduceBEq, QOp.loads, boxO, bslO, buildO, cutL, fillV, putL, w7, v7]
    refine SW_loop_up (fun i E K' => K' = K ∧
      E = [(0, .int .i64 n), (1, v), (6, .pointer (some ⟨h.size + 1, 0, none⟩)), (8, va), (9, vr), (10, .int .i64 (lftF r k)), (11, vd), (12, .int .i64 (sumF n a r t (·.r) k)), (13, .int .i64 (sumF n a r t (·.g) k)), (14, .int .i64 (sumF n a r t (·.b) k)), (15, .int .i64 (k : Int)), (16, .int .i64 (bsF (dnF r k) r i)), (17, .int .i64 0), (18, .int .i64 (i : Int))]) 3 0 (by omega) ⟨rfl, rfl⟩ ?_
    rintro i E K' hi ⟨rfl, rfl⟩
    simp (maxSteps := 4000000) (disch := omega) only [ah, am, Nat.reduceEqDiff, reduceCtorEq, Nat.reduceAdd, Nat.reduceLeDiff, Nat.reduceMul, Nat.reduceLT, if_true, if_false, true_and, and_true, and_self, Nat.reduceBEq, QOp.loads, boxO, bslO, buildO, cutL, fillV, putL, w7, v7]
    refine stepI.split (fun hp => ?_) (fun hp => ?_)
    · have W : IntKind.i64.wrap ((i : Int) + 1) = ((i + 1 : Nat) : Int) := i64e (by omega) (by omega)
      have D := rdB Od (i := i) (by simp [dnF]; omega)
      have bb := bsF_b (dnF r k) r i
      obtain ⟨z, hz⟩ : ∃ z, z = (dnF r k).getD i false := ⟨_, rfl⟩
      rw [← hz] at D
      cases z with
      | true =>
        have hb : bsF (dnF r k) r (i + 1) = bsF (dnF r k) r i := by simp only [bsF]; rw [if_neg]; rw [← hz]; simp
        simp (maxSteps := 4000000) (disch := omega) only [ah, am, Nat.reduceEqDiff, reduceCtorEq, Nat.reduceAdd, Nat.reduceLeDiff, Nat.reduceMul, Nat.reduceLT, if_true, if_false, true_and, and_true, and_self, Nat.reduceBEq, QOp.loads, boxO, bslO, buildO, cutL, fillV, putL, w7, v7, D, W, hb]
        omega
      | false =>
        by_cases h0 : bsF (dnF r k) r i < 0
        · have hb : bsF (dnF r k) r (i + 1) = i := by simp only [bsF]; rw [if_pos]; exact ⟨hz.symm, .inl h0⟩
          simp (maxSteps := 4000000) (disch := omega) only [ah, am, Nat.reduceEqDiff, reduceCtorEq, Nat.reduceAdd, Nat.reduceLeDiff, Nat.reduceMul, Nat.reduceLT, if_true, if_false, true_and, and_true, and_self, Nat.reduceBEq, QOp.loads, boxO, bslO, buildO, cutL, fillV, putL, w7, v7, D, W, hb, decide_eq_true h0]
          omega
        · obtain ⟨b, hbe⟩ : ∃ b : Nat, bsF (dnF r k) r i = (b : Int) := ⟨(bsF (dnF r k) r i).toNat, by omega⟩
          have h0' : ¬ ((b : Int) < 0) := by omega
          have R1 := rdI O9 (i := i) (by omega)
          have R2 := rdI O9 (i := b) (by omega)
          by_cases h1 : r.getD b 0 < r.getD i 0
          · have hb : bsF (dnF r k) r (i + 1) = i := by simp only [bsF]; rw [if_pos]; refine ⟨hz.symm, .inr ?_⟩; rw [hbe]; exact h1
            simp (maxSteps := 4000000) (disch := omega) only [ah, am, Nat.reduceEqDiff, reduceCtorEq, Nat.reduceAdd, Nat.reduceLeDiff, Nat.reduceMul, Nat.reduceLT, if_true, if_false, true_and, and_true, and_self, Nat.reduceBEq, QOp.loads, boxO, bslO, buildO, cutL, fillV, putL, w7, v7, D, W, hb, decide_eq_false h0', hbe, R1, R2, decide_eq_true h1]
            omega
          · have hb : bsF (dnF r k) r (i + 1) = bsF (dnF r k) r i := by simp only [bsF]; rw [if_neg]; rw [hbe]; rintro ⟨_, h | h⟩; omega; exact h1 h
            simp (maxSteps := 4000000) (disch := omega) only [ah, am, Nat.reduceEqDiff, reduceCtorEq, Nat.reduceAdd, Nat.reduceLeDiff, Nat.reduceMul, Nat.reduceLT, if_true, if_false, true_and, and_true, and_self, Nat.reduceBEq, QOp.loads, boxO, bslO, buildO, cutL, fillV, putL, w7, v7, D, W, hb, decide_eq_false h0', hbe, R1, R2, decide_eq_false h1]
            omega
    · have : i = 3 := by omega
      subst this
      rw [(hbest k hk3).1]
      obtain ⟨x1, x2⟩ := hway.ix k hk3
      obtain ⟨y1, y2⟩ := hway.wt k hk3
      obtain ⟨o, ho⟩ : ∃ o, o = ((ordF r).getD k 0).toNat := ⟨_, rfl⟩
      obtain ⟨x, hx⟩ : ∃ x, x = t.getD (idxF n a r k).toNat zRgb := ⟨_, rfl⟩
      have hxt : x ∈ t := by rw [hx, getD_atE (by omega)]; exact List.getElem_mem _
      have T := (s.ext eK).rulesN
      have T1 : t[(idxF n a r k).toNat]'(by omega) = x := by rw [hx, getD_atE (by omega)]
      have W1 : IntKind.i64.wrap (lftF r k - nxtF r k) = lftF r k - nxtF r k := i64w (by omega)
      have W : IntKind.i64.wrap ((k : Int) + 1) = ((k + 1 : Nat) : Int) := i64e (by omega) (by omega)
      have es : ∀ f, sumF n a r t f (k + 1) = sumF n a r t f k + f x * (lftF r k - nxtF r k) := fun f => by rw [hx]; rfl
      have d1 := bd k (by omega)
      have d2 := bp k (by omega)
      rw [← hx] at d2
      have a1 : -((k : Int) * 4294836225) ≤ sumF n a r t (fun x => x.r) k ∧ sumF n a r t (fun x => x.r) k ≤ (k : Int) * 4294836225 := d1 _ fr
      have a2 : -4294836225 ≤ x.r * (lftF r k - nxtF r k) ∧ x.r * (lftF r k - nxtF r k) ≤ 4294836225 := d2 _ fr
      have a3 : -((k : Int) * 4294836225) ≤ sumF n a r t (fun x => x.g) k ∧ sumF n a r t (fun x => x.g) k ≤ (k : Int) * 4294836225 := d1 _ fg
      have a4 : -4294836225 ≤ x.g * (lftF r k - nxtF r k) ∧ x.g * (lftF r k - nxtF r k) ≤ 4294836225 := d2 _ fg
      have a5 : -((k : Int) * 4294836225) ≤ sumF n a r t (fun x => x.b) k ∧ sumF n a r t (fun x => x.b) k ≤ (k : Int) * 4294836225 := d1 _ fb
      have a6 : -4294836225 ≤ x.b * (lftF r k - nxtF r k) ∧ x.b * (lftF r k - nxtF r k) ≤ 4294836225 := d2 _ fb
      have e1 := es (·.r); have e2 := es (·.g); have e3 := es (·.b)
      have w1 : IntKind.i64.wrap (x.r * (lftF r k - nxtF r k)) = x.r * (lftF r k - nxtF r k) := i64w (by omega)
      have w2 : IntKind.i64.wrap (x.g * (lftF r k - nxtF r k)) = x.g * (lftF r k - nxtF r k) := i64w (by omega)
      have w3 : IntKind.i64.wrap (x.b * (lftF r k - nxtF r k)) = x.b * (lftF r k - nxtF r k) := i64w (by omega)
      have w4 : IntKind.i64.wrap (sumF n a r t (fun x => x.r) k + x.r * (lftF r k - nxtF r k)) = sumF n a r t (fun x => x.r) (k + 1) := i64e e1.symm (by omega)
      have w5 : IntKind.i64.wrap (sumF n a r t (fun x => x.g) k + x.g * (lftF r k - nxtF r k)) = sumF n a r t (fun x => x.g) (k + 1) := i64e e2.symm (by omega)
      have w6 : IntKind.i64.wrap (sumF n a r t (fun x => x.b) k + x.b * (lftF r k - nxtF r k)) = sumF n a r t (fun x => x.b) (k + 1) := i64e e3.symm (by omega)
      clear d1 d2 bd bp es
      have al : (apF a r k).length = 3 := rfl
      have A0 := rdI O8 (i := 0) (by omega)
      have A1 := rdI O8 (i := 1) (by omega)
      have A2 := rdI O8 (i := 2) (by omega)
      rw [show ((0 : Nat) : Int) = 0 from rfl] at A0
      rw [show ((1 : Nat) : Int) = 1 from rfl] at A1
      rw [show ((2 : Nat) : Int) = 2 from rfl] at A2
      have hix := (hbest k hk3).2
      have apb : ∀ i, 0 ≤ (apF a r k).getD i 0 ∧ (apF a r k).getD i 0 ≤ 8 := by
        have h3 : ∀ i, i < 3 → i = 0 ∨ i = 1 ∨ i = 2 := by omega
        intro z
        by_cases hz : z < 3
        · rcases h3 z hz with rfl | rfl | rfl
          · have := ab 0; change 0 ≤ a.getD 0 0 + _ ∧ a.getD 0 0 + _ ≤ (8 : Int); split <;> omega
          · have := ab 1; change 0 ≤ a.getD 1 0 + _ ∧ a.getD 1 0 + _ ≤ (8 : Int); split <;> omega
          · have := ab 2; change 0 ≤ a.getD 2 0 + _ ∧ a.getD 2 0 + _ ≤ (8 : Int); split <;> omega
        · rw [show (apF a r k).getD z 0 = 0 by simp [List.getD]; rw [List.getElem?_eq_none (by omega)]; rfl]; omega
      have p0 := apb 0; have p1 := apb 1; have p2 := apb 2
      obtain ⟨z0, hz0⟩ : ∃ z, z = (apF a r k).getD 0 0 := ⟨_, rfl⟩
      obtain ⟨z1, hz1⟩ : ∃ z, z = (apF a r k).getD 1 0 := ⟨_, rfl⟩
      obtain ⟨z2, hz2⟩ : ∃ z, z = (apF a r k).getD 2 0 := ⟨_, rfl⟩
      rw [← hz0] at A0 hix p0
      rw [← hz1] at A1 hix p1
      rw [← hz2] at A2 hix p2
      have m1 := mul_bound p0.1 p0.2 (N := 9) (y := n) (by omega) c1.2
      have m0 := Int.mul_nonneg p0.1 (show 0 ≤ n by omega)
      have m2 := mul_bound (x := z0 * n + z1) (M := 80) (by omega) (by omega) (N := 9) (y := n) (by omega) c1.2
      have u1 : IntKind.i64.wrap (z0 * n) = z0 * n := i64w (by omega)
      have u2 : IntKind.i64.wrap (z0 * n + z1) = z0 * n + z1 := i64w (by omega)
      have u3 : IntKind.i64.wrap ((z0 * n + z1) * n) = (z0 * n + z1) * n := i64w (by omega)
      have u4 : IntKind.i64.wrap ((z0 * n + z1) * n + z2) = (((idxF n a r k).toNat : Nat) : Int) := i64e (by omega) (by omega)
      have eX := Ext.more K' [[.int .i64 x.r, .int .i64 x.g, .int .i64 x.b]]
      have BX : Bx (K'.more [[.int .i64 x.r, .int .i64 x.g, .int .i64 x.b]]) K'.size [.int .i64 x.r, .int .i64 x.g, .int .i64 x.b] := Bx.new _ _ _
      have X := BX.ld
      have X0 := X.1 0; have X1 := X.1 1; have X2 := X.1 2
      simp only [List.getElem?_cons_zero, List.getElem?_cons_succ] at X0 X1 X2
      clear X
      have O8 := O8.ext eX
      have O9' := O9.ext eX
      have Od := Od.ext eX
      have b6 := b6.ext eX
      have eK := eK.trans eX
      by_cases h3 : k < 3
      · have om := hway.om ((ordF r)[k]'(by omega)) (List.getElem_mem _)
        have oe : (ordF r).getD k 0 = (ordF r)[k]'(by omega) := getD_atE (by omega) 0
        have oi : orK r k = (o : Int) := by rw [orK, if_pos h3]; omega
        have ho3 : o < 3 := by omega
        have hne : nxtF r k = r.getD o 0 := by unfold nxtF; rw [if_pos h3, ← ho]
        have R1 := rdI O9 (i := o) (by omega)
        rw [← hne] at R1
        have D1 : decide ((0 : Int) ≤ (o : Int)) = true := decide_eq_true (by omega)
        obtain ⟨n1, n2⟩ := hnext k h3
        rw [← ho] at n1 n2
        rw [oi]
        have A3 := rdI O8 (i := o) (by omega)
        have D3 := rdB Od (i := o) (by simp [dnF]; omega)
        obtain ⟨K2, es, Od, g⟩ := wrB Od (i := o) (by simp [dnF]; omega) true
        rw [n1] at Od
        have O8 := O8.extG g (by omega)
        have O9' := O9'.extG g (by omega)
        have b6 := b6.step g (by omega)
        have eK := g.ext eK (by omega)
        have A4 := rdI O8 (i := o) (by omega)
        have po := apb o
        have u5 : IntKind.i64.wrap ((apF a r k).getD o 0 + 1) = (apF a r k).getD o 0 + 1 := i64w (by omega)
        obtain ⟨K3, es2, O8, g⟩ := wrI O8 (i := o) (by omega) ((apF a r k).getD o 0 + 1)
        rw [n2] at O8
        have Od := Od.extG g (by omega)
        have O9' := O9'.extG g (by omega)
        have b6 := b6.step g (by omega)
        have eK := g.ext eK (by omega)
        simp (maxSteps := 4000000) (disch := omega) only [ah, am, Nat.reduceEqDiff, reduceCtorEq, Nat.reduceAdd, Nat.reduceLeDiff, Nat.reduceMul, Nat.reduceLT, if_true, if_false, true_and, and_true, and_self, Nat.reduceBEq, QOp.loads, boxO, bslO, buildO, cutL, fillV, putL, w7, v7, D1, R1, W, W1, A0, A1, A2, u1, u2, u3, u4, T, T1, encRgb, X0, X1, X2, w1, w2, w3, w4, w5, w6, D3, es, A3.1, A4, u5, es2]
        exact ⟨by omega, eK, b6, O8, O9', Od, rfl⟩
      · have k3 : k = 3 := by omega
        have oi : orK r k = -1 := by rw [orK, if_neg h3]
        have N0 : nxtF r k = 0 := by unfold nxtF; rw [if_neg h3]
        have D1 : decide ((0 : Int) ≤ (-1 : Int)) = false := by decide
        rw [oi]
        rw [N0] at w1 w2 w3 w4 w5 w6 W1
        simp (maxSteps := 4000000) (disch := omega) only [ah, am, Nat.reduceEqDiff, reduceCtorEq, Nat.reduceAdd, Nat.reduceLeDiff, Nat.reduceMul, Nat.reduceLT, if_true, if_false, true_and, and_true, and_self, Nat.reduceBEq, QOp.loads, boxO, bslO, buildO, cutL, fillV, putL, w7, v7, D1, W, W1, A0, A1, A2, u1, u2, u3, u4, T, T1, encRgb, X0, X1, X2, w1, w2, w3, w4, w5, w6]
        have ap4 : apF a r (k + 1) = apF a r k := by unfold apF; rw [List.take_of_length_le (by omega), List.take_of_length_le (by omega)]
        have dn4 : dnF r (k + 1) = dnF r k := by unfold dnF; rw [List.take_of_length_le (by omega), List.take_of_length_le (by omega)]
        rw [ap4, dn4]
        refine ⟨by omega, eK, b6, O8, O9', Od, ?_⟩
        rw [show lftF r (k + 1) = nxtF r k from rfl, N0]
  · have : k = 4 := by omega
    subst this
    have f1 : -100000000000000 ≤ sumF n a r t (fun x => x.r) 4 ∧ sumF n a r t (fun x => x.r) 4 ≤ 100000000000000 := by
      have a1 : -(((4 : Nat) : Int) * 4294836225) ≤ sumF n a r t (fun x => x.r) 4 ∧ sumF n a r t (fun x => x.r) 4 ≤ ((4 : Nat) : Int) * 4294836225 := bd 4 (by omega) _ fr
      omega
    have f2 : -100000000000000 ≤ sumF n a r t (fun x => x.g) 4 ∧ sumF n a r t (fun x => x.g) 4 ≤ 100000000000000 := by
      have a1 : -(((4 : Nat) : Int) * 4294836225) ≤ sumF n a r t (fun x => x.g) 4 ∧ sumF n a r t (fun x => x.g) 4 ≤ ((4 : Nat) : Int) * 4294836225 := bd 4 (by omega) _ fg
      omega
    have f3 : -100000000000000 ≤ sumF n a r t (fun x => x.b) 4 ∧ sumF n a r t (fun x => x.b) 4 ≤ 100000000000000 := by
      have a1 : -(((4 : Nat) : Int) * 4294836225) ≤ sumF n a r t (fun x => x.b) 4 ∧ sumF n a r t (fun x => x.b) 4 ≤ ((4 : Nat) : Int) * 4294836225 := bd 4 (by omega) _ fb
      omega
    simp (maxSteps := 4000000) (disch := omega) only [ah, am, Nat.reduceEqDiff, reduceCtorEq, Nat.reduceAdd, Nat.reduceLeDiff, Nat.reduceMul, Nat.reduceLT, if_true, if_false, true_and, and_true, and_self, Nat.reduceBEq, QOp.loads, boxO, bslO, buildO, cutL, fillV, putL, w7, v7]
    refine stepC.of (l9Round_ok _ _ _ (by omega) f1) ?_
    rintro _ Hx ⟨hx, rfl⟩; rw [hx]; clear hx Hx
    simp (maxSteps := 4000000) (disch := omega) only [ah, am, Nat.reduceEqDiff, reduceCtorEq, Nat.reduceAdd, Nat.reduceLeDiff, Nat.reduceMul, Nat.reduceLT, if_true, if_false, true_and, and_true, and_self, Nat.reduceBEq, QOp.loads, boxO, bslO, buildO, cutL, fillV, putL, w7, v7]
    refine stepC.of (l9Round_ok _ _ _ (by omega) f2) ?_
    rintro _ Hx ⟨hx, rfl⟩; rw [hx]; clear hx Hx
    simp (maxSteps := 4000000) (disch := omega) only [ah, am, Nat.reduceEqDiff, reduceCtorEq, Nat.reduceAdd, Nat.reduceLeDiff, Nat.reduceMul, Nat.reduceLT, if_true, if_false, true_and, and_true, and_self, Nat.reduceBEq, QOp.loads, boxO, bslO, buildO, cutL, fillV, putL, w7, v7]
    refine stepC.of (l9Round_ok _ _ _ (by omega) f3) ?_
    rintro _ Hx ⟨hx, rfl⟩; rw [hx]; clear hx Hx
    obtain ⟨K2, es, b2, g⟩ := b6.put (o := 0) (n := 3) (y := .agg (encRgb (cubeL n t c)).toArray) rfl (by simp) rfl
    have V6 : ldnV K2 3 (.pointer (some ⟨h.size + 1, 0, none⟩)) = some (.agg (encRgb (cubeL n t c)).toArray) := by rw [b2.ld.2]; rfl
    rw [show (Value.agg (encRgb (cubeL n t c)).toArray) = .agg #[.int .i64 (near (sumF n a r t (fun x => x.r) 4) 65535), .int .i64 (near (sumF n a r t (fun x => x.g) 4) 65535), .int .i64 (near (sumF n a r t (fun x => x.b) 4) 65535)] by rw [ha, hr]; rfl] at es V6
    simp (maxSteps := 4000000) (disch := omega) only [ah, am, Nat.reduceEqDiff, reduceCtorEq, Nat.reduceAdd, Nat.reduceLeDiff, Nat.reduceMul, Nat.reduceLT, if_true, if_false, true_and, and_true, and_self, Nat.reduceBEq, QOp.loads, boxO, bslO, buildO, cutL, fillV, putL, w7, v7, es, V6]
    rw [ha, hr]; exact ⟨g.ext eK (by omega), rfl⟩
end Go.Proofs.Ytmhbmbhdeofbaaa
