import Derived.Test.YtbnkpligdcponaaN8
namespace Go.Proofs.Ytbnkpligdcponaa
open Go Go.Ah
set_option linter.unusedSimpArgs false
set_option linter.unusedVariables false
set_option maxRecDepth 10000
set_option maxHeartbeats 4000000
/-! 23 loop.example/g00066/spec.Farm: parameters 2, live [0, 1], slots [0:job, 1:workers, 2:job, 3:workers, 5:out, 6:free, 7:ends, 8:taken, 9:time, 10:w, 11:i, 12:fine, 13:k, 14:n, 15:next, 16:i] -/
def c23_0 : List SOper := [⟨some 4, .q (.mv (.c (.slice none 0 0))), none⟩]
def c23_1 : List SOper := [⟨some 17, .a (.bsl 0 4 [] []), none⟩, ⟨some 5, .q (.mv (.t 17)), none⟩]
def c23_2 : List SOper := [⟨some 18, .q (.mv (.t 0)), none⟩, ⟨some 19, .e (.call 28 [(.t 18)]), none⟩, ⟨some 20, .q (.not (.t 19)), none⟩, ⟨some 21, .q (.mv (.t 20)), none⟩, ⟨some 22, .q (.mv (.t 1)), some (21, false)⟩, ⟨some 23, .e (.call 51 [(.t 22), (.c (.int .i64 1)), (.c (.int .i64 50))]), some (21, false)⟩, ⟨some 24, .q (.not (.t 23)), some (21, false)⟩, ⟨some 25, .q (.pick (.t 21) (.c (.bool true)) (.t 24)), none⟩]
def c23_3 : List SOper := [⟨some 26, .q (.mv (.t 5)), none⟩, ⟨some 4, .q (.mv (.t 26)), none⟩]
def c23_4 : SCode := .seq (.region c23_3 [4]) .ret
def c23_5 : SCode := .cond (.t 25) c23_4 .skip
def c23_6 : SCode := .seq (.region c23_2 [0, 1, 5, 25]) c23_5
def c23_7 : List SOper := [⟨some 27, .q (.mv (.t 1)), none⟩, ⟨some 28, .a (.mks 8 1 [(.int .i64 0)] (.t 27) (.t 27)), none⟩, ⟨some 6, .q (.mv (.t 28)), none⟩]
def c23_8 : List SOper := [⟨some 29, .q (.mv (.t 0)), none⟩, ⟨some 30, .q (.len (.t 29)), none⟩, ⟨some 31, .a (.mks 8 1 [(.int .i64 0)] (.t 30) (.t 30)), none⟩, ⟨some 7, .q (.mv (.t 31)), none⟩]
def c23_9 : List SOper := [⟨some 32, .q (.mv (.t 0)), none⟩, ⟨some 33, .q (.len (.t 32)), none⟩, ⟨some 34, .a (.mks 1 1 [(.bool false)] (.t 33) (.t 33)), none⟩, ⟨some 8, .q (.mv (.t 34)), none⟩]
def c23_10 : List SOper := [⟨some 9, .q (.mv (.c (.int .i64 0))), none⟩]
def c23_11 : List SOper := [⟨some 35, .q (.mv (.t 5)), none⟩, ⟨some 36, .q (.len (.t 35)), none⟩, ⟨some 37, .q (.mv (.t 0)), none⟩, ⟨some 38, .q (.len (.t 37)), none⟩, ⟨some 39, .q (.bin .lss (.t 36) (.t 38)), none⟩]
def c23_12 : SCode := .cond (.t 39) .skip (.exit 0)
def c23_13 : SCode := .seq (.region c23_11 [0, 1, 5, 6, 7, 8, 9, 39]) c23_12
def c23_14 : List SOper := [⟨some 10, .q (.mv (.c (.int .i64 0))), none⟩]
def c23_15 : List SOper := [⟨some 40, .q (.mv (.t 10)), none⟩, ⟨some 41, .q (.mv (.t 1)), none⟩, ⟨some 42, .q (.bin .lss (.t 40) (.t 41)), none⟩]
def c23_16 : SCode := .cond (.t 42) .skip (.exit 2)
def c23_17 : SCode := .seq (.region c23_15 [0, 1, 5, 6, 7, 8, 9, 10, 42]) c23_16
def c23_18 : List SOper := [⟨some 45, .q (.mv (.t 6)), none⟩, ⟨some 46, .q (.mv (.t 10)), none⟩, ⟨some 47, .q (.ia 1 (.t 45) (.t 46)), none⟩, ⟨some 48, .q (.ld (.t 47)), none⟩, ⟨some 49, .q (.mv (.t 9)), none⟩, ⟨some 50, .q (.bin .gtr (.t 48) (.t 49)), none⟩]
def c23_19 : SCode := .cond (.t 50) (.exit 3) .skip
def c23_20 : SCode := .seq (.region c23_18 [0, 1, 5, 6, 7, 8, 9, 10, 50]) c23_19
def c23_21 : List SOper := [⟨some 11, .q (.mv (.c (.int .i64 0))), none⟩]
def c23_22 : List SOper := [⟨some 51, .q (.mv (.t 11)), none⟩, ⟨some 52, .q (.mv (.t 0)), none⟩, ⟨some 53, .q (.len (.t 52)), none⟩, ⟨some 54, .q (.bin .lss (.t 51) (.t 53)), none⟩]
def c23_23 : SCode := .cond (.t 54) .skip (.exit 4)
def c23_24 : SCode := .seq (.region c23_22 [0, 1, 5, 6, 7, 8, 9, 10, 11, 54]) c23_23
def c23_25 : List SOper := [⟨some 57, .q (.mv (.t 8)), none⟩, ⟨some 58, .q (.mv (.t 11)), none⟩, ⟨some 59, .q (.ia 1 (.t 57) (.t 58)), none⟩, ⟨some 60, .q (.ld (.t 59)), none⟩]
def c23_26 : SCode := .cond (.t 60) (.exit 5) .skip
def c23_27 : SCode := .seq (.region c23_25 [0, 1, 5, 6, 7, 8, 9, 10, 11, 60]) c23_26
def c23_28 : List SOper := [⟨some 12, .q (.mv (.c (.bool true))), none⟩]
def c23_29 : List SOper := [⟨some 13, .q (.mv (.c (.int .i64 0))), none⟩]
def c23_30 : List SOper := [⟨some 61, .q (.mv (.t 13)), none⟩, ⟨some 62, .q (.mv (.t 0)), none⟩, ⟨some 63, .q (.mv (.t 11)), none⟩, ⟨some 64, .q (.ia 4 (.t 62) (.t 63)), none⟩, ⟨some 65, .q (.fa 2 (.t 64)), none⟩, ⟨some 66, .q (.ld (.t 65)), none⟩, ⟨some 67, .q (.len (.t 66)), none⟩, ⟨some 68, .q (.bin .lss (.t 61) (.t 67)), none⟩]
def c23_31 : SCode := .cond (.t 68) .skip (.exit 6)
def c23_32 : SCode := .seq (.region c23_30 [0, 1, 5, 6, 7, 8, 9, 10, 11, 12, 13, 68]) c23_31
def c23_33 : List SOper := [⟨some 71, .q (.mv (.t 0)), none⟩, ⟨some 72, .q (.mv (.t 11)), none⟩, ⟨some 73, .q (.ia 4 (.t 71) (.t 72)), none⟩, ⟨some 74, .q (.fa 2 (.t 73)), none⟩, ⟨some 75, .q (.ld (.t 74)), none⟩, ⟨some 76, .q (.mv (.t 13)), none⟩, ⟨some 77, .q (.ia 1 (.t 75) (.t 76)), none⟩, ⟨some 78, .q (.ld (.t 77)), none⟩, ⟨some 14, .q (.mv (.t 78)), none⟩]
def c23_34 : List SOper := [⟨some 79, .q (.mv (.t 12)), none⟩, ⟨some 80, .q (.mv (.t 79)), none⟩, ⟨some 81, .q (.mv (.t 8)), some (80, true)⟩, ⟨some 82, .q (.mv (.t 14)), some (80, true)⟩, ⟨some 83, .q (.ia 1 (.t 81) (.t 82)), some (80, true)⟩, ⟨some 84, .q (.ld (.t 83)), some (80, true)⟩, ⟨some 85, .q (.pick (.t 80) (.t 84) (.c (.bool false))), none⟩, ⟨some 86, .q (.mv (.t 85)), none⟩, ⟨some 87, .q (.mv (.t 7)), some (86, true)⟩, ⟨some 88, .q (.mv (.t 14)), some (86, true)⟩, ⟨some 89, .q (.ia 1 (.t 87) (.t 88)), some (86, true)⟩, ⟨some 90, .q (.ld (.t 89)), some (86, true)⟩, ⟨some 91, .q (.mv (.t 9)), some (86, true)⟩, ⟨some 92, .q (.bin .leq (.t 90) (.t 91)), some (86, true)⟩, ⟨some 93, .q (.pick (.t 86) (.t 92) (.c (.bool false))), none⟩, ⟨some 12, .q (.mv (.t 93)), none⟩]
def c23_35 : SCode := .seq (.region c23_33 [0, 1, 5, 6, 7, 8, 9, 10, 11, 12, 13, 14]) (.region c23_34 [0, 1, 5, 6, 7, 8, 9, 10, 11, 12, 13])
def c23_36 : SCode := .block 7 c23_35
def c23_37 : List SOper := [⟨some 69, .q (.mv (.t 13)), none⟩, ⟨some 70, .q (.bin .add (.t 69) (.c (.int .i64 1))), none⟩, ⟨some 13, .q (.mv (.t 70)), none⟩]
def c23_38 : SCode := .seq c23_36 (.region c23_37 [0, 1, 5, 6, 7, 8, 9, 10, 11, 12, 13])
def c23_39 : SCode := .seq c23_32 c23_38
def c23_40 : SCode := .loop c23_39
def c23_41 : SCode := .block 6 c23_40
def c23_42 : SCode := .seq (.region c23_29 [0, 1, 5, 6, 7, 8, 9, 10, 11, 12, 13]) c23_41
def c23_43 : List SOper := [⟨some 94, .q (.mv (.t 12)), none⟩]
def c23_44 : List SOper := [⟨some 95, .q (.mv (.t 8)), none⟩, ⟨some 96, .q (.mv (.t 11)), none⟩, ⟨some 97, .q (.ia 1 (.t 95) (.t 96)), none⟩, ⟨none, .e (.st 1 (.t 97) (.c (.bool true))), none⟩]
def c23_45 : List SOper := [⟨some 98, .q (.mv (.t 7)), none⟩, ⟨some 99, .q (.mv (.t 11)), none⟩, ⟨some 100, .q (.mv (.t 9)), none⟩, ⟨some 101, .q (.mv (.t 0)), none⟩, ⟨some 102, .q (.mv (.t 11)), none⟩, ⟨some 103, .q (.ia 4 (.t 101) (.t 102)), none⟩, ⟨some 104, .q (.fa 3 (.t 103)), none⟩, ⟨some 105, .q (.ld (.t 104)), none⟩, ⟨some 106, .q (.bin .add (.t 100) (.t 105)), none⟩, ⟨some 107, .q (.ia 1 (.t 98) (.t 99)), none⟩, ⟨none, .e (.st 1 (.t 107) (.t 106)), none⟩]
def c23_46 : List SOper := [⟨some 108, .q (.mv (.t 6)), none⟩, ⟨some 109, .q (.mv (.t 10)), none⟩, ⟨some 110, .q (.mv (.t 7)), none⟩, ⟨some 111, .q (.mv (.t 11)), none⟩, ⟨some 112, .q (.ia 1 (.t 110) (.t 111)), none⟩, ⟨some 113, .q (.ld (.t 112)), none⟩, ⟨some 114, .q (.ia 1 (.t 108) (.t 109)), none⟩, ⟨none, .e (.st 1 (.t 114) (.t 113)), none⟩]
def c23_47 : List SOper := [⟨some 115, .q (.mv (.t 5)), none⟩, ⟨some 116, .q (.mv (.t 11)), none⟩, ⟨some 117, .q (.mv (.t 10)), none⟩, ⟨some 118, .q (.mv (.t 9)), none⟩, ⟨some 119, .q (.mv (.t 7)), none⟩, ⟨some 120, .q (.mv (.t 11)), none⟩, ⟨some 121, .q (.ia 1 (.t 119) (.t 120)), none⟩, ⟨some 122, .q (.ld (.t 121)), none⟩, ⟨some 123, .q (.build [(.int .i64 0), (.int .i64 0), (.int .i64 0), (.int .i64 0)] [(0, 1, (.t 116)), (1, 1, (.t 117)), (2, 1, (.t 118)), (3, 1, (.t 122))]), none⟩, ⟨some 124, .a (.bsl 1 4 [(.int .i64 0), (.int .i64 0), (.int .i64 0), (.int .i64 0)] [(0, 4, (.t 123))]), none⟩, ⟨some 125, .e (.app 32 4 (.t 115) (.t 124)), none⟩, ⟨some 5, .q (.mv (.t 125)), none⟩]
def c23_48 : SCode := .seq (.region c23_47 [0, 1, 5, 6, 7, 8, 9, 10]) (.exit 4)
def c23_49 : SCode := .seq (.region c23_46 [0, 1, 5, 6, 7, 8, 9, 10, 11]) c23_48
def c23_50 : SCode := .seq (.region c23_45 [0, 1, 5, 6, 7, 8, 9, 10, 11]) c23_49
def c23_51 : SCode := .seq (.region c23_44 [0, 1, 5, 6, 7, 8, 9, 10, 11]) c23_50
def c23_52 : SCode := .cond (.t 94) c23_51 .skip
def c23_53 : SCode := .seq (.region c23_43 [0, 1, 5, 6, 7, 8, 9, 10, 11, 94]) c23_52
def c23_54 : SCode := .seq c23_42 c23_53
def c23_55 : SCode := .seq (.region c23_28 [0, 1, 5, 6, 7, 8, 9, 10, 11, 12]) c23_54
def c23_56 : SCode := .seq c23_27 c23_55
def c23_57 : SCode := .block 5 c23_56
def c23_58 : List SOper := [⟨some 55, .q (.mv (.t 11)), none⟩, ⟨some 56, .q (.bin .add (.t 55) (.c (.int .i64 1))), none⟩, ⟨some 11, .q (.mv (.t 56)), none⟩]
def c23_59 : SCode := .seq c23_57 (.region c23_58 [0, 1, 5, 6, 7, 8, 9, 10, 11])
def c23_60 : SCode := .seq c23_24 c23_59
def c23_61 : SCode := .loop c23_60
def c23_62 : SCode := .block 4 c23_61
def c23_63 : SCode := .seq (.region c23_21 [0, 1, 5, 6, 7, 8, 9, 10, 11]) c23_62
def c23_64 : SCode := .seq c23_20 c23_63
def c23_65 : SCode := .block 3 c23_64
def c23_66 : List SOper := [⟨some 43, .q (.mv (.t 10)), none⟩, ⟨some 44, .q (.bin .add (.t 43) (.c (.int .i64 1))), none⟩, ⟨some 10, .q (.mv (.t 44)), none⟩]
def c23_67 : SCode := .seq c23_65 (.region c23_66 [0, 1, 5, 6, 7, 8, 9, 10])
def c23_68 : SCode := .seq c23_17 c23_67
def c23_69 : SCode := .loop c23_68
def c23_70 : SCode := .block 2 c23_69
def c23_71 : SCode := .seq (.region c23_14 [0, 1, 5, 6, 7, 8, 9, 10]) c23_70
def c23_72 : List SOper := [⟨some 15, .q (.mv (.c (.int .i64 (-1)))), none⟩]
def c23_73 : List SOper := [⟨some 16, .q (.mv (.c (.int .i64 0))), none⟩]
def c23_74 : List SOper := [⟨some 126, .q (.mv (.t 16)), none⟩, ⟨some 127, .q (.mv (.t 0)), none⟩, ⟨some 128, .q (.len (.t 127)), none⟩, ⟨some 129, .q (.bin .lss (.t 126) (.t 128)), none⟩]
def c23_75 : SCode := .cond (.t 129) .skip (.exit 8)
def c23_76 : SCode := .seq (.region c23_74 [0, 1, 5, 6, 7, 8, 9, 15, 16, 129]) c23_75
def c23_77 : List SOper := [⟨some 132, .q (.mv (.t 8)), none⟩, ⟨some 133, .q (.mv (.t 16)), none⟩, ⟨some 134, .q (.ia 1 (.t 132) (.t 133)), none⟩, ⟨some 135, .q (.ld (.t 134)), none⟩, ⟨some 136, .q (.mv (.t 135)), none⟩, ⟨some 137, .q (.mv (.t 7)), some (136, true)⟩, ⟨some 138, .q (.mv (.t 16)), some (136, true)⟩, ⟨some 139, .q (.ia 1 (.t 137) (.t 138)), some (136, true)⟩, ⟨some 140, .q (.ld (.t 139)), some (136, true)⟩, ⟨some 141, .q (.mv (.t 9)), some (136, true)⟩, ⟨some 142, .q (.bin .gtr (.t 140) (.t 141)), some (136, true)⟩, ⟨some 143, .q (.pick (.t 136) (.t 142) (.c (.bool false))), none⟩, ⟨some 144, .q (.mv (.t 143)), none⟩, ⟨some 145, .q (.mv (.t 15)), some (144, true)⟩, ⟨some 146, .q (.bin .lss (.t 145) (.c (.int .i64 0))), some (144, true)⟩, ⟨some 147, .q (.mv (.t 146)), some (144, true)⟩, ⟨some 148, .q (.mv (.t 7)), some (147, false)⟩, ⟨some 149, .q (.mv (.t 16)), some (147, false)⟩, ⟨some 150, .q (.ia 1 (.t 148) (.t 149)), some (147, false)⟩, ⟨some 151, .q (.ld (.t 150)), some (147, false)⟩, ⟨some 152, .q (.mv (.t 15)), some (147, false)⟩, ⟨some 153, .q (.bin .lss (.t 151) (.t 152)), some (147, false)⟩, ⟨some 154, .q (.pick (.t 147) (.c (.bool true)) (.t 153)), some (144, true)⟩, ⟨some 155, .q (.pick (.t 144) (.t 154) (.c (.bool false))), none⟩]
def c23_78 : List SOper := [⟨some 156, .q (.mv (.t 7)), none⟩, ⟨some 157, .q (.mv (.t 16)), none⟩, ⟨some 158, .q (.ia 1 (.t 156) (.t 157)), none⟩, ⟨some 159, .q (.ld (.t 158)), none⟩, ⟨some 15, .q (.mv (.t 159)), none⟩]
def c23_79 : SCode := .cond (.t 155) (.region c23_78 [0, 1, 5, 6, 7, 8, 9, 15, 16]) .skip
def c23_80 : SCode := .seq (.region c23_77 [0, 1, 5, 6, 7, 8, 9, 15, 16, 155]) c23_79
def c23_81 : SCode := .block 9 c23_80
def c23_82 : List SOper := [⟨some 130, .q (.mv (.t 16)), none⟩, ⟨some 131, .q (.bin .add (.t 130) (.c (.int .i64 1))), none⟩, ⟨some 16, .q (.mv (.t 131)), none⟩]
def c23_83 : SCode := .seq c23_81 (.region c23_82 [0, 1, 5, 6, 7, 8, 9, 15, 16])
def c23_84 : SCode := .seq c23_76 c23_83
def c23_85 : SCode := .loop c23_84
def c23_86 : SCode := .block 8 c23_85
def c23_87 : SCode := .seq (.region c23_73 [0, 1, 5, 6, 7, 8, 9, 15, 16]) c23_86
def c23_88 : List SOper := [⟨some 160, .q (.mv (.t 15)), none⟩, ⟨some 9, .q (.mv (.t 160)), none⟩]
def c23_89 : SCode := .seq c23_87 (.region c23_88 [0, 1, 5, 6, 7, 8, 9])
def c23_90 : SCode := .seq (.region c23_72 [0, 1, 5, 6, 7, 8, 9, 15]) c23_89
def c23_91 : SCode := .seq c23_71 c23_90
def c23_92 : SCode := .block 1 c23_91
def c23_93 : SCode := .seq c23_13 c23_92
def c23_94 : SCode := .loop c23_93
def c23_95 : SCode := .block 0 c23_94
def c23_96 : SCode := .seq (.region c23_10 [0, 1, 5, 6, 7, 8, 9]) c23_95
def c23_97 : List SOper := [⟨some 161, .q (.mv (.t 5)), none⟩, ⟨some 4, .q (.mv (.t 161)), none⟩]
def c23_98 : SCode := .seq (.region c23_97 [4]) .ret
def c23_99 : SCode := .seq c23_96 c23_98
def c23_100 : SCode := .seq (.region c23_9 [0, 1, 5, 6, 7, 8]) c23_99
def c23_101 : SCode := .seq (.region c23_8 [0, 1, 5, 6, 7]) c23_100
def c23_102 : SCode := .seq (.region c23_7 [0, 1, 5, 6]) c23_101
def c23_103 : SCode := .seq c23_6 c23_102
def c23_104 : SCode := .seq (.region c23_1 [0, 1, 5]) c23_103
def c23_105 : SCode := .seq (.region c23_0 [0, 1]) c23_104
def c23 : SCode := c23_105
theorem w23 : type_of% (And.intro (uR Try.prog c23_0.eq_1) (And.intro (uR Try.prog c23_1.eq_1) (And.intro (uR Try.prog c23_2.eq_1) (And.intro (uR Try.prog c23_3.eq_1) (And.intro (uC Try.prog c23_4.eq_1) (And.intro (uC Try.prog c23_5.eq_1) (And.intro (uC Try.prog c23_6.eq_1) (And.intro (uR Try.prog c23_7.eq_1) (And.intro (uR Try.prog c23_8.eq_1) (And.intro (uR Try.prog c23_9.eq_1) (And.intro (uR Try.prog c23_10.eq_1) (And.intro (uR Try.prog c23_11.eq_1) (And.intro (uC Try.prog c23_12.eq_1) (And.intro (uC Try.prog c23_13.eq_1) (And.intro (uR Try.prog c23_14.eq_1) (And.intro (uR Try.prog c23_15.eq_1) (And.intro (uC Try.prog c23_16.eq_1) (And.intro (uC Try.prog c23_17.eq_1) (And.intro (uR Try.prog c23_18.eq_1) (And.intro (uC Try.prog c23_19.eq_1) (And.intro (uC Try.prog c23_20.eq_1) (And.intro (uR Try.prog c23_21.eq_1) (And.intro (uR Try.prog c23_22.eq_1) (And.intro (uC Try.prog c23_23.eq_1) (And.intro (uC Try.prog c23_24.eq_1) (And.intro (uR Try.prog c23_25.eq_1) (And.intro (uC Try.prog c23_26.eq_1) (And.intro (uC Try.prog c23_27.eq_1) (And.intro (uR Try.prog c23_28.eq_1) (And.intro (uR Try.prog c23_29.eq_1) (And.intro (uR Try.prog c23_30.eq_1) (And.intro (uC Try.prog c23_31.eq_1) (And.intro (uC Try.prog c23_32.eq_1) (And.intro (uR Try.prog c23_33.eq_1) (And.intro (uR Try.prog c23_34.eq_1) (And.intro (uC Try.prog c23_35.eq_1) (And.intro (uC Try.prog c23_36.eq_1) (And.intro (uR Try.prog c23_37.eq_1) (And.intro (uC Try.prog c23_38.eq_1) (And.intro (uC Try.prog c23_39.eq_1) (And.intro (uC Try.prog c23_40.eq_1) (And.intro (uC Try.prog c23_41.eq_1) (And.intro (uC Try.prog c23_42.eq_1) (And.intro (uR Try.prog c23_43.eq_1) (And.intro (uR Try.prog c23_44.eq_1) (And.intro (uR Try.prog c23_45.eq_1) (And.intro (uR Try.prog c23_46.eq_1) (And.intro (uR Try.prog c23_47.eq_1) (And.intro (uC Try.prog c23_48.eq_1) (And.intro (uC Try.prog c23_49.eq_1) (And.intro (uC Try.prog c23_50.eq_1) (And.intro (uC Try.prog c23_51.eq_1) (And.intro (uC Try.prog c23_52.eq_1) (And.intro (uC Try.prog c23_53.eq_1) (And.intro (uC Try.prog c23_54.eq_1) (And.intro (uC Try.prog c23_55.eq_1) (And.intro (uC Try.prog c23_56.eq_1) (And.intro (uC Try.prog c23_57.eq_1) (And.intro (uR Try.prog c23_58.eq_1) (And.intro (uC Try.prog c23_59.eq_1) (And.intro (uC Try.prog c23_60.eq_1) (And.intro (uC Try.prog c23_61.eq_1) (And.intro (uC Try.prog c23_62.eq_1) (And.intro (uC Try.prog c23_63.eq_1) (And.intro (uC Try.prog c23_64.eq_1) (And.intro (uC Try.prog c23_65.eq_1) (And.intro (uR Try.prog c23_66.eq_1) (And.intro (uC Try.prog c23_67.eq_1) (And.intro (uC Try.prog c23_68.eq_1) (And.intro (uC Try.prog c23_69.eq_1) (And.intro (uC Try.prog c23_70.eq_1) (And.intro (uC Try.prog c23_71.eq_1) (And.intro (uR Try.prog c23_72.eq_1) (And.intro (uR Try.prog c23_73.eq_1) (And.intro (uR Try.prog c23_74.eq_1) (And.intro (uC Try.prog c23_75.eq_1) (And.intro (uC Try.prog c23_76.eq_1) (And.intro (uR Try.prog c23_77.eq_1) (And.intro (uR Try.prog c23_78.eq_1) (And.intro (uC Try.prog c23_79.eq_1) (And.intro (uC Try.prog c23_80.eq_1) (And.intro (uC Try.prog c23_81.eq_1) (And.intro (uR Try.prog c23_82.eq_1) (And.intro (uC Try.prog c23_83.eq_1) (And.intro (uC Try.prog c23_84.eq_1) (And.intro (uC Try.prog c23_85.eq_1) (And.intro (uC Try.prog c23_86.eq_1) (And.intro (uC Try.prog c23_87.eq_1) (And.intro (uR Try.prog c23_88.eq_1) (And.intro (uC Try.prog c23_89.eq_1) (And.intro (uC Try.prog c23_90.eq_1) (And.intro (uC Try.prog c23_91.eq_1) (And.intro (uC Try.prog c23_92.eq_1) (And.intro (uC Try.prog c23_93.eq_1) (And.intro (uC Try.prog c23_94.eq_1) (And.intro (uC Try.prog c23_95.eq_1) (And.intro (uC Try.prog c23_96.eq_1) (And.intro (uR Try.prog c23_97.eq_1) (And.intro (uC Try.prog c23_98.eq_1) (And.intro (uC Try.prog c23_99.eq_1) (And.intro (uC Try.prog c23_100.eq_1) (And.intro (uC Try.prog c23_101.eq_1) (And.intro (uC Try.prog c23_102.eq_1) (And.intro (uC Try.prog c23_103.eq_1) (And.intro (uC Try.prog c23_104.eq_1) (And.intro (uC Try.prog c23_105.eq_1) (uC Try.prog c23.eq_1))))))))))))))))))))))))))))))))))))))))))))))))))))))))))))))))))))))))))))))))))))))))))))))))))))))))))) := (And.intro (uR Try.prog c23_0.eq_1) (And.intro (uR Try.prog c23_1.eq_1) (And.intro (uR Try.prog c23_2.eq_1) (And.intro (uR Try.prog c23_3.eq_1) (And.intro (uC Try.prog c23_4.eq_1) (And.intro (uC Try.prog c23_5.eq_1) (And.intro (uC Try.prog c23_6.eq_1) (And.intro (uR Try.prog c23_7.eq_1) (And.intro (uR Try.prog c23_8.eq_1) (And.intro (uR Try.prog c23_9.eq_1) (And.intro (uR Try.prog c23_10.eq_1) (And.intro (uR Try.prog c23_11.eq_1) (And.intro (uC Try.prog c23_12.eq_1) (And.intro (uC Try.prog c23_13.eq_1) (And.intro (uR Try.prog c23_14.eq_1) (And.intro (uR Try.prog c23_15.eq_1) (And.intro (uC Try.prog c23_16.eq_1) (And.intro (uC Try.prog c23_17.eq_1) (And.intro (uR Try.prog c23_18.eq_1) (And.intro (uC Try.prog c23_19.eq_1) (And.intro (uC Try.prog c23_20.eq_1) (And.intro (uR Try.prog c23_21.eq_1) (And.intro (uR Try.prog c23_22.eq_1) (And.intro (uC Try.prog c23_23.eq_1) (And.intro (uC Try.prog c23_24.eq_1) (And.intro (uR Try.prog c23_25.eq_1) (And.intro (uC Try.prog c23_26.eq_1) (And.intro (uC Try.prog c23_27.eq_1) (And.intro (uR Try.prog c23_28.eq_1) (And.intro (uR Try.prog c23_29.eq_1) (And.intro (uR Try.prog c23_30.eq_1) (And.intro (uC Try.prog c23_31.eq_1) (And.intro (uC Try.prog c23_32.eq_1) (And.intro (uR Try.prog c23_33.eq_1) (And.intro (uR Try.prog c23_34.eq_1) (And.intro (uC Try.prog c23_35.eq_1) (And.intro (uC Try.prog c23_36.eq_1) (And.intro (uR Try.prog c23_37.eq_1) (And.intro (uC Try.prog c23_38.eq_1) (And.intro (uC Try.prog c23_39.eq_1) (And.intro (uC Try.prog c23_40.eq_1) (And.intro (uC Try.prog c23_41.eq_1) (And.intro (uC Try.prog c23_42.eq_1) (And.intro (uR Try.prog c23_43.eq_1) (And.intro (uR Try.prog c23_44.eq_1) (And.intro (uR Try.prog c23_45.eq_1) (And.intro (uR Try.prog c23_46.eq_1) (And.intro (uR Try.prog c23_47.eq_1) (And.intro (uC Try.prog c23_48.eq_1) (And.intro (uC Try.prog c23_49.eq_1) (And.intro (uC Try.prog c23_50.eq_1) (And.intro (uC Try.prog c23_51.eq_1) (And.intro (uC Try.prog c23_52.eq_1) (And.intro (uC Try.prog c23_53.eq_1) (And.intro (uC Try.prog c23_54.eq_1) (And.intro (uC Try.prog c23_55.eq_1) (And.intro (uC Try.prog c23_56.eq_1) (And.intro (uC Try.prog c23_57.eq_1) (And.intro (uR Try.prog c23_58.eq_1) (And.intro (uC Try.prog c23_59.eq_1) (And.intro (uC Try.prog c23_60.eq_1) (And.intro (uC Try.prog c23_61.eq_1) (And.intro (uC Try.prog c23_62.eq_1) (And.intro (uC Try.prog c23_63.eq_1) (And.intro (uC Try.prog c23_64.eq_1) (And.intro (uC Try.prog c23_65.eq_1) (And.intro (uR Try.prog c23_66.eq_1) (And.intro (uC Try.prog c23_67.eq_1) (And.intro (uC Try.prog c23_68.eq_1) (And.intro (uC Try.prog c23_69.eq_1) (And.intro (uC Try.prog c23_70.eq_1) (And.intro (uC Try.prog c23_71.eq_1) (And.intro (uR Try.prog c23_72.eq_1) (And.intro (uR Try.prog c23_73.eq_1) (And.intro (uR Try.prog c23_74.eq_1) (And.intro (uC Try.prog c23_75.eq_1) (And.intro (uC Try.prog c23_76.eq_1) (And.intro (uR Try.prog c23_77.eq_1) (And.intro (uR Try.prog c23_78.eq_1) (And.intro (uC Try.prog c23_79.eq_1) (And.intro (uC Try.prog c23_80.eq_1) (And.intro (uC Try.prog c23_81.eq_1) (And.intro (uR Try.prog c23_82.eq_1) (And.intro (uC Try.prog c23_83.eq_1) (And.intro (uC Try.prog c23_84.eq_1) (And.intro (uC Try.prog c23_85.eq_1) (And.intro (uC Try.prog c23_86.eq_1) (And.intro (uC Try.prog c23_87.eq_1) (And.intro (uR Try.prog c23_88.eq_1) (And.intro (uC Try.prog c23_89.eq_1) (And.intro (uC Try.prog c23_90.eq_1) (And.intro (uC Try.prog c23_91.eq_1) (And.intro (uC Try.prog c23_92.eq_1) (And.intro (uC Try.prog c23_93.eq_1) (And.intro (uC Try.prog c23_94.eq_1) (And.intro (uC Try.prog c23_95.eq_1) (And.intro (uC Try.prog c23_96.eq_1) (And.intro (uR Try.prog c23_97.eq_1) (And.intro (uC Try.prog c23_98.eq_1) (And.intro (uC Try.prog c23_99.eq_1) (And.intro (uC Try.prog c23_100.eq_1) (And.intro (uC Try.prog c23_101.eq_1) (And.intro (uC Try.prog c23_102.eq_1) (And.intro (uC Try.prog c23_103.eq_1) (And.intro (uC Try.prog c23_104.eq_1) (And.intro (uC Try.prog c23_105.eq_1) (uC Try.prog c23.eq_1)))))))))))))))))))))))))))))))))))))))))))))))))))))))))))))))))))))))))))))))))))))))))))))))))))))))))))
def v23 : List RV := [.t 4]
theorem s23 : slimF Try.prog Try.f23 = some (c23.bare, v23) := by kernel_rfl

/-- The other telling of a crew: who was taken stands apart. -/
structure SR (job : List Task) (cr : Crew) (fr es : List Int) (tk : List Bool) : Prop where
  f : fr = cr.busy
  l1 : es.length = job.length
  l2 : tk.length = job.length
  e : ∀ i, i < job.length → (tk.getD i false = true → cr.ends.getD i 0 = es.getD i 0 ∧ 0 ≤ es.getD i 0) ∧ (tk.getD i false = false → cr.ends.getD i 0 = -1)
theorem getD_set {α : Type} (l : List α) (i j : Nat) (x d : α) (hi : i < l.length) : (l.set i x).getD j d = if j = i then x else l.getD j d := by
  simp only [List.getD, List.getElem?_set]
  by_cases h : j = i
  · subst h; simp [hi]
  · rw [if_neg (fun q => h q.symm), if_neg h]
theorem SR.give {job : List Task} {cr : Crew} {fr es : List Int} {tk : List Bool} (r : SR job cr fr es tk) {now : Int} {w i : Nat} (hle : cr.ends.length = job.length) (hi : i < job.length) (h0 : 0 ≤ now + costAt job i) :
    SR job (giveTo job now cr w i) (fr.set w (now + costAt job i)) (es.set i (now + costAt job i)) (tk.set i true) := by
  refine ⟨by simp [giveTo, r.f], by simp [r.l1], by simp [r.l2], fun j hj => ?_⟩
  have a := r.l1; have b := r.l2
  simp only [giveTo]
  rw [getD_set _ _ _ _ _ (by omega), getD_set _ _ _ _ _ (by omega), getD_set _ _ _ _ _ (by omega)]
  by_cases hji : j = i
  · simp only [hji, if_true]; first | exact ⟨fun _ => ⟨trivial, h0⟩, fun q => by cases q⟩ | exact ⟨fun _ => ⟨rfl, h0⟩, fun q => by cases q⟩ | simp [h0]
  · simp only [hji, if_false]; exact r.e j hj
theorem getD_at {α : Type} {l : List α} {i : Nat} (h : i < l.length) (d : α) : l.getD i d = l[i] := by simp [List.getD, List.getElem?_eq_getElem h]
theorem SR.can {job : List Task} {cr : Crew} {fr es : List Int} {tk : List Bool} (r : SR job cr fr es tk) (hj : jobIn job) (now : Int) (h0 : 0 ≤ now) {i : Nat} (hi : i < job.length) :
    canB job cr.ends now i = (!tk.getD i false && job[i].needs.all fun n => tk.getD n.toNat false && decide (es.getD n.toNat 0 ≤ now)) := by
  unfold canB readyB
  rw [needsAt_eq hi]
  have h1 : decide (cr.ends.getD i 0 < 0) = !tk.getD i false := by
    have := r.e i hi
    cases ht : tk.getD i false with
    | true => have := this.1 ht; rw [decide_eq_false (by omega)]; rfl
    | false => have := this.2 ht; rw [decide_eq_true (by omega)]; rfl
  rw [h1]
  congr 1
  rw [Bool.eq_iff_iff, Bool.not_eq_true', List.any_eq_false, List.all_eq_true]
  refine forall_congr' fun n => forall_congr' fun hn => ?_
  have hb := (hj i hi).2.2.2.1 n hn
  have := r.e n.toNat (by omega)
  cases ht : tk.getD n.toNat false with
  | true =>
    obtain ⟨q1, q2⟩ := this.1 ht
    rw [q1]
    simp only [Bool.true_and, Bool.or_eq_true, decide_eq_true_eq, not_or, Int.not_lt]
    exact ⟨fun q => q.2, fun q => ⟨q2, q⟩⟩
  | false =>
    have q := this.2 ht
    rw [q]; simp
theorem specFarm_ok (h : Heap) (v : Value) (job : List Task) (wk : Int) (hj : JobAt h v job) (hl : job.length ≤ 1048576) :
    ACall Try.prog 23 [v, .int .i64 wk] h fun r h' => Fresh h h' encRun 4 r (farmF job wk) := by
  obtain ⟨rs, s, hlen, Hr⟩ := id hj
  refine ACall.of Try.func23 s23 (of_decide_eq_true rfl) ?_
  simp (maxSteps := 4000000) (disch := omega) only [ah, am, Nat.reduceEqDiff, reduceCtorEq, Nat.reduceAdd, Nat.reduceLeDiff, Nat.reduceMul, Nat.reduceLT, if_true, if_false, true_and, and_true, and_self, Nat.reduceBEq, QOp.loads, boxO, bslO, buildO, cutL, fillV, putL, w23, v23]
  refine stepC.of (specJobOk_ok _ v job (hj.ext (Ext.more _ _)) (by omega)) ?_
  rintro _ H1 ⟨e1, rfl⟩
  have F0 : Fresh h H1 encRun 4 (.slice (some ⟨h.size, 0, none⟩) 0 4) [] := (Fresh.new0 h encRun_len (by omega)).ext e1
  by_cases c1 : jobOk job
  rotate_left
  · simp (maxSteps := 4000000) (disch := omega) only [ah, am, Nat.reduceEqDiff, reduceCtorEq, Nat.reduceAdd, Nat.reduceLeDiff, Nat.reduceMul, Nat.reduceLT, if_true, if_false, true_and, and_true, and_self, Nat.reduceBEq, QOp.loads, boxO, bslO, buildO, cutL, fillV, putL, w23, v23, decide_eq_false c1, Bool.not_false]
    rw [show farmF job wk = [] from if_neg fun q => c1 q.1]; exact F0
  simp (maxSteps := 4000000) (disch := omega) only [ah, am, Nat.reduceEqDiff, reduceCtorEq, Nat.reduceAdd, Nat.reduceLeDiff, Nat.reduceMul, Nat.reduceLT, if_true, if_false, true_and, and_true, and_self, Nat.reduceBEq, QOp.loads, boxO, bslO, buildO, cutL, fillV, putL, w23, v23, decide_eq_true c1, Bool.not_true]
  refine stepC.of (l1In_ok _ _ _ _) ?_
  rintro _ Hx ⟨hx, rfl⟩; rw [hx]; clear hx Hx
  by_cases c2 : 1 ≤ wk ∧ wk ≤ 50
  rotate_left
  · simp (maxSteps := 4000000) (disch := omega) only [ah, am, Nat.reduceEqDiff, reduceCtorEq, Nat.reduceAdd, Nat.reduceLeDiff, Nat.reduceMul, Nat.reduceLT, if_true, if_false, true_and, and_true, and_self, Nat.reduceBEq, QOp.loads, boxO, bslO, buildO, cutL, fillV, putL, w23, v23, decide_eq_false c2, Bool.not_false]
    rw [show farmF job wk = [] from if_neg fun q => c2 q.2]; exact F0
  rw [show farmF job wk = farmL job job.length (crew0 job wk) 0 from if_pos ⟨c1, c2⟩]
  obtain ⟨k, rfl⟩ : ∃ k : Nat, wk = (k : Int) := ⟨wk.toNat, by omega⟩
  have hL := c1.1
  have hk := c1.in
  have R := (s.ext F0.1).rulesN
  simp only [hlen] at R
  simp (maxSteps := 4000000) (disch := omega) only [ah, am, Nat.reduceEqDiff, reduceCtorEq, Nat.reduceAdd, Nat.reduceLeDiff, Nat.reduceMul, Nat.reduceLT, if_true, if_false, true_and, and_true, and_self, Nat.reduceBEq, QOp.loads, boxO, bslO, buildO, cutL, fillV, putL, w23, v23, decide_eq_true c2, Bool.not_true, mksV_nat, R]
  obtain ⟨fv, hfv⟩ : ∃ fv : Value, fv = .slice (some ⟨H1.size, 0, none⟩) k 1 := ⟨_, rfl⟩
  obtain ⟨ev, hev⟩ : ∃ ev : Value, ev = .slice (some ⟨H1.size + 1, 0, none⟩) job.length 1 := ⟨_, rfl⟩
  obtain ⟨tv, htv⟩ : ∃ tv : Value, tv = .slice (some ⟨H1.size + 2, 0, none⟩) job.length 1 := ⟨_, rfl⟩
  have M0 : FS h (H1.more [(List.replicate k [.int .i64 0]).flatten, (List.replicate job.length [.int .i64 0]).flatten, (List.replicate job.length [.bool false]).flatten]) (.slice (some ⟨h.size, 0, none⟩) 0 4) [] fv (List.replicate k 0) ev (List.replicate job.length 0) encB 1 tv (List.replicate job.length false) := by
    have b : ∀ i cs, [(List.replicate k [.int .i64 0]).flatten, (List.replicate job.length [.int .i64 0]).flatten, (List.replicate job.length [.bool false]).flatten][i]? = some cs →
        Bx (H1.more [(List.replicate k [.int .i64 0]).flatten, (List.replicate job.length [.int .i64 0]).flatten, (List.replicate job.length [.bool false]).flatten]) (H1.size + i) cs := by
      intro i cs hq; unfold Bx; rw [get_more, hq]; rfl
    have o2 := Bx_own (b 0 _ rfl) (enc := encI) (sz := 1) (List.replicate k 0) encI_len (by omega) (by rw [show ([.int .i64 0] : List Value) = encI 0 from rfl, flat_rep])
    have o3 := Bx_own (b 1 _ rfl) (enc := encI) (sz := 1) (List.replicate job.length 0) encI_len (by omega) (by rw [show ([.int .i64 0] : List Value) = encI 0 from rfl, flat_rep])
    have o4 := Bx_own (b 2 _ rfl) (enc := encB) (sz := 1) (List.replicate job.length false) encB_len (by omega) (by rw [show ([.bool false] : List Value) = encB false from rfl, flat_rep])
    simp only [List.length_replicate, Nat.add_zero] at o2 o3 o4
    have hE := F0.1.trans (Ext.more H1 [(List.replicate k [.int .i64 0]).flatten, (List.replicate job.length [.int .i64 0]).flatten, (List.replicate job.length [.bool false]).flatten])
    have o1 : OwnT h.size (H1.more [(List.replicate k [.int .i64 0]).flatten, (List.replicate job.length [.int .i64 0]).flatten, (List.replicate job.length [.bool false]).flatten]) encRun 4 (.slice (some ⟨h.size, 0, none⟩) 0 4) [] := (OwnT.new0 h encRun_len (by omega)).ext (e1.trans (Ext.more _ _))
    have hs := e1.1
    rw [size_more] at hs
    simp only [List.length_singleton] at hs
    refine ⟨hE, h.size, H1.size, H1.size + 1, H1.size + 2, by omega, by omega, by omega, by omega, by omega, by omega, by omega, by omega, by omega, by omega, by rw [size_more]; simp, by rw [size_more]; simp, by rw [size_more]; simp, o1, ?_, ?_, ?_⟩
    · rw [hfv]; exact o2
    · rw [hev]; exact o3
    · rw [htv]; exact o4
  rw [← hfv, ← hev, ← htv]
  obtain ⟨RR, hRR⟩ : ∃ RR, RR = farmL job job.length (crew0 job k) 0 := ⟨_, rfl⟩
  rw [← hRR]
  have S0 : SR job (crew0 job k) (List.replicate k 0) (List.replicate job.length 0) (List.replicate job.length false) := by
    refine ⟨by simp [crew0], by simp, by simp, fun i hi => ?_⟩
    simp [crew0, List.getD, hi]
  refine ⟨fun n E K => ∃ cr now ov fr es tk, E = [(0, v), (1, .int .i64 k), (5, ov), (6, fv), (7, ev), (8, tv), (9, .int .i64 now)] ∧ FS h K ov cr.runs fv fr ev es encB 1 tv tk ∧
      ((SR job cr fr es tk ∧ CrewOk job now cr ∧ cr.busy.length = k ∧ mu cr.ends now ≤ n ∧ farmL job n cr now = RR ∧ now ≤ 1000 * ((job.length : Int) - n) ∧ n ≤ job.length) ∨ (cr.runs.length = job.length ∧ cr.runs = RR)),
    ⟨job.length, crew0 job k, 0, _, _, _, _, rfl, M0, .inl ⟨S0, crew0_ok job k, by simp [crew0], by have := mu_le (now := 0) (crew0 job k).ends; simpa [crew0] using this, hRR.symm, by omega, by omega⟩⟩, ?_⟩
  rintro n E K ⟨cr, now, ov, fr, es, tk, rfl, F, hor⟩
  have R := (s.ext F.ext).rulesN
  simp only [hlen] at R
  have Ro := F.so.rulesN
  have stop : cr.runs.length = job.length → cr.runs = RR := fun q => by
    rcases hor with ⟨sr, ok, _, _, hR, _⟩ | ⟨_, h2⟩
    · rw [← hR, farmL_all n cr now ok q]
    · exact h2
  have hle : cr.runs.length ≤ job.length := by
    rcases hor with ⟨sr, ok, _⟩ | ⟨h1, _⟩
    · have := ok.cnt; omega
    · omega
  simp (maxSteps := 4000000) (disch := omega) only [ah, am, Nat.reduceEqDiff, reduceCtorEq, Nat.reduceAdd, Nat.reduceLeDiff, Nat.reduceMul, Nat.reduceLT, if_true, if_false, true_and, and_true, and_self, Nat.reduceBEq, QOp.loads, boxO, bslO, buildO, cutL, fillV, putL, w23, v23, Ro, R]
  refine stepI.split (fun hp => ?_) (fun hp => ?_)
  rotate_left
  · simp (maxSteps := 4000000) (disch := omega) only [ah, am, Nat.reduceEqDiff, reduceCtorEq, Nat.reduceAdd, Nat.reduceLeDiff, Nat.reduceMul, Nat.reduceLT, if_true, if_false, true_and, and_true, and_self, Nat.reduceBEq, QOp.loads, boxO, bslO, buildO, cutL, fillV, putL, w23, v23]
    rw [← stop (by omega)]; exact F.fresh
  rcases hor with ⟨sr, ok, hbl, hmu, hR, hnow, hnl⟩ | ⟨h1, _⟩
  rotate_left
  · omega
  have hn0 := ok.now0
  simp (maxSteps := 4000000) (disch := omega) only [ah, am, Nat.reduceEqDiff, reduceCtorEq, Nat.reduceAdd, Nat.reduceLeDiff, Nat.reduceMul, Nat.reduceLT, if_true, if_false, true_and, and_true, and_self, Nat.reduceBEq, QOp.loads, boxO, bslO, buildO, cutL, fillV, putL, w23, v23]
  refine SW_loop_up (fun w E K => ∃ ov fr es tk, E = [(0, v), (1, .int .i64 k), (5, ov), (6, fv), (7, ev), (8, tv), (9, .int .i64 now), (10, .int .i64 w)] ∧ FS h K ov (takeN job now cr w).runs fv fr ev es encB 1 tv tk ∧ SR job (takeN job now cr w) fr es tk) k 0 (by omega)
    ⟨_, _, _, _, rfl, F, sr⟩ ?_
  clear F sr R Ro
  rintro w E K hi ⟨ov, fr, es, tk, rfl, F, sr⟩
  have okw := (ok.takeN hk w).1
  have hbw := takeN_busy (job := job) (now := now) (c := cr) w
  obtain ⟨cw, hcw⟩ : ∃ cw, cw = takeN job now cr w := ⟨_, rfl⟩
  rw [← hcw] at F sr okw hbw
  have hsucc : takeN job now cr (w + 1) = takeAt job now cw w := by rw [takeN_succ, hcw]
  have hfl : fr.length = k := by rw [sr.f]; omega
  have W : IntKind.i64.wrap ((w : Int) + 1) = ((w + 1 : Nat) : Int) := i64e (by omega) (by omega)
  have Rf := F.sf.rulesN
  simp only [hfl] at Rf
  simp (maxSteps := 4000000) (disch := omega) only [ah, am, Nat.reduceEqDiff, reduceCtorEq, Nat.reduceAdd, Nat.reduceLeDiff, Nat.reduceMul, Nat.reduceLT, if_true, if_false, true_and, and_true, and_self, Nat.reduceBEq, QOp.loads, boxO, bslO, buildO, cutL, fillV, putL, w23, v23, W]
  refine stepI.split (fun hp => ?_) (fun hp => ?_)
  · have hw2 : w < k := by omega
    have hgw : cw.busy.getD w 0 = fr[w] := by rw [← sr.f, getD_at (by omega)]
    simp (maxSteps := 4000000) (disch := omega) only [ah, am, Nat.reduceEqDiff, reduceCtorEq, Nat.reduceAdd, Nat.reduceLeDiff, Nat.reduceMul, Nat.reduceLT, if_true, if_false, true_and, and_true, and_self, Nat.reduceBEq, QOp.loads, boxO, bslO, buildO, cutL, fillV, putL, w23, v23, Rf, encI]
    by_cases hbig : now < fr[w]
    · simp (maxSteps := 4000000) (disch := omega) only [ah, am, Nat.reduceEqDiff, reduceCtorEq, Nat.reduceAdd, Nat.reduceLeDiff, Nat.reduceMul, Nat.reduceLT, if_true, if_false, true_and, and_true, and_self, Nat.reduceBEq, QOp.loads, boxO, bslO, buildO, cutL, fillV, putL, w23, v23, decide_eq_true hbig, W]
      refine ⟨hw2, ov, fr, es, tk, rfl, ?_, ?_⟩
      · rw [hsucc]; unfold takeAt; rw [hgw, if_pos hbig]; exact F
      · rw [hsucc]; unfold takeAt; rw [hgw, if_pos hbig]; exact sr
    have hta : takeAt job now cw w = match firstR job cw.ends now with | none => cw | some i => giveTo job now cw w i := by unfold takeAt; rw [hgw, if_neg hbig]; cases firstR job cw.ends now <;> rfl
    simp (maxSteps := 4000000) (disch := omega) only [ah, am, Nat.reduceEqDiff, reduceCtorEq, Nat.reduceAdd, Nat.reduceLeDiff, Nat.reduceMul, Nat.reduceLT, if_true, if_false, true_and, and_true, and_self, Nat.reduceBEq, QOp.loads, boxO, bslO, buildO, cutL, fillV, putL, w23, v23, decide_eq_false hbig]
    refine SW_loop_up (fun i E K' => E = [(0, v), (1, .int .i64 k), (5, ov), (6, fv), (7, ev), (8, tv), (9, .int .i64 now), (10, .int .i64 w), (11, .int .i64 i)] ∧ K' = K ∧ ∀ j, j < i → canB job cw.ends now j = false) job.length 0 (by omega)
      ⟨rfl, rfl, fun j hj => absurd hj (by omega)⟩ ?_
    rintro i E K' hi3 ⟨rfl, rfl, G⟩
    have R := (s.ext F.ext).rulesN
    simp only [hlen] at R
    have Wi : IntKind.i64.wrap ((i : Int) + 1) = ((i + 1 : Nat) : Int) := i64e (by omega) (by omega)
    have Re := F.se.rulesN
    have Rt := F.st.rulesN
    simp only [sr.l1] at Re
    simp only [sr.l2] at Rt
    simp (maxSteps := 4000000) (disch := omega) only [ah, am, Nat.reduceEqDiff, reduceCtorEq, Nat.reduceAdd, Nat.reduceLeDiff, Nat.reduceMul, Nat.reduceLT, if_true, if_false, true_and, and_true, and_self, Nat.reduceBEq, QOp.loads, boxO, bslO, buildO, cutL, fillV, putL, w23, v23, R]
    refine stepI.split (fun hp => ?_) (fun hp => ?_)
    rotate_left
    · have hnone : firstR job cw.ends now = none := firstR_none.mpr fun j hj => G j (by omega)
      simp (maxSteps := 4000000) (disch := omega) only [ah, am, Nat.reduceEqDiff, reduceCtorEq, Nat.reduceAdd, Nat.reduceLeDiff, Nat.reduceMul, Nat.reduceLT, if_true, if_false, true_and, and_true, and_self, Nat.reduceBEq, QOp.loads, boxO, bslO, buildO, cutL, fillV, putL, w23, v23, W]
      refine ⟨hw2, ov, fr, es, tk, rfl, ?_, ?_⟩
      · rw [hsucc, hta, hnone]; exact F
      · rw [hsucc, hta, hnone]; exact sr
    have hi2 : i < job.length := by omega
    have hcan := sr.can hk now hn0 hi2
    have a1 := sr.l1; have a2 := sr.l2
    rw [getD_at (show i < tk.length by omega)] at hcan
    obtain ⟨k1, k2, k3, sn⟩ := Hr i (by omega) hi2
    have hneed := (hk i hi2).2.2.2.1
    have hcost := (hk i hi2).2.2.2.2
    have hnl2 := (hk i hi2).2.2.1
    simp (maxSteps := 4000000) (disch := omega) only [ah, am, Nat.reduceEqDiff, reduceCtorEq, Nat.reduceAdd, Nat.reduceLeDiff, Nat.reduceMul, Nat.reduceLT, if_true, if_false, true_and, and_true, and_self, Nat.reduceBEq, QOp.loads, boxO, bslO, buildO, cutL, fillV, putL, w23, v23, Rt, encB]
    cases htk : tk[i] with
    | true =>
      simp (maxSteps := 4000000) (disch := omega) only [ah, am, Nat.reduceEqDiff, reduceCtorEq, Nat.reduceAdd, Nat.reduceLeDiff, Nat.reduceMul, Nat.reduceLT, if_true, if_false, true_and, and_true, and_self, Nat.reduceBEq, QOp.loads, boxO, bslO, buildO, cutL, fillV, putL, w23, v23, Wi]
      refine ⟨hi2, fun j hj => ?_⟩
      by_cases hji : j = i
      · subst hji; rw [hcan, htk]; rfl
      · exact G j (by omega)
    | false =>
      rw [htk, Bool.not_false, Bool.true_and] at hcan
      simp (maxSteps := 4000000) (disch := omega) only [ah, am, Nat.reduceEqDiff, reduceCtorEq, Nat.reduceAdd, Nat.reduceLeDiff, Nat.reduceMul, Nat.reduceLT, if_true, if_false, true_and, and_true, and_self, Nat.reduceBEq, QOp.loads, boxO, bslO, buildO, cutL, fillV, putL, w23, v23]
      have Rn := (sn.ext F.ext).rulesN
      refine SW_loop_up (fun kk E Kx => E = [(0, v), (1, .int .i64 k), (5, ov), (6, fv), (7, ev), (8, tv), (9, .int .i64 now), (10, .int .i64 w), (11, .int .i64 i), (12, .bool ((job[i].needs.take kk).all fun n => tk.getD n.toNat false && decide (es.getD n.toNat 0 ≤ now))), (13, .int .i64 kk)] ∧ Kx = K') job[i].needs.length 0 (by omega)
        ⟨rfl, rfl⟩ ?_
      rintro kk E Kx hkk ⟨rfl, rfl⟩
      have Wk : IntKind.i64.wrap ((kk : Int) + 1) = ((kk + 1 : Nat) : Int) := i64e (by omega) (by omega)
      simp (maxSteps := 4000000) (disch := omega) only [ah, am, Nat.reduceEqDiff, reduceCtorEq, Nat.reduceAdd, Nat.reduceLeDiff, Nat.reduceMul, Nat.reduceLT, if_true, if_false, true_and, and_true, and_self, Nat.reduceBEq, QOp.loads, boxO, bslO, buildO, cutL, fillV, putL, w23, v23, R, encT, Rn]
      refine stepI.split (fun hp => ?_) (fun hp => ?_)
      · have hk3 : kk < job[i].needs.length := by omega
        have hstep : ((job[i].needs.take (kk + 1)).all fun n => tk.getD n.toNat false && decide (es.getD n.toNat 0 ≤ now)) = (((job[i].needs.take kk).all fun n => tk.getD n.toNat false && decide (es.getD n.toNat 0 ≤ now)) && (tk.getD job[i].needs[kk].toNat false && decide (es.getD job[i].needs[kk].toNat 0 ≤ now))) := by
          rw [List.take_succ_eq_append_getElem hk3, List.all_append]; simp
        rw [hstep]
        generalize ((job[i].needs.take kk).all fun n => tk.getD n.toNat false && decide (es.getD n.toNat 0 ≤ now)) = fine
        have hb := hneed _ (List.getElem_mem hk3)
        obtain ⟨n, hn⟩ : ∃ n : Nat, job[i].needs[kk] = (n : Int) := ⟨job[i].needs[kk].toNat, by omega⟩
        have hni : n < job.length := by omega
        rw [hn, Int.toNat_natCast, getD_at (show n < tk.length by omega), getD_at (show n < es.length by omega)]
        simp (maxSteps := 4000000) (disch := omega) only [ah, am, Nat.reduceEqDiff, reduceCtorEq, Nat.reduceAdd, Nat.reduceLeDiff, Nat.reduceMul, Nat.reduceLT, if_true, if_false, true_and, and_true, and_self, Nat.reduceBEq, QOp.loads, boxO, bslO, buildO, cutL, fillV, putL, w23, v23, R, encT, Rn, encI, hn]
        cases fine with
        | false =>
          simp (maxSteps := 4000000) (disch := omega) only [ah, am, Nat.reduceEqDiff, reduceCtorEq, Nat.reduceAdd, Nat.reduceLeDiff, Nat.reduceMul, Nat.reduceLT, if_true, if_false, true_and, and_true, and_self, Nat.reduceBEq, QOp.loads, boxO, bslO, buildO, cutL, fillV, putL, w23, v23, Wk]
          first | exact ⟨hk3, rfl⟩ | exact hk3 | exact ⟨hk3, by simp⟩
        | true =>
          simp (maxSteps := 4000000) (disch := omega) only [ah, am, Nat.reduceEqDiff, reduceCtorEq, Nat.reduceAdd, Nat.reduceLeDiff, Nat.reduceMul, Nat.reduceLT, if_true, if_false, true_and, and_true, and_self, Nat.reduceBEq, QOp.loads, boxO, bslO, buildO, cutL, fillV, putL, w23, v23, Rt, encB]
          cases htn : tk[n] with
          | false =>
            simp (maxSteps := 4000000) (disch := omega) only [ah, am, Nat.reduceEqDiff, reduceCtorEq, Nat.reduceAdd, Nat.reduceLeDiff, Nat.reduceMul, Nat.reduceLT, if_true, if_false, true_and, and_true, and_self, Nat.reduceBEq, QOp.loads, boxO, bslO, buildO, cutL, fillV, putL, w23, v23, Wk]
            first | exact ⟨hk3, rfl⟩ | exact hk3 | exact ⟨hk3, by simp⟩
          | true =>
            simp (maxSteps := 4000000) (disch := omega) only [ah, am, Nat.reduceEqDiff, reduceCtorEq, Nat.reduceAdd, Nat.reduceLeDiff, Nat.reduceMul, Nat.reduceLT, if_true, if_false, true_and, and_true, and_self, Nat.reduceBEq, QOp.loads, boxO, bslO, buildO, cutL, fillV, putL, w23, v23, Re, encI, Wk]
            first | exact ⟨hk3, rfl⟩ | exact hk3 | exact ⟨hk3, by simp⟩
      · have hkk2 : kk = job[i].needs.length := by omega
        rw [hkk2, List.take_length, ← hcan]
        cases hc : canB job cw.ends now i with
        | false =>
          simp (maxSteps := 4000000) (disch := omega) only [ah, am, Nat.reduceEqDiff, reduceCtorEq, Nat.reduceAdd, Nat.reduceLeDiff, Nat.reduceMul, Nat.reduceLT, if_true, if_false, true_and, and_true, and_self, Nat.reduceBEq, QOp.loads, boxO, bslO, buildO, cutL, fillV, putL, w23, v23, Wi]
          refine ⟨hi2, fun j hj => ?_⟩
          by_cases hji : j = i
          · subst hji; exact hc
          · exact G j (by omega)
        | true =>
          have hfr : firstR job cw.ends now = some i := by
            unfold firstR
            rw [List.find?_range_eq_some]
            exact ⟨hc, by simpa using hi2, fun j hj => by rw [G j hj]; rfl⟩
          have hca := costAt_eq hi2
          have R := (s.ext F.ext).rulesN
          simp only [hlen] at R
          have b0 := okw.bnd
          obtain ⟨K1, es1, F1⟩ := F.setT (j := i) (f := 0) (n := 1) (x := true) (y := .bool true) (by omega) rfl (by omega) rfl (by omega) rfl
          have Re1 := F1.se.rulesN
          simp only [sr.l1] at Re1
          have R1 := (s.ext F1.ext).rulesN
          simp only [hlen] at R1
          obtain ⟨K2, es2, F2⟩ := F1.setE (j := i) (by omega) (now + job[i].cost)
          have Re2 := F2.se.rulesN
          simp only [List.length_set, sr.l1] at Re2
          have Rf2 := F2.sf.rulesN
          simp only [hfl] at Rf2
          obtain ⟨K3, es3, F3⟩ := F2.setF (j := w) (by omega) (now + job[i].cost)
          have Re3 := F3.se.rulesN
          simp only [List.length_set, sr.l1] at Re3
          have hcr : cw.runs.length ≤ 200 := by have := okw.cnt; omega
          obtain ⟨v2, K4, ea, F4⟩ := F3.app ⟨i, w, now, now + job[i].cost⟩ (by omega)
          simp only [Nat.mul_one, Nat.add_zero] at Rt Re1 Re2 Re3 Rf2 es1
          simp only [encRun] at ea
          have W2 : IntKind.i64.wrap (now + job[i].cost) = now + job[i].cost := i64w (by omega)
          simp (maxSteps := 4000000) (disch := omega) only [ah, am, Nat.reduceEqDiff, reduceCtorEq, Nat.reduceAdd, Nat.reduceLeDiff, Nat.reduceMul, Nat.reduceLT, if_true, if_false, true_and, and_true, and_self, Nat.reduceBEq, QOp.loads, boxO, bslO, buildO, cutL, fillV, putL, w23, v23, Rt, es1]
          simp (maxSteps := 4000000) (disch := omega) only [ah, am, Nat.reduceEqDiff, reduceCtorEq, Nat.reduceAdd, Nat.reduceLeDiff, Nat.reduceMul, Nat.reduceLT, if_true, if_false, true_and, and_true, and_self, Nat.reduceBEq, QOp.loads, boxO, bslO, buildO, cutL, fillV, putL, w23, v23, Re1, R1, encT, k3, W2, es2]
          simp (maxSteps := 4000000) (disch := omega) only [ah, am, Nat.reduceEqDiff, reduceCtorEq, Nat.reduceAdd, Nat.reduceLeDiff, Nat.reduceMul, Nat.reduceLT, if_true, if_false, true_and, and_true, and_self, Nat.reduceBEq, QOp.loads, boxO, bslO, buildO, cutL, fillV, putL, w23, v23, Re2, Rf2, encI, List.getElem_set_self, es3]
          simp (maxSteps := 4000000) (disch := omega) only [ah, am, Nat.reduceEqDiff, reduceCtorEq, Nat.reduceAdd, Nat.reduceLeDiff, Nat.reduceMul, Nat.reduceLT, if_true, if_false, true_and, and_true, and_self, Nat.reduceBEq, QOp.loads, boxO, bslO, buildO, cutL, fillV, putL, w23, v23, Re3, encI, List.getElem_set_self, ea, W]
          refine ⟨hw2, v2, fr.set w (now + job[i].cost), es.set i (now + job[i].cost), tk.set i true, rfl, ?_, ?_⟩
          · rw [hsucc, hta, hfr]; simp only [giveTo, hca]; exact F4
          · rw [hsucc, hta, hfr]; rw [← hca]; exact sr.give okw.le hi2 (by rw [hca]; omega)
  · have hwk : w = k := by omega
    have ok3 := (ok.takeN hk cr.busy.length).1
    have hmu3 := (ok.takeN hk cr.busy.length).2
    have hbl3 : (after job now cr).busy.length = k := by unfold after; rw [takeN_busy]; exact hbl
    have hdef : after job now cr = takeN job now cr cr.busy.length := rfl
    have hcw2 : cw = after job now cr := by rw [hcw, hwk, hdef, hbl]
    rw [← hdef, ← hcw2] at ok3 hmu3
    rw [← hcw2] at hbl3
    simp (maxSteps := 4000000) (disch := omega) only [ah, am, Nat.reduceEqDiff, reduceCtorEq, Nat.reduceAdd, Nat.reduceLeDiff, Nat.reduceMul, Nat.reduceLT, if_true, if_false, true_and, and_true, and_self, Nat.reduceBEq, QOp.loads, boxO, bslO, buildO, cutL, fillV, putL, w23, v23]
    have Re := F.se.rulesN
    have Rt := F.st.rulesN
    simp only [sr.l1] at Re
    simp only [sr.l2] at Rt
    have a1 := sr.l1; have a2 := sr.l2
    have R := (s.ext F.ext).rulesN
    simp only [hlen] at R
    refine SW_loop_up (fun i E Kx => E = [(0, v), (1, .int .i64 k), (5, ov), (6, fv), (7, ev), (8, tv), (9, .int .i64 now), (15, .int .i64 ((cw.ends.take i).foldl (nextS now) (-1))), (16, .int .i64 i)] ∧ Kx = K) job.length 0 (by omega)
      ⟨rfl, rfl⟩ ?_
    rintro i E Kx hi ⟨rfl, rfl⟩
    have Wi : IntKind.i64.wrap ((i : Int) + 1) = ((i + 1 : Nat) : Int) := i64e (by omega) (by omega)
    simp (maxSteps := 4000000) (disch := omega) only [ah, am, Nat.reduceEqDiff, reduceCtorEq, Nat.reduceAdd, Nat.reduceLeDiff, Nat.reduceMul, Nat.reduceLT, if_true, if_false, true_and, and_true, and_self, Nat.reduceBEq, QOp.loads, boxO, bslO, buildO, cutL, fillV, putL, w23, v23, R]
    refine stepI.split (fun hp => ?_) (fun hp => ?_)
    · have hi2 : i < job.length := by omega
      have hie : i < cw.ends.length := by rw [ok3.le]; exact hi2
      rw [List.take_succ_eq_append_getElem hie, List.foldl_append, List.foldl_cons, List.foldl_nil]
      generalize (cw.ends.take i).foldl (nextS now) (-1) = nx
      have rel := sr.e i hi2
      rw [getD_at (show i < tk.length by omega), getD_at (show i < es.length by omega), getD_at hie] at rel
      simp (maxSteps := 4000000) (disch := omega) only [ah, am, Nat.reduceEqDiff, reduceCtorEq, Nat.reduceAdd, Nat.reduceLeDiff, Nat.reduceMul, Nat.reduceLT, if_true, if_false, true_and, and_true, and_self, Nat.reduceBEq, QOp.loads, boxO, bslO, buildO, cutL, fillV, putL, w23, v23, Rt, encB]
      cases htk : tk[i] with
      | false =>
        have := rel.2 htk
        simp (maxSteps := 4000000) (disch := omega) only [ah, am, Nat.reduceEqDiff, reduceCtorEq, Nat.reduceAdd, Nat.reduceLeDiff, Nat.reduceMul, Nat.reduceLT, if_true, if_false, true_and, and_true, and_self, Nat.reduceBEq, QOp.loads, boxO, bslO, buildO, cutL, fillV, putL, w23, v23, Wi]
        exact ⟨hi2, by unfold nextS; rw [if_neg (fun q => by have := q.1; omega)]⟩
      | true =>
        obtain ⟨rel1, rel2⟩ := rel.1 htk
        rw [rel1]
        by_cases d1 : now < es[i]
        · by_cases d2 : nx < 0
          · simp (maxSteps := 4000000) (disch := omega) only [ah, am, Nat.reduceEqDiff, reduceCtorEq, Nat.reduceAdd, Nat.reduceLeDiff, Nat.reduceMul, Nat.reduceLT, if_true, if_false, true_and, and_true, and_self, Nat.reduceBEq, QOp.loads, boxO, bslO, buildO, cutL, fillV, putL, w23, v23, Re, encI, decide_eq_true d1, decide_eq_true d2, Wi]
            exact ⟨hi2, by unfold nextS; rw [if_pos ⟨d1, .inl d2⟩]⟩
          · by_cases d3 : es[i] < nx
            · simp (maxSteps := 4000000) (disch := omega) only [ah, am, Nat.reduceEqDiff, reduceCtorEq, Nat.reduceAdd, Nat.reduceLeDiff, Nat.reduceMul, Nat.reduceLT, if_true, if_false, true_and, and_true, and_self, Nat.reduceBEq, QOp.loads, boxO, bslO, buildO, cutL, fillV, putL, w23, v23, Re, encI, decide_eq_true d1, decide_eq_false d2, decide_eq_true d3, Wi]
              exact ⟨hi2, by unfold nextS; rw [if_pos ⟨d1, .inr d3⟩]⟩
            · simp (maxSteps := 4000000) (disch := omega) only [ah, am, Nat.reduceEqDiff, reduceCtorEq, Nat.reduceAdd, Nat.reduceLeDiff, Nat.reduceMul, Nat.reduceLT, if_true, if_false, true_and, and_true, and_self, Nat.reduceBEq, QOp.loads, boxO, bslO, buildO, cutL, fillV, putL, w23, v23, Re, encI, decide_eq_true d1, decide_eq_false d2, decide_eq_false d3, Wi]
              exact ⟨hi2, by unfold nextS; rw [if_neg (fun q => by rcases q.2 with q | q; exact d2 q; exact d3 q)]⟩
        · simp (maxSteps := 4000000) (disch := omega) only [ah, am, Nat.reduceEqDiff, reduceCtorEq, Nat.reduceAdd, Nat.reduceLeDiff, Nat.reduceMul, Nat.reduceLT, if_true, if_false, true_and, and_true, and_self, Nat.reduceBEq, QOp.loads, boxO, bslO, buildO, cutL, fillV, putL, w23, v23, Re, encI, decide_eq_false d1, Wi]
          exact ⟨hi2, by unfold nextS; rw [if_neg (fun q => d1 q.1)]⟩
    · obtain rfl : i = job.length := by omega
      simp (maxSteps := 4000000) (disch := omega) only [ah, am, Nat.reduceEqDiff, reduceCtorEq, Nat.reduceAdd, Nat.reduceLeDiff, Nat.reduceMul, Nat.reduceLT, if_true, if_false, true_and, and_true, and_self, Nat.reduceBEq, QOp.loads, boxO, bslO, buildO, cutL, fillV, putL, w23, v23]
      rw [List.take_of_length_le (show cw.ends.length ≤ job.length by rw [ok3.le]; exact Nat.le_refl _)]
      have hnx : cw.ends.foldl (nextS now) (-1) = nextEnd cw.ends now := rfl
      rw [hnx]
      have hpos : 0 < n := by
        have : 0 < mu cr.ends now := by
          have h1 := ok.cnt
          have h2 : 0 < cr.ends.countP (fun e => decide (e < 0)) := by omega
          refine Nat.lt_of_lt_of_le h2 (List.countP_mono_left fun x _ hx => ?_)
          have := of_decide_eq_true hx; exact decide_eq_true (.inl this)
        omega
      obtain ⟨n, rfl⟩ : ∃ m, n = m + 1 := ⟨n - 1, by omega⟩
      refine ⟨n, by omega, cw, nextEnd cw.ends now, ov, fr, es, tk, rfl, F, ?_⟩
      simp only [farmL] at hR
      rw [← hcw2] at hR
      by_cases hneg : nextEnd cw.ends now < 0
      · right
        rw [if_pos hneg] at hR
        refine ⟨?_, hR⟩
        have h1 := ok3.cnt
        by_cases hlt : cw.runs.length < job.length
        · have := goes_on ok hk (by omega) (by rw [← hcw2]; exact hlt)
          rw [← hcw2] at this; omega
        · omega
      · left
        rw [if_neg hneg] at hR
        rcases nextEnd_spec (now := now) cw.ends ok3.now0 with ⟨q, _⟩ | ⟨q1, q2, _⟩
        · omega
        have hlt := mu_next (now := now) ok3.now0 q1 q2
        have hb := ok3.bnd _ q2
        exact ⟨sr, ok3.later (by omega), hbl3, by omega, hR, by omega, by omega⟩
end Go.Proofs.Ytbnkpligdcponaa
