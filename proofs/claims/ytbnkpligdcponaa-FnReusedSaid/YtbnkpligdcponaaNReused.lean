import Derived.Test.YtbnkpligdcponaaN11
namespace Go.Proofs.Ytbnkpligdcponaa
open Go Go.Ah
set_option linter.unusedSimpArgs false
set_option linter.unusedVariables false
set_option maxRecDepth 10000
set_option maxHeartbeats 4000000
/-! 6 loop.example/g00066/laws.FnReused: parameters 1, live [0], slots [0:code, 1:code, 3:j, 4:c, 5:d, 6:same, 7:i, 8:r, 9:k, 10:s, 11:u, 12:only, 13:i, 14:in, 15:n] -/
def c6_0 : List SOper := [⟨some 2, .q (.mv (.c (.bool false))), none⟩]
def c6_1 : List SOper := [⟨some 16, .q (.mv (.t 0)), none⟩, ⟨some 17, .e (.call 20 [(.t 16)]), none⟩]
def c6_2 : List SOper := [⟨some 2, .q (.mv (.c (.bool true))), none⟩]
def c6_3 : SCode := .seq (.region c6_2 [2]) .ret
def c6_4 : SCode := .cond (.t 17) c6_3 .skip
def c6_5 : SCode := .seq (.region c6_1 [0, 17]) c6_4
def c6_6 : List SOper := [⟨some 19, .q (.mv (.t 0)), none⟩, ⟨some 20, .e (.call 26 [(.t 19)]), none⟩, ⟨some 18, .q (.mv (.t 20)), none⟩, ⟨some 21, .q (.ext (.t 18) 0), none⟩, ⟨some 22, .q (.ext (.t 18) 1), none⟩, ⟨some 3, .q (.mv (.t 21)), none⟩, ⟨some 4, .q (.mv (.t 22)), none⟩]
def c6_7 : List SOper := [⟨some 23, .q (.mv (.t 3)), none⟩, ⟨some 24, .q (.mv (.t 4)), none⟩, ⟨some 25, .e (.call 12 [(.t 23), (.t 24)]), none⟩, ⟨some 5, .q (.mv (.t 25)), none⟩]
def c6_8 : List SOper := [⟨some 26, .q (.mv (.t 5)), none⟩, ⟨some 27, .q (.mv (.t 3)), none⟩, ⟨some 28, .q (.mv (.t 4)), none⟩, ⟨some 29, .e (.call 9 [(.t 27), (.t 28)]), none⟩, ⟨some 30, .e (.call 27 [(.t 26), (.t 29)]), none⟩, ⟨some 31, .q (.not (.t 30)), none⟩]
def c6_9 : List SOper := [⟨some 2, .q (.mv (.c (.bool false))), none⟩]
def c6_10 : SCode := .seq (.region c6_9 [2]) .ret
def c6_11 : SCode := .cond (.t 31) c6_10 .skip
def c6_12 : SCode := .seq (.region c6_8 [3, 4, 5, 31]) c6_11
def c6_13 : List SOper := [⟨some 32, .q (.mv (.t 3)), none⟩, ⟨some 33, .e (.call 28 [(.t 32)]), none⟩, ⟨some 34, .q (.not (.t 33)), none⟩]
def c6_14 : List SOper := [⟨some 35, .q (.mv (.t 5)), none⟩, ⟨some 36, .q (.len (.t 35)), none⟩, ⟨some 37, .q (.bin .eql (.t 36) (.c (.int .i64 0))), none⟩, ⟨some 2, .q (.mv (.t 37)), none⟩]
def c6_15 : SCode := .seq (.region c6_14 [2]) .ret
def c6_16 : SCode := .cond (.t 34) c6_15 .skip
def c6_17 : SCode := .seq (.region c6_13 [3, 4, 5, 34]) c6_16
def c6_18 : List SOper := [⟨some 38, .q (.mv (.t 3)), none⟩, ⟨some 39, .q (.mv (.t 3)), none⟩, ⟨some 40, .e (.call 19 [(.t 38), (.t 39)]), none⟩, ⟨some 6, .q (.mv (.t 40)), none⟩]
def c6_19 : List SOper := [⟨some 7, .q (.mv (.c (.int .i64 0))), none⟩]
def c6_20 : List SOper := [⟨some 41, .q (.mv (.t 7)), none⟩, ⟨some 42, .q (.mv (.t 6)), none⟩, ⟨some 43, .q (.len (.t 42)), none⟩, ⟨some 44, .q (.bin .lss (.t 41) (.t 43)), none⟩]
def c6_21 : SCode := .cond (.t 44) .skip (.exit 0)
def c6_22 : SCode := .seq (.region c6_20 [3, 4, 5, 6, 7, 44]) c6_21
def c6_23 : List SOper := [⟨some 47, .q (.mv (.t 6)), none⟩, ⟨some 48, .q (.mv (.t 7)), none⟩, ⟨some 49, .q (.ia 1 (.t 47) (.t 48)), none⟩, ⟨some 50, .q (.ld (.t 49)), none⟩, ⟨some 51, .q (.bin .neq (.t 50) (.c (.int .i64 0))), none⟩]
def c6_24 : List SOper := [⟨some 2, .q (.mv (.c (.bool false))), none⟩]
def c6_25 : SCode := .seq (.region c6_24 [2]) .ret
def c6_26 : SCode := .cond (.t 51) c6_25 .skip
def c6_27 : SCode := .seq (.region c6_23 [3, 4, 5, 6, 7, 51]) c6_26
def c6_28 : SCode := .block 1 c6_27
def c6_29 : List SOper := [⟨some 45, .q (.mv (.t 7)), none⟩, ⟨some 46, .q (.bin .add (.t 45) (.c (.int .i64 1))), none⟩, ⟨some 7, .q (.mv (.t 46)), none⟩]
def c6_30 : SCode := .seq c6_28 (.region c6_29 [3, 4, 5, 6, 7])
def c6_31 : SCode := .seq c6_22 c6_30
def c6_32 : SCode := .loop c6_31
def c6_33 : SCode := .block 0 c6_32
def c6_34 : SCode := .seq (.region c6_19 [3, 4, 5, 6, 7]) c6_33
def c6_35 : List SOper := [⟨some 52, .q (.mv (.t 3)), none⟩, ⟨some 53, .e (.call 29 [(.t 52)]), none⟩, ⟨some 8, .q (.mv (.t 53)), none⟩]
def c6_36 : List SOper := [⟨some 54, .q (.mv (.t 4)), none⟩, ⟨some 55, .q (.len (.t 54)), none⟩, ⟨some 56, .q (.bin .eql (.t 55) (.c (.int .i64 0))), none⟩, ⟨some 57, .q (.mv (.t 56)), none⟩, ⟨some 58, .q (.mv (.t 5)), some (57, false)⟩, ⟨some 59, .q (.len (.t 58)), some (57, false)⟩, ⟨some 60, .q (.bin .eql (.t 59) (.c (.int .i64 0))), some (57, false)⟩, ⟨some 61, .q (.pick (.t 57) (.c (.bool true)) (.t 60)), none⟩, ⟨some 62, .q (.mv (.t 61)), none⟩, ⟨some 63, .q (.mv (.t 3)), some (62, false)⟩, ⟨some 64, .q (.mv (.t 4)), some (62, false)⟩, ⟨some 65, .q (.ia 1 (.t 64) (.c (.int .i64 0))), some (62, false)⟩, ⟨some 66, .q (.ld (.t 65)), some (62, false)⟩, ⟨some 67, .q (.ia 4 (.t 63) (.t 66)), some (62, false)⟩, ⟨some 68, .q (.fa 1 (.t 67)), some (62, false)⟩, ⟨some 69, .q (.ld (.t 68)), some (62, false)⟩, ⟨some 70, .q (.bin .eql (.t 69) (.c (.int .i64 10000000))), some (62, false)⟩, ⟨some 71, .q (.pick (.t 62) (.c (.bool true)) (.t 70)), none⟩]
def c6_37 : List SOper := [⟨some 72, .q (.mv (.t 6)), none⟩, ⟨some 73, .q (.len (.t 72)), none⟩, ⟨some 74, .q (.mv (.t 3)), none⟩, ⟨some 75, .q (.len (.t 74)), none⟩, ⟨some 76, .q (.bin .eql (.t 73) (.t 75)), none⟩, ⟨some 77, .q (.mv (.t 76)), none⟩, ⟨some 78, .q (.mv (.t 8)), some (77, true)⟩, ⟨some 79, .q (.mv (.t 3)), some (77, true)⟩, ⟨some 80, .e (.call 30 [(.t 79)]), some (77, true)⟩, ⟨some 81, .e (.call 27 [(.t 78), (.t 80)]), some (77, true)⟩, ⟨some 82, .q (.pick (.t 77) (.t 81) (.c (.bool false))), none⟩, ⟨some 2, .q (.mv (.t 82)), none⟩]
def c6_38 : SCode := .seq (.region c6_37 [2]) .ret
def c6_39 : SCode := .cond (.t 71) c6_38 .skip
def c6_40 : SCode := .seq (.region c6_36 [3, 4, 6, 8, 71]) c6_39
def c6_41 : List SOper := [⟨some 83, .a (.bsl 0 4 [] []), none⟩, ⟨some 84, .q (.mv (.t 3)), none⟩, ⟨some 85, .e (.app 48 4 (.t 83) (.t 84)), none⟩, ⟨some 9, .q (.mv (.t 85)), none⟩]
def c6_42 : List SOper := [⟨some 86, .q (.mv (.t 9)), none⟩, ⟨some 87, .q (.mv (.t 4)), none⟩, ⟨some 88, .q (.ia 1 (.t 87) (.c (.int .i64 0))), none⟩, ⟨some 89, .q (.ld (.t 88)), none⟩, ⟨some 90, .q (.mv (.t 9)), none⟩, ⟨some 91, .q (.mv (.t 4)), none⟩, ⟨some 92, .q (.ia 1 (.t 91) (.c (.int .i64 0))), none⟩, ⟨some 93, .q (.ld (.t 92)), none⟩, ⟨some 94, .q (.ia 4 (.t 90) (.t 93)), none⟩, ⟨some 95, .q (.fa 1 (.t 94)), none⟩, ⟨some 96, .q (.ld (.t 95)), none⟩, ⟨some 97, .q (.bin .add (.t 96) (.c (.int .i64 1))), none⟩, ⟨some 98, .q (.ia 4 (.t 86) (.t 89)), none⟩, ⟨some 99, .q (.fa 1 (.t 98)), none⟩, ⟨none, .e (.st 1 (.t 99) (.t 97)), none⟩]
def c6_43 : List SOper := [⟨some 100, .q (.mv (.t 9)), none⟩, ⟨some 101, .e (.call 29 [(.t 100)]), none⟩, ⟨some 10, .q (.mv (.t 101)), none⟩]
def c6_44 : List SOper := [⟨some 102, .q (.mv (.t 3)), none⟩, ⟨some 103, .q (.mv (.t 9)), none⟩, ⟨some 104, .e (.call 19 [(.t 102), (.t 103)]), none⟩, ⟨some 11, .q (.mv (.t 104)), none⟩]
def c6_45 : List SOper := [⟨some 105, .q (.mv (.t 3)), none⟩, ⟨some 106, .q (.mv (.t 4)), none⟩, ⟨some 107, .q (.slc 1 (.t 106) none (some (.c (.int .i64 1)))), none⟩, ⟨some 108, .e (.call 12 [(.t 105), (.t 107)]), none⟩, ⟨some 12, .q (.mv (.t 108)), none⟩]
def c6_46 : List SOper := [⟨some 13, .q (.mv (.c (.int .i64 0))), none⟩]
def c6_47 : List SOper := [⟨some 109, .q (.mv (.t 13)), none⟩, ⟨some 110, .q (.mv (.t 8)), none⟩, ⟨some 111, .q (.len (.t 110)), none⟩, ⟨some 112, .q (.bin .lss (.t 109) (.t 111)), none⟩]
def c6_48 : SCode := .cond (.t 112) .skip (.exit 2)
def c6_49 : SCode := .seq (.region c6_47 [4, 8, 10, 11, 12, 13, 112]) c6_48
def c6_50 : List SOper := [⟨some 14, .q (.mv (.c (.bool false))), none⟩]
def c6_51 : List SOper := [⟨some 15, .q (.mv (.c (.int .i64 0))), none⟩]
def c6_52 : List SOper := [⟨some 115, .q (.mv (.t 15)), none⟩, ⟨some 116, .q (.mv (.t 12)), none⟩, ⟨some 117, .q (.len (.t 116)), none⟩, ⟨some 118, .q (.bin .lss (.t 115) (.t 117)), none⟩]
def c6_53 : SCode := .cond (.t 118) .skip (.exit 4)
def c6_54 : SCode := .seq (.region c6_52 [4, 8, 10, 11, 12, 13, 14, 15, 118]) c6_53
def c6_55 : List SOper := [⟨some 121, .q (.mv (.t 14)), none⟩, ⟨some 122, .q (.mv (.t 121)), none⟩, ⟨some 123, .q (.mv (.t 12)), some (122, false)⟩, ⟨some 124, .q (.mv (.t 15)), some (122, false)⟩, ⟨some 125, .q (.ia 1 (.t 123) (.t 124)), some (122, false)⟩, ⟨some 126, .q (.ld (.t 125)), some (122, false)⟩, ⟨some 127, .q (.mv (.t 13)), some (122, false)⟩, ⟨some 128, .q (.bin .eql (.t 126) (.t 127)), some (122, false)⟩, ⟨some 129, .q (.pick (.t 122) (.c (.bool true)) (.t 128)), none⟩, ⟨some 14, .q (.mv (.t 129)), none⟩]
def c6_56 : SCode := .block 5 (.region c6_55 [4, 8, 10, 11, 12, 13, 14, 15])
def c6_57 : List SOper := [⟨some 119, .q (.mv (.t 15)), none⟩, ⟨some 120, .q (.bin .add (.t 119) (.c (.int .i64 1))), none⟩, ⟨some 15, .q (.mv (.t 120)), none⟩]
def c6_58 : SCode := .seq c6_56 (.region c6_57 [4, 8, 10, 11, 12, 13, 14, 15])
def c6_59 : SCode := .seq c6_54 c6_58
def c6_60 : SCode := .loop c6_59
def c6_61 : SCode := .block 4 c6_60
def c6_62 : SCode := .seq (.region c6_51 [4, 8, 10, 11, 12, 13, 14, 15]) c6_61
def c6_63 : List SOper := [⟨some 130, .q (.mv (.t 14)), none⟩, ⟨some 131, .q (.not (.t 130)), none⟩, ⟨some 132, .q (.mv (.t 131)), none⟩, ⟨some 133, .q (.mv (.t 8)), some (132, true)⟩, ⟨some 134, .q (.mv (.t 13)), some (132, true)⟩, ⟨some 135, .q (.ia 1 (.t 133) (.t 134)), some (132, true)⟩, ⟨some 136, .q (.ld (.t 135)), some (132, true)⟩, ⟨some 137, .q (.mv (.t 10)), some (132, true)⟩, ⟨some 138, .q (.mv (.t 13)), some (132, true)⟩, ⟨some 139, .q (.ia 1 (.t 137) (.t 138)), some (132, true)⟩, ⟨some 140, .q (.ld (.t 139)), some (132, true)⟩, ⟨some 141, .q (.bin .neq (.t 136) (.t 140)), some (132, true)⟩, ⟨some 142, .q (.mv (.t 141)), some (132, true)⟩, ⟨some 143, .q (.mv (.t 11)), some (142, false)⟩, ⟨some 144, .q (.mv (.t 13)), some (142, false)⟩, ⟨some 145, .q (.ia 1 (.t 143) (.t 144)), some (142, false)⟩, ⟨some 146, .q (.ld (.t 145)), some (142, false)⟩, ⟨some 147, .q (.bin .neq (.t 146) (.c (.int .i64 0))), some (142, false)⟩, ⟨some 148, .q (.pick (.t 142) (.c (.bool true)) (.t 147)), some (132, true)⟩, ⟨some 149, .q (.pick (.t 132) (.t 148) (.c (.bool false))), none⟩]
def c6_64 : List SOper := [⟨some 2, .q (.mv (.c (.bool false))), none⟩]
def c6_65 : SCode := .seq (.region c6_64 [2]) .ret
def c6_66 : SCode := .cond (.t 149) c6_65 .skip
def c6_67 : SCode := .seq (.region c6_63 [4, 8, 10, 11, 12, 13, 149]) c6_66
def c6_68 : SCode := .seq c6_62 c6_67
def c6_69 : SCode := .seq (.region c6_50 [4, 8, 10, 11, 12, 13, 14]) c6_68
def c6_70 : SCode := .block 3 c6_69
def c6_71 : List SOper := [⟨some 113, .q (.mv (.t 13)), none⟩, ⟨some 114, .q (.bin .add (.t 113) (.c (.int .i64 1))), none⟩, ⟨some 13, .q (.mv (.t 114)), none⟩]
def c6_72 : SCode := .seq c6_70 (.region c6_71 [4, 8, 10, 11, 12, 13])
def c6_73 : SCode := .seq c6_49 c6_72
def c6_74 : SCode := .loop c6_73
def c6_75 : SCode := .block 2 c6_74
def c6_76 : SCode := .seq (.region c6_46 [4, 8, 10, 11, 12, 13]) c6_75
def c6_77 : List SOper := [⟨some 150, .q (.mv (.t 10)), none⟩, ⟨some 151, .q (.len (.t 150)), none⟩, ⟨some 152, .q (.mv (.t 8)), none⟩, ⟨some 153, .q (.len (.t 152)), none⟩, ⟨some 154, .q (.bin .eql (.t 151) (.t 153)), none⟩, ⟨some 155, .q (.mv (.t 154)), none⟩, ⟨some 156, .q (.mv (.t 10)), some (155, true)⟩, ⟨some 157, .q (.mv (.t 4)), some (155, true)⟩, ⟨some 158, .q (.ia 1 (.t 157) (.c (.int .i64 0))), some (155, true)⟩, ⟨some 159, .q (.ld (.t 158)), some (155, true)⟩, ⟨some 160, .q (.ia 1 (.t 156) (.t 159)), some (155, true)⟩, ⟨some 161, .q (.ld (.t 160)), some (155, true)⟩, ⟨some 162, .q (.mv (.t 8)), some (155, true)⟩, ⟨some 163, .q (.mv (.t 4)), some (155, true)⟩, ⟨some 164, .q (.ia 1 (.t 163) (.c (.int .i64 0))), some (155, true)⟩, ⟨some 165, .q (.ld (.t 164)), some (155, true)⟩, ⟨some 166, .q (.ia 1 (.t 162) (.t 165)), some (155, true)⟩, ⟨some 167, .q (.ld (.t 166)), some (155, true)⟩, ⟨some 168, .q (.bin .neq (.t 161) (.t 167)), some (155, true)⟩, ⟨some 169, .q (.pick (.t 155) (.t 168) (.c (.bool false))), none⟩, ⟨some 2, .q (.mv (.t 169)), none⟩]
def c6_78 : SCode := .seq (.region c6_77 [2]) .ret
def c6_79 : SCode := .seq c6_76 c6_78
def c6_80 : SCode := .seq (.region c6_45 [4, 8, 10, 11, 12]) c6_79
def c6_81 : SCode := .seq (.region c6_44 [3, 4, 8, 10, 11]) c6_80
def c6_82 : SCode := .seq (.region c6_43 [3, 4, 8, 9, 10]) c6_81
def c6_83 : SCode := .seq (.region c6_42 [3, 4, 8, 9]) c6_82
def c6_84 : SCode := .seq (.region c6_41 [3, 4, 8, 9]) c6_83
def c6_85 : SCode := .seq c6_40 c6_84
def c6_86 : SCode := .seq (.region c6_35 [3, 4, 5, 6, 8]) c6_85
def c6_87 : SCode := .seq c6_34 c6_86
def c6_88 : SCode := .seq (.region c6_18 [3, 4, 5, 6]) c6_87
def c6_89 : SCode := .seq c6_17 c6_88
def c6_90 : SCode := .seq c6_12 c6_89
def c6_91 : SCode := .seq (.region c6_7 [3, 4, 5]) c6_90
def c6_92 : SCode := .seq (.region c6_6 [3, 4]) c6_91
def c6_93 : SCode := .seq c6_5 c6_92
def c6_94 : SCode := .seq (.region c6_0 [0]) c6_93
def c6 : SCode := c6_94
theorem w6 : type_of% (And.intro (uR Try.prog c6_0.eq_1) (And.intro (uR Try.prog c6_1.eq_1) (And.intro (uR Try.prog c6_2.eq_1) (And.intro (uC Try.prog c6_3.eq_1) (And.intro (uC Try.prog c6_4.eq_1) (And.intro (uC Try.prog c6_5.eq_1) (And.intro (uR Try.prog c6_6.eq_1) (And.intro (uR Try.prog c6_7.eq_1) (And.intro (uR Try.prog c6_8.eq_1) (And.intro (uR Try.prog c6_9.eq_1) (And.intro (uC Try.prog c6_10.eq_1) (And.intro (uC Try.prog c6_11.eq_1) (And.intro (uC Try.prog c6_12.eq_1) (And.intro (uR Try.prog c6_13.eq_1) (And.intro (uR Try.prog c6_14.eq_1) (And.intro (uC Try.prog c6_15.eq_1) (And.intro (uC Try.prog c6_16.eq_1) (And.intro (uC Try.prog c6_17.eq_1) (And.intro (uR Try.prog c6_18.eq_1) (And.intro (uR Try.prog c6_19.eq_1) (And.intro (uR Try.prog c6_20.eq_1) (And.intro (uC Try.prog c6_21.eq_1) (And.intro (uC Try.prog c6_22.eq_1) (And.intro (uR Try.prog c6_23.eq_1) (And.intro (uR Try.prog c6_24.eq_1) (And.intro (uC Try.prog c6_25.eq_1) (And.intro (uC Try.prog c6_26.eq_1) (And.intro (uC Try.prog c6_27.eq_1) (And.intro (uC Try.prog c6_28.eq_1) (And.intro (uR Try.prog c6_29.eq_1) (And.intro (uC Try.prog c6_30.eq_1) (And.intro (uC Try.prog c6_31.eq_1) (And.intro (uC Try.prog c6_32.eq_1) (And.intro (uC Try.prog c6_33.eq_1) (And.intro (uC Try.prog c6_34.eq_1) (And.intro (uR Try.prog c6_35.eq_1) (And.intro (uR Try.prog c6_36.eq_1) (And.intro (uR Try.prog c6_37.eq_1) (And.intro (uC Try.prog c6_38.eq_1) (And.intro (uC Try.prog c6_39.eq_1) (And.intro (uC Try.prog c6_40.eq_1) (And.intro (uR Try.prog c6_41.eq_1) (And.intro (uR Try.prog c6_42.eq_1) (And.intro (uR Try.prog c6_43.eq_1) (And.intro (uR Try.prog c6_44.eq_1) (And.intro (uR Try.prog c6_45.eq_1) (And.intro (uR Try.prog c6_46.eq_1) (And.intro (uR Try.prog c6_47.eq_1) (And.intro (uC Try.prog c6_48.eq_1) (And.intro (uC Try.prog c6_49.eq_1) (And.intro (uR Try.prog c6_50.eq_1) (And.intro (uR Try.prog c6_51.eq_1) (And.intro (uR Try.prog c6_52.eq_1) (And.intro (uC Try.prog c6_53.eq_1) (And.intro (uC Try.prog c6_54.eq_1) (And.intro (uR Try.prog c6_55.eq_1) (And.intro (uC Try.prog c6_56.eq_1) (And.intro (uR Try.prog c6_57.eq_1) (And.intro (uC Try.prog c6_58.eq_1) (And.intro (uC Try.prog c6_59.eq_1) (And.intro (uC Try.prog c6_60.eq_1) (And.intro (uC Try.prog c6_61.eq_1) (And.intro (uC Try.prog c6_62.eq_1) (And.intro (uR Try.prog c6_63.eq_1) (And.intro (uR Try.prog c6_64.eq_1) (And.intro (uC Try.prog c6_65.eq_1) (And.intro (uC Try.prog c6_66.eq_1) (And.intro (uC Try.prog c6_67.eq_1) (And.intro (uC Try.prog c6_68.eq_1) (And.intro (uC Try.prog c6_69.eq_1) (And.intro (uC Try.prog c6_70.eq_1) (And.intro (uR Try.prog c6_71.eq_1) (And.intro (uC Try.prog c6_72.eq_1) (And.intro (uC Try.prog c6_73.eq_1) (And.intro (uC Try.prog c6_74.eq_1) (And.intro (uC Try.prog c6_75.eq_1) (And.intro (uC Try.prog c6_76.eq_1) (And.intro (uR Try.prog c6_77.eq_1) (And.intro (uC Try.prog c6_78.eq_1) (And.intro (uC Try.prog c6_79.eq_1) (And.intro (uC Try.prog c6_80.eq_1) (And.intro (uC Try.prog c6_81.eq_1) (And.intro (uC Try.prog c6_82.eq_1) (And.intro (uC Try.prog c6_83.eq_1) (And.intro (uC Try.prog c6_84.eq_1) (And.intro (uC Try.prog c6_85.eq_1) (And.intro (uC Try.prog c6_86.eq_1) (And.intro (uC Try.prog c6_87.eq_1) (And.intro (uC Try.prog c6_88.eq_1) (And.intro (uC Try.prog c6_89.eq_1) (And.intro (uC Try.prog c6_90.eq_1) (And.intro (uC Try.prog c6_91.eq_1) (And.intro (uC Try.prog c6_92.eq_1) (And.intro (uC Try.prog c6_93.eq_1) (And.intro (uC Try.prog c6_94.eq_1) (uC Try.prog c6.eq_1)))))))))))))))))))))))))))))))))))))))))))))))))))))))))))))))))))))))))))))))))))))))))))))))) := (And.intro (uR Try.prog c6_0.eq_1) (And.intro (uR Try.prog c6_1.eq_1) (And.intro (uR Try.prog c6_2.eq_1) (And.intro (uC Try.prog c6_3.eq_1) (And.intro (uC Try.prog c6_4.eq_1) (And.intro (uC Try.prog c6_5.eq_1) (And.intro (uR Try.prog c6_6.eq_1) (And.intro (uR Try.prog c6_7.eq_1) (And.intro (uR Try.prog c6_8.eq_1) (And.intro (uR Try.prog c6_9.eq_1) (And.intro (uC Try.prog c6_10.eq_1) (And.intro (uC Try.prog c6_11.eq_1) (And.intro (uC Try.prog c6_12.eq_1) (And.intro (uR Try.prog c6_13.eq_1) (And.intro (uR Try.prog c6_14.eq_1) (And.intro (uC Try.prog c6_15.eq_1) (And.intro (uC Try.prog c6_16.eq_1) (And.intro (uC Try.prog c6_17.eq_1) (And.intro (uR Try.prog c6_18.eq_1) (And.intro (uR Try.prog c6_19.eq_1) (And.intro (uR Try.prog c6_20.eq_1) (And.intro (uC Try.prog c6_21.eq_1) (And.intro (uC Try.prog c6_22.eq_1) (And.intro (uR Try.prog c6_23.eq_1) (And.intro (uR Try.prog c6_24.eq_1) (And.intro (uC Try.prog c6_25.eq_1) (And.intro (uC Try.prog c6_26.eq_1) (And.intro (uC Try.prog c6_27.eq_1) (And.intro (uC Try.prog c6_28.eq_1) (And.intro (uR Try.prog c6_29.eq_1) (And.intro (uC Try.prog c6_30.eq_1) (And.intro (uC Try.prog c6_31.eq_1) (And.intro (uC Try.prog c6_32.eq_1) (And.intro (uC Try.prog c6_33.eq_1) (And.intro (uC Try.prog c6_34.eq_1) (And.intro (uR Try.prog c6_35.eq_1) (And.intro (uR Try.prog c6_36.eq_1) (And.intro (uR Try.prog c6_37.eq_1) (And.intro (uC Try.prog c6_38.eq_1) (And.intro (uC Try.prog c6_39.eq_1) (And.intro (uC Try.prog c6_40.eq_1) (And.intro (uR Try.prog c6_41.eq_1) (And.intro (uR Try.prog c6_42.eq_1) (And.intro (uR Try.prog c6_43.eq_1) (And.intro (uR Try.prog c6_44.eq_1) (And.intro (uR Try.prog c6_45.eq_1) (And.intro (uR Try.prog c6_46.eq_1) (And.intro (uR Try.prog c6_47.eq_1) (And.intro (uC Try.prog c6_48.eq_1) (And.intro (uC Try.prog c6_49.eq_1) (And.intro (uR Try.prog c6_50.eq_1) (And.intro (uR Try.prog c6_51.eq_1) (And.intro (uR Try.prog c6_52.eq_1) (And.intro (uC Try.prog c6_53.eq_1) (And.intro (uC Try.prog c6_54.eq_1) (And.intro (uR Try.prog c6_55.eq_1) (And.intro (uC Try.prog c6_56.eq_1) (And.intro (uR Try.prog c6_57.eq_1) (And.intro (uC Try.prog c6_58.eq_1) (And.intro (uC Try.prog c6_59.eq_1) (And.intro (uC Try.prog c6_60.eq_1) (And.intro (uC Try.prog c6_61.eq_1) (And.intro (uC Try.prog c6_62.eq_1) (And.intro (uR Try.prog c6_63.eq_1) (And.intro (uR Try.prog c6_64.eq_1) (And.intro (uC Try.prog c6_65.eq_1) (And.intro (uC Try.prog c6_66.eq_1) (And.intro (uC Try.prog c6_67.eq_1) (And.intro (uC Try.prog c6_68.eq_1) (And.intro (uC Try.prog c6_69.eq_1) (And.intro (uC Try.prog c6_70.eq_1) (And.intro (uR Try.prog c6_71.eq_1) (And.intro (uC Try.prog c6_72.eq_1) (And.intro (uC Try.prog c6_73.eq_1) (And.intro (uC Try.prog c6_74.eq_1) (And.intro (uC Try.prog c6_75.eq_1) (And.intro (uC Try.prog c6_76.eq_1) (And.intro (uR Try.prog c6_77.eq_1) (And.intro (uC Try.prog c6_78.eq_1) (And.intro (uC Try.prog c6_79.eq_1) (And.intro (uC Try.prog c6_80.eq_1) (And.intro (uC Try.prog c6_81.eq_1) (And.intro (uC Try.prog c6_82.eq_1) (And.intro (uC Try.prog c6_83.eq_1) (And.intro (uC Try.prog c6_84.eq_1) (And.intro (uC Try.prog c6_85.eq_1) (And.intro (uC Try.prog c6_86.eq_1) (And.intro (uC Try.prog c6_87.eq_1) (And.intro (uC Try.prog c6_88.eq_1) (And.intro (uC Try.prog c6_89.eq_1) (And.intro (uC Try.prog c6_90.eq_1) (And.intro (uC Try.prog c6_91.eq_1) (And.intro (uC Try.prog c6_92.eq_1) (And.intro (uC Try.prog c6_93.eq_1) (And.intro (uC Try.prog c6_94.eq_1) (uC Try.prog c6.eq_1))))))))))))))))))))))))))))))))))))))))))))))))))))))))))))))))))))))))))))))))))))))))))))))))
def v6 : List RV := [.t 2]
theorem s6 : slimF Try.prog Try.f6 = some (c6.bare, v6) := by kernel_rfl

/-! ### The plain law: what is changed makes dirty just itself and what needs it -/
theorem getD_atR {α : Type} {l : List α} {i : Nat} (h : i < l.length) (d : α) : l.getD i d = l[i] := by simp [List.getD, List.getElem?_eq_getElem h]
theorem SlT_upto {α : Type} {h : Heap} {enc : α → List Value} {sz : Nat} {v : Value} {l : List α} (s : SlT h enc sz v l) (k : Nat) (hk : k ≤ l.length) (h0 : 0 < l.length) :
    ∃ u, slcV sz v none (some (.int .i64 (k : Int))) = some u ∧ SlT h enc sz u (l.take k) := by
  have hlen := s.slLen
  rcases s.sl with ⟨rfl, h2⟩ | ⟨rfl, h2⟩ | ⟨i, o, n, ob, rfl, h2, h3, h4, h5⟩
  · simp [slLen] at hlen; omega
  · simp [slLen] at hlen; omega
  · simp only [slLen] at hlen
    have hkn : k * sz ≤ n * sz := Nat.mul_le_mul_right _ (by omega)
    refine ⟨.slice (some ⟨i, o, none⟩) k sz, ?_, ⟨.inr (.inr ⟨i, o, k, ob, rfl, h2, h3, by omega, ?_⟩), s.hs, s.pos⟩⟩
    · simp only [slcV, Option.map_none, Option.getD_none, Option.bind_some, Option.map_some, Option.getD_some, bndV]
      rw [if_pos ⟨by omega, by omega⟩]
      simp [Addr.add]
    · have : (l.take k).flatMap enc = (l.flatMap enc).take (k * sz) := by
        have hsp : l.flatMap enc = (l.take k).flatMap enc ++ (l.drop k).flatMap enc := by rw [← List.flatMap_append, List.take_append_drop]
        have hl1 : ((l.take k).flatMap enc).length = k * sz := by rw [flat_len s.hs, List.length_take, Nat.min_eq_left hk]
        rw [hsp, List.take_append_of_le_length (by omega)]
        exact (List.take_of_length_le (by omega)).symm
      rw [this, ← h5, List.take_take, Nat.min_eq_left hkn]
theorem reusedL_self (l : List Task) : ∀ x ∈ reusedL l l, x = 0 := by
  intro x hx
  obtain ⟨i, hi, rfl⟩ := List.mem_iff_getElem.mp hx
  rw [reusedL_length] at hi
  simp only [reusedL, List.getElem_zipWith, costV]
  rw [if_pos (List.getElem_mem _)]
theorem resF_take (l : List Task) (i : Nat) (hi : i ≤ l.length) : resF (l.take i) = (resF l).take i := by
  have key : ∀ k, i + k ≤ l.length → (resF (l.take (i + k))).take i = resF (l.take i) := by
    intro k
    induction k with
    | zero => intro _; rw [Nat.add_zero, List.take_of_length_le]; rw [resF_length]; simp; omega
    | succ k ih =>
      intro hk
      rw [show i + (k + 1) = (i + k) + 1 by omega, resF_step l (i + k) (by omega), List.take_append_of_le_length (by rw [resF_length]; simp; omega)]
      exact ih (by omega)
  have := key (l.length - i) (by omega)
  rw [show i + (l.length - i) = l.length by omega, List.take_length] at this
  exact this.symm
/-- One result, of those ahead. -/
theorem resF_get (l : List Task) (i : Nat) (hi : i < l.length) : (resF l)[i]'(by rw [resF_length]; exact hi) = resV ((resF l).take i) l[i] := by
  have h1 := resF_step l i hi
  rw [resF_take l (i + 1) (by omega), resF_take l i (by omega), List.take_succ_eq_append_getElem (by rw [resF_length]; exact hi)] at h1
  have := List.append_cancel_left h1
  simpa using this
theorem dirtyB_take (ch : List Int) (l : List Task) (i : Nat) (hi : i ≤ l.length) : dirtyB ch (l.take i) = (dirtyB ch l).take i := by
  have key : ∀ k, i + k ≤ l.length → (dirtyB ch (l.take (i + k))).take i = dirtyB ch (l.take i) := by
    intro k
    induction k with
    | zero => intro _; rw [Nat.add_zero, List.take_of_length_le]; rw [dirtyB_length]; simp; omega
    | succ k ih =>
      intro hk
      rw [show i + (k + 1) = (i + k) + 1 by omega, dirtyB_step ch l (i + k) (by omega), List.take_append_of_le_length (by rw [dirtyB_length]; simp; omega)]
      exact ih (by omega)
  have := key (l.length - i) (by omega)
  rw [show i + (l.length - i) = l.length by omega, List.take_length] at this
  exact this.symm
theorem dirtyB_get (ch : List Int) (l : List Task) (i : Nat) (hi : i < l.length) : (dirtyB ch l)[i]'(by rw [dirtyB_length]; exact hi) = dirtyV ((dirtyB ch l).take i) ch l[i] := by
  have h1 := dirtyB_step ch l i hi
  rw [dirtyB_take ch l (i + 1) (by omega), dirtyB_take ch l i (by omega), List.take_succ_eq_append_getElem (by rw [dirtyB_length]; exact hi)] at h1
  have := List.append_cancel_left h1
  simpa using this
theorem fold_congr (ns : List Int) (f g : Int → Int) (h : ∀ n ∈ ns, f n = g n) : ∀ x, ns.foldl (fun h n => stp h (f n)) x = ns.foldl (fun h n => stp h (g n)) x := by
  induction ns with
  | nil => intro x; rfl
  | cons n ns ih => intro x; rw [List.foldl_cons, List.foldl_cons, h n (by simp)]; exact ih (fun m hm => h m (by simp [hm])) _
def oneMore (t : Task) : Task := ⟨t.kind, t.value + 1, t.needs, t.cost⟩
section
variable {l : List Task} {c : Nat}
theorem take_getD {α : Type} (l : List α) (i n : Nat) (d : α) (hn : n < i) : (l.take i).getD n d = l.getD n d := by
  simp [List.getD, List.getElem?_take, hn]
/-- What is not dirty gives what it gave. -/
theorem clean_same (hk : jobIn l) (hc : c < l.length) : ∀ i, (hi : i < l.length) → (dirtyB [(c : Int)] l)[i]'(by rw [dirtyB_length]; exact hi) = false →
    (resF (l.set c (oneMore l[c]))).getD i 0 = (resF l).getD i 0 := by
  intro i
  induction i using Nat.strongRecOn with
  | _ i ih =>
    intro hi hd
    rw [dirtyB_get _ _ _ hi] at hd
    unfold dirtyV at hd
    rw [Bool.or_eq_false_iff] at hd
    obtain ⟨d1, d2⟩ := hd
    have hlen : ((dirtyB [(c : Int)] l).take i).length = i := by rw [List.length_take, dirtyB_length]; omega
    rw [hlen] at d1
    have hic : i ≠ c := by have := of_decide_eq_false d1; simp at this; omega
    have hi2 : i < (l.set c (oneMore l[c])).length := by simpa using hi
    rw [getD_atR (show i < (resF (l.set c (oneMore l[c]))).length by rw [resF_length]; exact hi2), getD_atR (show i < (resF l).length by rw [resF_length]; exact hi), resF_get _ _ hi2, resF_get _ _ hi]
    rw [List.getElem_set_ne (fun q => hic q.symm)]
    unfold resV
    refine fold_congr _ _ _ (fun n hn => ?_) _
    obtain ⟨b1, b2⟩ := (hk i hi).2.2.2.1 n hn
    rw [take_getD _ _ _ _ (by omega), take_getD _ _ _ _ (by omega)]
    refine ih n.toNat (by omega) (by omega) ?_
    rw [List.any_eq_false] at d2
    have := d2 n hn
    rw [take_getD _ _ _ _ (by omega), getD_atR (show n.toNat < (dirtyB [(c : Int)] l).length by rw [dirtyB_length]; omega)] at this
    simpa using this
theorem stp_inj {h h' x : Int} (b : 0 ≤ h ∧ h < 1000000007) (b' : 0 ≤ h' ∧ h' < 1000000007) (hx : 0 ≤ x ∧ x < 1000000007) (e : stp h x = stp h' x) : h = h' := by
  unfold stp at e
  rw [Int.tmod_eq_emod_of_nonneg (by omega), Int.tmod_eq_emod_of_nonneg (by omega)] at e
  omega
theorem fold_inj {acc : List Int} (hb : ∀ x ∈ acc, 0 ≤ x ∧ x < 1000000007) : ∀ (ns : List Int) (h h' : Int), 0 ≤ h ∧ h < 1000000007 → 0 ≤ h' ∧ h' < 1000000007 →
    ns.foldl (fun h n => stp h (acc.getD n.toNat 0)) h = ns.foldl (fun h n => stp h (acc.getD n.toNat 0)) h' → h = h' := by
  intro ns
  induction ns with
  | nil => intro h h' _ _ e; exact e
  | cons n ns ih =>
    intro h h' b b' e
    rw [List.foldl_cons, List.foldl_cons] at e
    have g := getD_b hb n.toNat
    exact stp_inj b b' g (ih _ _ (stp_b b.1 g.1) (stp_b b'.1 g.1) e)
/-- What is changed gives something else. -/
theorem changed_other (hk : jobIn l) (hc : c < l.length) : (resF (l.set c (oneMore l[c]))).getD c 0 ≠ (resF l).getD c 0 := by
  have hc2 : c < (l.set c (oneMore l[c])).length := by simpa using hc
  rw [getD_atR (show c < (resF (l.set c (oneMore l[c]))).length by rw [resF_length]; exact hc2), getD_atR (show c < (resF l).length by rw [resF_length]; exact hc), resF_get _ _ hc2, resF_get _ _ hc]
  rw [← resF_take _ _ (by omega), ← resF_take _ _ (by omega), List.take_set_of_le (Nat.le_refl _), List.getElem_set_self]
  unfold resV
  simp only [oneMore]
  intro e
  obtain ⟨k1, k2, _⟩ := hk c hc
  have b1 := tmod_b (x := l[c].kind * 1000003 + (l[c].value + 1)) (by omega)
  have b2 := tmod_b (x := l[c].kind * 1000003 + l[c].value) (by omega)
  have := fold_inj (resF_b hk c (by omega)) _ _ _ b1 b2 e
  rw [Int.tmod_eq_emod_of_nonneg (by omega), Int.tmod_eq_emod_of_nonneg (by omega)] at this
  omega
theorem jobOk_more (h : jobOk l) (hc : c < l.length) (hv : l[c].value ≠ 10000000) : jobOk (l.set c (oneMore l[c])) := by
  refine ⟨by simpa using h.1, fun i hi => ?_⟩
  simp only [List.length_set] at hi
  rw [List.getElem_set]
  split
  · rename_i q
    subst q
    have := h.2 c hi
    unfold taskOk at this ⊢
    simp only [oneMore]
    exact ⟨this.1, by omega, this.2.2⟩
  · exact h.2 i hi
end
theorem FnReused_ok (h : Heap) (v : Value) (code : List Int) (s : SlT h encByte 1 v code) (hl : code.length ≤ 9223372036854775807) :
    ACall Try.prog 6 [v] h fun r h' => r = .bool true := by
  refine ACall.of Try.func6 s6 (of_decide_eq_true rfl) ?_
  simp (maxSteps := 4000000) (disch := omega) only [ah, am, Nat.reduceEqDiff, reduceCtorEq, Nat.reduceAdd, Nat.reduceLeDiff, Nat.reduceMul, Nat.reduceLT, if_true, if_false, true_and, and_true, and_self, Nat.reduceBEq, QOp.loads, boxO, bslO, buildO, cutL, fillV, putL, w6, v6]
  refine stepC.of (big_ok _ _ _ s) ?_
  rintro _ Hx ⟨hx, rfl⟩; rw [hx]; clear hx Hx
  by_cases hbig : (4096 : Int) < code.length
  · simp (maxSteps := 4000000) (disch := omega) only [ah, am, Nat.reduceEqDiff, reduceCtorEq, Nat.reduceAdd, Nat.reduceLeDiff, Nat.reduceMul, Nat.reduceLT, if_true, if_false, true_and, and_true, and_self, Nat.reduceBEq, QOp.loads, boxO, bslO, buildO, cutL, fillV, putL, w6, v6, decide_eq_true hbig]
  simp (maxSteps := 4000000) (disch := omega) only [ah, am, Nat.reduceEqDiff, reduceCtorEq, Nat.reduceAdd, Nat.reduceLeDiff, Nat.reduceMul, Nat.reduceLT, if_true, if_false, true_and, and_true, and_self, Nat.reduceBEq, QOp.loads, boxO, bslO, buildO, cutL, fillV, putL, w6, v6, decide_eq_false hbig]
  refine stepC.of (DrawDirty_ok _ _ _ s (by omega)) ?_
  rintro _ H1 ⟨jv, cv, l, ch, rfl, e1, J, sc, hll, hcl⟩
  simp (maxSteps := 4000000) (disch := omega) only [ah, am, Nat.reduceEqDiff, reduceCtorEq, Nat.reduceAdd, Nat.reduceLeDiff, Nat.reduceMul, Nat.reduceLT, if_true, if_false, true_and, and_true, and_self, Nat.reduceBEq, QOp.loads, boxO, bslO, buildO, cutL, fillV, putL, w6, v6]
  refine stepC.of (Dirty_ok _ _ _ _ _ J sc (by omega) (by omega)) ?_
  intro dv H2 Fd
  simp (maxSteps := 4000000) (disch := omega) only [ah, am, Nat.reduceEqDiff, reduceCtorEq, Nat.reduceAdd, Nat.reduceLeDiff, Nat.reduceMul, Nat.reduceLT, if_true, if_false, true_and, and_true, and_self, Nat.reduceBEq, QOp.loads, boxO, bslO, buildO, cutL, fillV, putL, w6, v6]
  refine stepC.of (specDirty_ok _ _ _ _ _ (J.ext Fd.1) (sc.ext Fd.1) (by omega) (by omega)) ?_
  intro dv2 H3 Fd2
  have hdl := dirtyF_length l ch
  simp (maxSteps := 4000000) (disch := omega) only [ah, am, Nat.reduceEqDiff, reduceCtorEq, Nat.reduceAdd, Nat.reduceLeDiff, Nat.reduceMul, Nat.reduceLT, if_true, if_false, true_and, and_true, and_self, Nat.reduceBEq, QOp.loads, boxO, bslO, buildO, cutL, fillV, putL, w6, v6]
  refine stepC.of (sameInts_ok _ _ _ _ _ (Fd.slt.ext Fd2.1) Fd2.slt (by omega) (by omega)) ?_
  rintro _ Hx ⟨hx, rfl⟩; rw [hx]; clear hx Hx
  have E3 := Fd.1.trans Fd2.1
  have J := J.ext E3
  have sc := sc.ext E3
  have sd := Fd.slt.ext Fd2.1
  clear Fd Fd2 E3 e1
  simp (maxSteps := 4000000) (disch := omega) only [ah, am, Nat.reduceEqDiff, reduceCtorEq, Nat.reduceAdd, Nat.reduceLeDiff, Nat.reduceMul, Nat.reduceLT, if_true, if_false, true_and, and_true, and_self, Nat.reduceBEq, QOp.loads, boxO, bslO, buildO, cutL, fillV, putL, w6, v6, eq_self, decide_true]
  refine stepC.of (specJobOk_ok _ _ _ J (by omega)) ?_
  rintro _ H4 ⟨e4, rfl⟩
  have J := J.ext e4
  have sc := sc.ext e4
  have sd := sd.ext e4
  by_cases c1 : jobOk l
  rotate_left
  · have hd0 : dirtyF l ch = [] := if_neg fun q => c1 q.1
    rw [hd0] at sd
    have Rd := sd.rulesN
    simp (maxSteps := 4000000) (disch := omega) only [ah, am, Nat.reduceEqDiff, reduceCtorEq, Nat.reduceAdd, Nat.reduceLeDiff, Nat.reduceMul, Nat.reduceLT, if_true, if_false, true_and, and_true, and_self, Nat.reduceBEq, QOp.loads, boxO, bslO, buildO, cutL, fillV, putL, w6, v6, decide_eq_false c1, Bool.not_false, Rd]
    rfl
  simp (maxSteps := 4000000) (disch := omega) only [ah, am, Nat.reduceEqDiff, reduceCtorEq, Nat.reduceAdd, Nat.reduceLeDiff, Nat.reduceMul, Nat.reduceLT, if_true, if_false, true_and, and_true, and_self, Nat.reduceBEq, QOp.loads, boxO, bslO, buildO, cutL, fillV, putL, w6, v6, decide_eq_true c1, Bool.not_true]
  refine stepC.of (Reused_ok _ _ _ _ _ J J (by omega) (by omega)) ?_
  intro sv H5 F5
  have hself : reusedF l l = reusedL l l := if_pos ⟨c1, c1⟩
  have hz := reusedL_self l
  have hrl := reusedL_length l l
  rw [hself] at F5
  have J := J.ext F5.1
  have sc := sc.ext F5.1
  have sd := sd.ext F5.1
  have ss := F5.slt
  clear F5 hself
  have Rs := ss.rulesN
  simp only [hrl] at Rs
  simp (maxSteps := 4000000) (disch := omega) only [ah, am, Nat.reduceEqDiff, reduceCtorEq, Nat.reduceAdd, Nat.reduceLeDiff, Nat.reduceMul, Nat.reduceLT, if_true, if_false, true_and, and_true, and_self, Nat.reduceBEq, QOp.loads, boxO, bslO, buildO, cutL, fillV, putL, w6, v6]
  refine SW_loop_up (fun i E K => E = [(3, jv), (4, cv), (5, dv), (6, sv), (7, .int .i64 i)] ∧ K = H5) l.length 0 (by omega) ⟨rfl, rfl⟩ ?_
  rintro i E K hi ⟨rfl, rfl⟩
  have W : IntKind.i64.wrap ((i : Int) + 1) = ((i + 1 : Nat) : Int) := i64e (by omega) (by omega)
  simp (maxSteps := 4000000) (disch := omega) only [ah, am, Nat.reduceEqDiff, reduceCtorEq, Nat.reduceAdd, Nat.reduceLeDiff, Nat.reduceMul, Nat.reduceLT, if_true, if_false, true_and, and_true, and_self, Nat.reduceBEq, QOp.loads, boxO, bslO, buildO, cutL, fillV, putL, w6, v6, Rs]
  refine stepI.split (fun hp => ?_) (fun hp => ?_)
  · have hi2 : i < l.length := by omega
    have h0 := hz _ (List.getElem_mem (show i < (reusedL l l).length by omega))
    simp (maxSteps := 4000000) (disch := omega) only [ah, am, Nat.reduceEqDiff, reduceCtorEq, Nat.reduceAdd, Nat.reduceLeDiff, Nat.reduceMul, Nat.reduceLT, if_true, if_false, true_and, and_true, and_self, Nat.reduceBEq, QOp.loads, boxO, bslO, buildO, cutL, fillV, putL, w6, v6, Rs, encI, h0, show decide ((0 : Int) = 0) = true from rfl, Bool.not_true, W]
    exact hi2
  clear hi hp
  simp (maxSteps := 4000000) (disch := omega) only [ah, am, Nat.reduceEqDiff, reduceCtorEq, Nat.reduceAdd, Nat.reduceLeDiff, Nat.reduceMul, Nat.reduceLT, if_true, if_false, true_and, and_true, and_self, Nat.reduceBEq, QOp.loads, boxO, bslO, buildO, cutL, fillV, putL, w6, v6]
  refine stepC.of (Results_ok _ _ _ J (by omega)) ?_
  intro rv H6 F6
  have hres : resultsF l = resF l := if_pos c1
  rw [hres] at F6
  have J := J.ext F6.1
  have sc := sc.ext F6.1
  have sd := sd.ext F6.1
  have ss := ss.ext F6.1
  have sr := F6.slt
  clear F6
  have hrl2 := resF_length l
  have Rs := ss.rulesN
  simp only [hrl] at Rs
  have Rc := sc.rulesN
  have Rd := sd.rulesN
  have Rr := sr.rulesN
  simp only [hrl2] at Rr
  obtain ⟨rs, sj, hlen, Hr⟩ := id J
  have Rj := sj.rulesN
  simp only [hlen] at Rj
  by_cases d1 : (ch.length : Int) = 0
  · simp (maxSteps := 4000000) (disch := omega) only [ah, am, Nat.reduceEqDiff, reduceCtorEq, Nat.reduceAdd, Nat.reduceLeDiff, Nat.reduceMul, Nat.reduceLT, if_true, if_false, true_and, and_true, and_self, Nat.reduceBEq, QOp.loads, boxO, bslO, buildO, cutL, fillV, putL, w6, v6, Rc, decide_eq_true d1]
    simp (maxSteps := 4000000) (disch := omega) only [ah, am, Nat.reduceEqDiff, reduceCtorEq, Nat.reduceAdd, Nat.reduceLeDiff, Nat.reduceMul, Nat.reduceLT, if_true, if_false, true_and, and_true, and_self, Nat.reduceBEq, QOp.loads, boxO, bslO, buildO, cutL, fillV, putL, w6, v6, Rs.1, Rj.1, show decide ((l.length : Int) = l.length) = true from decide_eq_true rfl]
    refine stepC.of (specResults_ok _ _ _ J (by omega)) ?_
    intro rv2 H7 F7
    rw [hres] at F7
    simp (maxSteps := 4000000) (disch := omega) only [ah, am, Nat.reduceEqDiff, reduceCtorEq, Nat.reduceAdd, Nat.reduceLeDiff, Nat.reduceMul, Nat.reduceLT, if_true, if_false, true_and, and_true, and_self, Nat.reduceBEq, QOp.loads, boxO, bslO, buildO, cutL, fillV, putL, w6, v6]
    refine stepC.of (sameInts_ok _ _ _ _ _ (sr.ext F7.1) F7.slt (by omega) (by omega)) ?_
    rintro _ Hx ⟨hx, rfl⟩; rw [hx]; clear hx Hx
    simp (maxSteps := 4000000) (disch := omega) only [ah, am, Nat.reduceEqDiff, reduceCtorEq, Nat.reduceAdd, Nat.reduceLeDiff, Nat.reduceMul, Nat.reduceLT, if_true, if_false, true_and, and_true, and_self, Nat.reduceBEq, QOp.loads, boxO, bslO, buildO, cutL, fillV, putL, w6, v6, eq_self, decide_true]
  by_cases d2 : ((dirtyF l ch).length : Int) = 0
  · simp (maxSteps := 4000000) (disch := omega) only [ah, am, Nat.reduceEqDiff, reduceCtorEq, Nat.reduceAdd, Nat.reduceLeDiff, Nat.reduceMul, Nat.reduceLT, if_true, if_false, true_and, and_true, and_self, Nat.reduceBEq, QOp.loads, boxO, bslO, buildO, cutL, fillV, putL, w6, v6, Rc, Rd, decide_eq_false d1, decide_eq_true d2]
    simp (maxSteps := 4000000) (disch := omega) only [ah, am, Nat.reduceEqDiff, reduceCtorEq, Nat.reduceAdd, Nat.reduceLeDiff, Nat.reduceMul, Nat.reduceLT, if_true, if_false, true_and, and_true, and_self, Nat.reduceBEq, QOp.loads, boxO, bslO, buildO, cutL, fillV, putL, w6, v6, Rs.1, Rj.1, show decide ((l.length : Int) = l.length) = true from decide_eq_true rfl]
    refine stepC.of (specResults_ok _ _ _ J (by omega)) ?_
    intro rv2 H7 F7
    rw [hres] at F7
    simp (maxSteps := 4000000) (disch := omega) only [ah, am, Nat.reduceEqDiff, reduceCtorEq, Nat.reduceAdd, Nat.reduceLeDiff, Nat.reduceMul, Nat.reduceLT, if_true, if_false, true_and, and_true, and_self, Nat.reduceBEq, QOp.loads, boxO, bslO, buildO, cutL, fillV, putL, w6, v6]
    refine stepC.of (sameInts_ok _ _ _ _ _ (sr.ext F7.1) F7.slt (by omega) (by omega)) ?_
    rintro _ Hx ⟨hx, rfl⟩; rw [hx]; clear hx Hx
    simp (maxSteps := 4000000) (disch := omega) only [ah, am, Nat.reduceEqDiff, reduceCtorEq, Nat.reduceAdd, Nat.reduceLeDiff, Nat.reduceMul, Nat.reduceLT, if_true, if_false, true_and, and_true, and_self, Nat.reduceBEq, QOp.loads, boxO, bslO, buildO, cutL, fillV, putL, w6, v6, eq_self, decide_true]
  have hok : dirtyOk l ch := by
    by_cases q : dirtyOk l ch
    · exact q
    · exfalso; apply d2; rw [dirtyF, if_neg q]; rfl
  have hc0 : 0 < ch.length := by omega
  obtain ⟨b1, b2⟩ := hok.2.2 _ (List.getElem_mem hc0)
  obtain ⟨c, hc⟩ : ∃ c : Nat, ch[0] = (c : Int) := ⟨ch[0].toNat, by omega⟩
  have hcl2 : c < l.length := by omega
  obtain ⟨k1, k2, k3, sn⟩ := Hr c (by omega) hcl2
  have Rc0 := Rc.2.1 .i64 0 hc0
  have Lc0 := Rc.2.2.2.2.1 0 hc0
  simp only [hc, encI, List.getElem?_cons_zero, Nat.zero_mul] at Rc0 Lc0
  have Rc0' : iaV 1 cv (.int .i64 0) = some (ptrAt cv 0) := Rc0
  by_cases d3 : l[c].value = 10000000
  · simp (maxSteps := 4000000) (disch := omega) only [ah, am, Nat.reduceEqDiff, reduceCtorEq, Nat.reduceAdd, Nat.reduceLeDiff, Nat.reduceMul, Nat.reduceLT, if_true, if_false, true_and, and_true, and_self, Nat.reduceBEq, QOp.loads, boxO, bslO, buildO, cutL, fillV, putL, w6, v6, Rc.1, Rc0', Lc0, Rd, Rj, encT, k2, decide_eq_false d1, decide_eq_false d2, decide_eq_true d3]
    simp (maxSteps := 4000000) (disch := omega) only [ah, am, Nat.reduceEqDiff, reduceCtorEq, Nat.reduceAdd, Nat.reduceLeDiff, Nat.reduceMul, Nat.reduceLT, if_true, if_false, true_and, and_true, and_self, Nat.reduceBEq, QOp.loads, boxO, bslO, buildO, cutL, fillV, putL, w6, v6, Rs.1, Rj.1, show decide ((l.length : Int) = l.length) = true from decide_eq_true rfl]
    refine stepC.of (specResults_ok _ _ _ J (by omega)) ?_
    intro rv2 H7 F7
    rw [hres] at F7
    simp (maxSteps := 4000000) (disch := omega) only [ah, am, Nat.reduceEqDiff, reduceCtorEq, Nat.reduceAdd, Nat.reduceLeDiff, Nat.reduceMul, Nat.reduceLT, if_true, if_false, true_and, and_true, and_self, Nat.reduceBEq, QOp.loads, boxO, bslO, buildO, cutL, fillV, putL, w6, v6]
    refine stepC.of (sameInts_ok _ _ _ _ _ (sr.ext F7.1) F7.slt (by omega) (by omega)) ?_
    rintro _ Hx ⟨hx, rfl⟩; rw [hx]; clear hx Hx
    simp (maxSteps := 4000000) (disch := omega) only [ah, am, Nat.reduceEqDiff, reduceCtorEq, Nat.reduceAdd, Nat.reduceLeDiff, Nat.reduceMul, Nat.reduceLT, if_true, if_false, true_and, and_true, and_self, Nat.reduceBEq, QOp.loads, boxO, bslO, buildO, cutL, fillV, putL, w6, v6, eq_self, decide_true]
  simp (maxSteps := 4000000) (disch := omega) only [ah, am, Nat.reduceEqDiff, reduceCtorEq, Nat.reduceAdd, Nat.reduceLeDiff, Nat.reduceMul, Nat.reduceLT, if_true, if_false, true_and, and_true, and_self, Nat.reduceBEq, QOp.loads, boxO, bslO, buildO, cutL, fillV, putL, w6, v6, Rc.1, Rc0', Lc0, Rd, Rj, encT, k2, decide_eq_false d1, decide_eq_false d2, decide_eq_false d3]
  obtain ⟨kv, K, ea, Fk0⟩ := (Fresh.new0 H6 encT_len (by omega)).app (y := jv) (l' := rs) (sj.ext (Ext.more _ _)) (bytes := 48) (by simp; omega)
  rw [List.nil_append] at Fk0
  have hcr : c < rs.length := by omega
  obtain ⟨K2, es, Fk1, _⟩ := Fk0.setF (j := c) (f := 1) (n := 1) hcr (x := ⟨rs[c].kind, rs[c].value + 1, rs[c].nv, rs[c].cost⟩) (y := .int .i64 (rs[c].value + 1)) (by simp [encT, splice, cells_int]) (by omega) rfl (by omega) rfl
  have Rk := Fk0.slt.rulesN
  simp only [hlen] at Rk
  have scK := sc.ext Fk0.1
  have RcK := scK.rulesN
  have Rc0K : iaV 1 cv (.int .i64 0) = some (ptrAt cv 0) := Rc0
  have Lc0K := RcK.2.2.2.2.1 0 hc0
  simp only [hc, encI, List.getElem?_cons_zero, Nat.zero_mul] at Lc0K
  have hval := (c1.2 c hcl2).2.1
  have Wv : IntKind.i64.wrap (l[c].value + 1) = l[c].value + 1 := i64w (by omega)
  rw [k2] at es Fk1
  simp (maxSteps := 4000000) (disch := omega) only [ah, am, Nat.reduceEqDiff, reduceCtorEq, Nat.reduceAdd, Nat.reduceLeDiff, Nat.reduceMul, Nat.reduceLT, if_true, if_false, true_and, and_true, and_self, Nat.reduceBEq, QOp.loads, boxO, bslO, buildO, cutL, fillV, putL, w6, v6, ea, Rc0', Lc0K, Rk, encT, k2, Wv, es]
  have hkl : (l.set c (oneMore l[c])).length = l.length := by simp
  have JK : JobAt K2 kv (l.set c (oneMore l[c])) := by
    refine ⟨_, Fk1.slt, by simp [hlen], fun i h1 h2 => ?_⟩
    simp only [List.length_set] at h1 h2
    rw [List.getElem_set, List.getElem_set]
    by_cases q : c = i
    · subst q
      simp only [if_true]
      exact ⟨k1, rfl, k3, sn.ext Fk1.1⟩
    · simp only [if_neg q]
      exact (Hr i h1 h2).ext Fk1.1
  have cK : jobOk (l.set c (oneMore l[c])) := jobOk_more c1 hcl2 d3
  have J := J.ext Fk1.1
  have sc := sc.ext Fk1.1
  have sr := sr.ext Fk1.1
  refine stepC.of (Results_ok _ _ _ JK (by omega)) ?_
  intro s2 K3 F3
  rw [show resultsF (l.set c (oneMore l[c])) = resF (l.set c (oneMore l[c])) from if_pos cK] at F3
  have J := J.ext F3.1
  have JK := JK.ext F3.1
  have sc := sc.ext F3.1
  have sr := sr.ext F3.1
  have st := F3.slt
  simp (maxSteps := 4000000) (disch := omega) only [ah, am, Nat.reduceEqDiff, reduceCtorEq, Nat.reduceAdd, Nat.reduceLeDiff, Nat.reduceMul, Nat.reduceLT, if_true, if_false, true_and, and_true, and_self, Nat.reduceBEq, QOp.loads, boxO, bslO, buildO, cutL, fillV, putL, w6, v6]
  refine stepC.of (Reused_ok _ _ _ _ _ J JK (by omega) (by omega)) ?_
  intro uv K4 F4
  rw [show reusedF l (l.set c (oneMore l[c])) = reusedL l (l.set c (oneMore l[c])) from if_pos ⟨c1, cK⟩] at F4
  have J := J.ext F4.1
  have sc := sc.ext F4.1
  have sr := sr.ext F4.1
  have st := st.ext F4.1
  have su := F4.slt
  obtain ⟨c1v, hcv, sc1⟩ := SlT_upto sc 1 (by omega) hc0
  have htk : ch.take 1 = [(c : Int)] := by rw [← hc, List.take_succ_eq_append_getElem hc0]; rfl
  rw [htk] at sc1
  have hcv' : slcV 1 cv none (some (.int .i64 1)) = some c1v := hcv
  simp (maxSteps := 4000000) (disch := omega) only [ah, am, Nat.reduceEqDiff, reduceCtorEq, Nat.reduceAdd, Nat.reduceLeDiff, Nat.reduceMul, Nat.reduceLT, if_true, if_false, true_and, and_true, and_self, Nat.reduceBEq, QOp.loads, boxO, bslO, buildO, cutL, fillV, putL, w6, v6, hcv']
  refine stepC.of (Dirty_ok _ _ _ _ _ J sc1 (by omega) (by simp)) ?_
  intro ov K5 F5
  have ok1 : dirtyOk l [(c : Int)] := ⟨c1, by simp, fun n hn => by simp at hn; omega⟩
  rw [show dirtyF l [(c : Int)] = trues (dirtyB [(c : Int)] l) from if_pos ok1] at F5
  have hol := trues_length (dirtyB [(c : Int)] l)
  rw [dirtyB_length] at hol
  have hL := c1.1
  have sc := sc.ext F5.1
  have sr := sr.ext F5.1
  have st := st.ext F5.1
  have su := su.ext F5.1
  have so := F5.slt
  clear F5 J JK
  have Rr := sr.rulesN
  have Rt := st.rulesN
  have Ru := su.rulesN
  have Ro := so.rulesN
  simp only [hrl2] at Rr
  simp only [resF_length, hkl] at Rt
  simp only [reusedL_length, hkl] at Ru
  simp (maxSteps := 4000000) (disch := omega) only [ah, am, Nat.reduceEqDiff, reduceCtorEq, Nat.reduceAdd, Nat.reduceLeDiff, Nat.reduceMul, Nat.reduceLT, if_true, if_false, true_and, and_true, and_self, Nat.reduceBEq, QOp.loads, boxO, bslO, buildO, cutL, fillV, putL, w6, v6]
  refine SW_loop_up (fun i E K => E = [(4, cv), (8, rv), (10, s2), (11, uv), (12, ov), (13, .int .i64 i)] ∧ K = K5) l.length 0 (by omega) ⟨rfl, rfl⟩ ?_
  rintro i E K hi ⟨rfl, rfl⟩
  have W : IntKind.i64.wrap ((i : Int) + 1) = ((i + 1 : Nat) : Int) := i64e (by omega) (by omega)
  simp (maxSteps := 4000000) (disch := omega) only [ah, am, Nat.reduceEqDiff, reduceCtorEq, Nat.reduceAdd, Nat.reduceLeDiff, Nat.reduceMul, Nat.reduceLT, if_true, if_false, true_and, and_true, and_self, Nat.reduceBEq, QOp.loads, boxO, bslO, buildO, cutL, fillV, putL, w6, v6, Rr]
  refine stepI.split (fun hp => ?_) (fun hp => ?_)
  · have hi2 : i < l.length := by omega
    simp (maxSteps := 4000000) (disch := omega) only [ah, am, Nat.reduceEqDiff, reduceCtorEq, Nat.reduceAdd, Nat.reduceLeDiff, Nat.reduceMul, Nat.reduceLT, if_true, if_false, true_and, and_true, and_self, Nat.reduceBEq, QOp.loads, boxO, bslO, buildO, cutL, fillV, putL, w6, v6]
    refine SW_loop_up (fun n E K' => E = [(4, cv), (8, rv), (10, s2), (11, uv), (12, ov), (13, .int .i64 i), (14, .bool (decide ((i : Int) ∈ (trues (dirtyB [(c : Int)] l)).take n))), (15, .int .i64 n)] ∧ K' = K) (trues (dirtyB [(c : Int)] l)).length 0 (by omega)
      ⟨by simp, rfl⟩ ?_
    rintro n E K' hn ⟨rfl, rfl⟩
    have Wn : IntKind.i64.wrap ((n : Int) + 1) = ((n + 1 : Nat) : Int) := i64e (by omega) (by omega)
    simp (maxSteps := 4000000) (disch := omega) only [ah, am, Nat.reduceEqDiff, reduceCtorEq, Nat.reduceAdd, Nat.reduceLeDiff, Nat.reduceMul, Nat.reduceLT, if_true, if_false, true_and, and_true, and_self, Nat.reduceBEq, QOp.loads, boxO, bslO, buildO, cutL, fillV, putL, w6, v6, Ro]
    refine stepI.split (fun hp => ?_) (fun hp => ?_)
    · have hn2 : n < (trues (dirtyB [(c : Int)] l)).length := by omega
      have hst : decide ((i : Int) ∈ (trues (dirtyB [(c : Int)] l)).take (n + 1)) = (decide ((i : Int) ∈ (trues (dirtyB [(c : Int)] l)).take n) || decide ((trues (dirtyB [(c : Int)] l))[n] = (i : Int))) := by
        rw [List.take_succ_eq_append_getElem hn2, Bool.eq_iff_iff]
        simp only [decide_eq_true_eq, List.mem_append, List.mem_singleton, Bool.or_eq_true]
        exact or_congr Iff.rfl eq_comm
      rw [hst]
      generalize decide ((i : Int) ∈ (trues (dirtyB [(c : Int)] l)).take n) = inn
      cases inn with
      | true => simp (maxSteps := 4000000) (disch := omega) only [ah, am, Nat.reduceEqDiff, reduceCtorEq, Nat.reduceAdd, Nat.reduceLeDiff, Nat.reduceMul, Nat.reduceLT, if_true, if_false, true_and, and_true, and_self, Nat.reduceBEq, QOp.loads, boxO, bslO, buildO, cutL, fillV, putL, w6, v6, Wn]; exact hn2
      | false =>
        simp (maxSteps := 4000000) (disch := omega) only [ah, am, Nat.reduceEqDiff, reduceCtorEq, Nat.reduceAdd, Nat.reduceLeDiff, Nat.reduceMul, Nat.reduceLT, if_true, if_false, true_and, and_true, and_self, Nat.reduceBEq, QOp.loads, boxO, bslO, buildO, cutL, fillV, putL, w6, v6, Ro, encI, Wn, Bool.false_or]
        exact hn2
    · obtain rfl : n = (trues (dirtyB [(c : Int)] l)).length := by omega
      rw [List.take_length, mem_trues _ _ (by omega), Int.toNat_natCast, getD_atR (show i < (dirtyB [(c : Int)] l).length by rw [dirtyB_length]; exact hi2)]
      cases hd : (dirtyB [(c : Int)] l)[i]'(by rw [dirtyB_length]; exact hi2) with
      | true => simp (maxSteps := 4000000) (disch := omega) only [ah, am, Nat.reduceEqDiff, reduceCtorEq, Nat.reduceAdd, Nat.reduceLeDiff, Nat.reduceMul, Nat.reduceLT, if_true, if_false, true_and, and_true, and_self, Nat.reduceBEq, QOp.loads, boxO, bslO, buildO, cutL, fillV, putL, w6, v6, Bool.not_true, W]; exact hi2
      | false =>
        have hsame := clean_same c1.in hcl2 i hi2 hd
        rw [getD_atR (show i < (resF (l.set c (oneMore l[c]))).length by rw [resF_length]; simpa using hi2), getD_atR (show i < (resF l).length by rw [resF_length]; exact hi2)] at hsame
        have hu0 : (reusedL l (l.set c (oneMore l[c])))[i]'(by rw [reusedL_length]; simpa using hi2) = 0 := by
          simp only [reusedL, List.getElem_zipWith, costV]
          rw [hsame, if_pos (List.getElem_mem _)]
        simp (maxSteps := 4000000) (disch := omega) only [ah, am, Nat.reduceEqDiff, reduceCtorEq, Nat.reduceAdd, Nat.reduceLeDiff, Nat.reduceMul, Nat.reduceLT, if_true, if_false, true_and, and_true, and_self, Nat.reduceBEq, QOp.loads, boxO, bslO, buildO, cutL, fillV, putL, w6, v6, Bool.not_false, Rr, Rt, Ru, encI, hsame, hu0, decide_true, Bool.not_true, show decide ((0 : Int) = 0) = true from rfl, W]
        exact hi2
  · have hch := changed_other c1.in hcl2
    rw [getD_atR (show c < (resF (l.set c (oneMore l[c]))).length by rw [resF_length]; simpa using hcl2), getD_atR (show c < (resF l).length by rw [resF_length]; exact hcl2)] at hch
    have Lc5 := sc.rulesN.2.2.2.2.1 0 hc0
    simp only [hc, encI, List.getElem?_cons_zero, Nat.zero_mul] at Lc5
    simp (maxSteps := 4000000) (disch := omega) only [ah, am, Nat.reduceEqDiff, reduceCtorEq, Nat.reduceAdd, Nat.reduceLeDiff, Nat.reduceMul, Nat.reduceLT, if_true, if_false, true_and, and_true, and_self, Nat.reduceBEq, QOp.loads, boxO, bslO, buildO, cutL, fillV, putL, w6, v6, Rr, Rt, encI, Rc0', Lc5, show decide ((l.length : Int) = l.length) = true from decide_eq_true rfl, decide_eq_false hch, Bool.not_false]
end Go.Proofs.Ytbnkpligdcponaa
