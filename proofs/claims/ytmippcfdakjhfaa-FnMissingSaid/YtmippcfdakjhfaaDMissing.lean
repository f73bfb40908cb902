import Derived.Test.YtmippcfdakjhfaaG14
import Derived.Test.YtmippcfdakjhfaaG15
namespace Go.Proofs.Ytmippcfdakjhfaa
open Go Go.Ah
set_option linter.unusedSimpArgs false
set_option linter.unusedVariables false
set_option maxRecDepth 10000
set_option maxHeartbeats 4000000
/-! 5 loop.example/g00066/laws.FnMissing: parameters 1, live [0], slots [0:code, 1:code, 3:a, 4:b, 5:m, 6:src, 7:f, 8:x, 9:i, 10:y, 11:i, 12:z, 13:i] -/
def c5_0 : List SOper := [⟨some 2, .q (.mv (.c (.bool false))), none⟩]
def c5_1 : List SOper := [⟨some 14, .q (.mv (.t 0)), none⟩, ⟨some 15, .e (.call 17 [(.t 14)]), none⟩]
def c5_2 : List SOper := [⟨some 2, .q (.mv (.c (.bool true))), none⟩]
def c5_3 : SCode := .seq (.region c5_2 [2]) .ret
def c5_4 : SCode := .cond (.t 15) c5_3 .skip
def c5_5 : SCode := .seq (.region c5_1 [0, 15]) c5_4
def c5_6 : List SOper := [⟨some 17, .q (.mv (.t 0)), none⟩, ⟨some 18, .e (.call 18 [(.t 17)]), none⟩, ⟨some 16, .q (.mv (.t 18)), none⟩, ⟨some 19, .q (.ext (.t 16) 0), none⟩, ⟨some 20, .q (.ext (.t 16) 1), none⟩, ⟨some 3, .q (.mv (.t 19)), none⟩, ⟨some 4, .q (.mv (.t 20)), none⟩]
def c5_7 : List SOper := [⟨some 21, .q (.mv (.t 3)), none⟩, ⟨some 22, .q (.mv (.t 4)), none⟩, ⟨some 23, .e (.call 14 [(.t 21), (.t 22)]), none⟩, ⟨some 5, .q (.mv (.t 23)), none⟩]
def c5_8 : List SOper := [⟨some 24, .q (.mv (.t 5)), none⟩, ⟨some 25, .q (.mv (.t 3)), none⟩, ⟨some 26, .q (.mv (.t 4)), none⟩, ⟨some 27, .e (.call 13 [(.t 25), (.t 26)]), none⟩, ⟨some 28, .e (.call 19 [(.t 24), (.t 27)]), none⟩, ⟨some 29, .q (.not (.t 28)), none⟩, ⟨some 30, .q (.mv (.t 29)), none⟩, ⟨some 31, .q (.mv (.t 3)), some (30, false)⟩, ⟨some 32, .q (.mv (.t 4)), some (30, false)⟩, ⟨some 33, .e (.call 11 [(.t 31), (.t 32)]), some (30, false)⟩, ⟨some 34, .q (.mv (.t 3)), some (30, false)⟩, ⟨some 35, .q (.mv (.t 4)), some (30, false)⟩, ⟨some 36, .e (.call 9 [(.t 34), (.t 35)]), some (30, false)⟩, ⟨some 37, .q (.eqb true (.t 33) (.t 36)), some (30, false)⟩, ⟨some 38, .q (.pick (.t 30) (.c (.bool true)) (.t 37)), none⟩]
def c5_9 : List SOper := [⟨some 2, .q (.mv (.c (.bool false))), none⟩]
def c5_10 : SCode := .seq (.region c5_9 [2]) .ret
def c5_11 : SCode := .cond (.t 38) c5_10 .skip
def c5_12 : SCode := .seq (.region c5_8 [3, 4, 5, 38]) c5_11
def c5_13 : List SOper := [⟨some 39, .q (.mv (.t 3)), none⟩, ⟨some 40, .q (.len (.t 39)), none⟩, ⟨some 41, .q (.mv (.t 4)), none⟩, ⟨some 42, .q (.len (.t 41)), none⟩, ⟨some 43, .q (.bin .add (.t 40) (.t 42)), none⟩, ⟨some 44, .q (.bin .gtr (.t 43) (.c (.int .i64 100))), none⟩]
def c5_14 : List SOper := [⟨some 2, .q (.mv (.c (.bool true))), none⟩]
def c5_15 : SCode := .seq (.region c5_14 [2]) .ret
def c5_16 : SCode := .cond (.t 44) c5_15 .skip
def c5_17 : SCode := .seq (.region c5_13 [3, 4, 5, 44]) c5_16
def c5_18 : List SOper := [⟨some 6, .q (.mv (.c (.int .i64 1))), none⟩]
def c5_19 : List SOper := [⟨some 45, .q (.mv (.t 6)), none⟩, ⟨some 46, .q (.bin .leq (.t 45) (.c (.int .i64 3))), none⟩]
def c5_20 : SCode := .cond (.t 46) .skip (.exit 0)
def c5_21 : SCode := .seq (.region c5_19 [3, 4, 5, 6, 46]) c5_20
def c5_22 : List SOper := [⟨some 7, .q (.mv (.c (.int .i64 0))), none⟩]
def c5_23 : List SOper := [⟨some 49, .q (.mv (.t 7)), none⟩, ⟨some 50, .q (.bin .lss (.t 49) (.c (.int .i64 80))), none⟩]
def c5_24 : SCode := .cond (.t 50) .skip (.exit 2)
def c5_25 : SCode := .seq (.region c5_23 [3, 4, 5, 6, 7, 50]) c5_24
def c5_26 : List SOper := [⟨some 8, .q (.mv (.c (.bool false))), none⟩]
def c5_27 : List SOper := [⟨some 9, .q (.mv (.c (.int .i64 0))), none⟩]
def c5_28 : List SOper := [⟨some 53, .q (.mv (.t 9)), none⟩, ⟨some 54, .q (.mv (.t 3)), none⟩, ⟨some 55, .q (.len (.t 54)), none⟩, ⟨some 56, .q (.bin .lss (.t 53) (.t 55)), none⟩]
def c5_29 : SCode := .cond (.t 56) .skip (.exit 4)
def c5_30 : SCode := .seq (.region c5_28 [3, 4, 5, 6, 7, 8, 9, 56]) c5_29
def c5_31 : List SOper := [⟨some 59, .q (.mv (.t 8)), none⟩, ⟨some 60, .q (.mv (.t 59)), none⟩, ⟨some 61, .q (.mv (.t 3)), some (60, false)⟩, ⟨some 62, .q (.mv (.t 9)), some (60, false)⟩, ⟨some 63, .q (.ia 3 (.t 61) (.t 62)), some (60, false)⟩, ⟨some 64, .q (.fa 0 (.t 63)), some (60, false)⟩, ⟨some 65, .q (.ld (.t 64)), some (60, false)⟩, ⟨some 66, .q (.mv (.t 6)), some (60, false)⟩, ⟨some 67, .q (.bin .eql (.t 65) (.t 66)), some (60, false)⟩, ⟨some 68, .q (.mv (.t 67)), some (60, false)⟩, ⟨some 69, .q (.mv (.t 3)), some (68, true)⟩, ⟨some 70, .q (.mv (.t 9)), some (68, true)⟩, ⟨some 71, .q (.ia 3 (.t 69) (.t 70)), some (68, true)⟩, ⟨some 72, .q (.fa 1 (.t 71)), some (68, true)⟩, ⟨some 73, .q (.ld (.t 72)), some (68, true)⟩, ⟨some 74, .q (.mv (.t 7)), some (68, true)⟩, ⟨some 75, .q (.bin .leq (.t 73) (.t 74)), some (68, true)⟩, ⟨some 76, .q (.pick (.t 68) (.t 75) (.c (.bool false))), some (60, false)⟩, ⟨some 77, .q (.mv (.t 76)), some (60, false)⟩, ⟨some 78, .q (.mv (.t 7)), some (77, true)⟩, ⟨some 79, .q (.mv (.t 3)), some (77, true)⟩, ⟨some 80, .q (.mv (.t 9)), some (77, true)⟩, ⟨some 81, .q (.ia 3 (.t 79) (.t 80)), some (77, true)⟩, ⟨some 82, .q (.fa 2 (.t 81)), some (77, true)⟩, ⟨some 83, .q (.ld (.t 82)), some (77, true)⟩, ⟨some 84, .q (.bin .lss (.t 78) (.t 83)), some (77, true)⟩, ⟨some 85, .q (.pick (.t 77) (.t 84) (.c (.bool false))), some (60, false)⟩, ⟨some 86, .q (.pick (.t 60) (.c (.bool true)) (.t 85)), none⟩, ⟨some 8, .q (.mv (.t 86)), none⟩]
def c5_32 : SCode := .block 5 (.region c5_31 [3, 4, 5, 6, 7, 8, 9])
def c5_33 : List SOper := [⟨some 57, .q (.mv (.t 9)), none⟩, ⟨some 58, .q (.bin .add (.t 57) (.c (.int .i64 1))), none⟩, ⟨some 9, .q (.mv (.t 58)), none⟩]
def c5_34 : SCode := .seq c5_32 (.region c5_33 [3, 4, 5, 6, 7, 8, 9])
def c5_35 : SCode := .seq c5_30 c5_34
def c5_36 : SCode := .loop c5_35
def c5_37 : SCode := .block 4 c5_36
def c5_38 : SCode := .seq (.region c5_27 [3, 4, 5, 6, 7, 8, 9]) c5_37
def c5_39 : List SOper := [⟨some 10, .q (.mv (.c (.bool false))), none⟩]
def c5_40 : List SOper := [⟨some 11, .q (.mv (.c (.int .i64 0))), none⟩]
def c5_41 : List SOper := [⟨some 87, .q (.mv (.t 11)), none⟩, ⟨some 88, .q (.mv (.t 4)), none⟩, ⟨some 89, .q (.len (.t 88)), none⟩, ⟨some 90, .q (.bin .lss (.t 87) (.t 89)), none⟩]
def c5_42 : SCode := .cond (.t 90) .skip (.exit 6)
def c5_43 : SCode := .seq (.region c5_41 [3, 4, 5, 6, 7, 8, 10, 11, 90]) c5_42
def c5_44 : List SOper := [⟨some 93, .q (.mv (.t 10)), none⟩, ⟨some 94, .q (.mv (.t 93)), none⟩, ⟨some 95, .q (.mv (.t 4)), some (94, false)⟩, ⟨some 96, .q (.mv (.t 11)), some (94, false)⟩, ⟨some 97, .q (.ia 3 (.t 95) (.t 96)), some (94, false)⟩, ⟨some 98, .q (.fa 0 (.t 97)), some (94, false)⟩, ⟨some 99, .q (.ld (.t 98)), some (94, false)⟩, ⟨some 100, .q (.mv (.t 6)), some (94, false)⟩, ⟨some 101, .q (.bin .eql (.t 99) (.t 100)), some (94, false)⟩, ⟨some 102, .q (.mv (.t 101)), some (94, false)⟩, ⟨some 103, .q (.mv (.t 4)), some (102, true)⟩, ⟨some 104, .q (.mv (.t 11)), some (102, true)⟩, ⟨some 105, .q (.ia 3 (.t 103) (.t 104)), some (102, true)⟩, ⟨some 106, .q (.fa 1 (.t 105)), some (102, true)⟩, ⟨some 107, .q (.ld (.t 106)), some (102, true)⟩, ⟨some 108, .q (.mv (.t 7)), some (102, true)⟩, ⟨some 109, .q (.bin .leq (.t 107) (.t 108)), some (102, true)⟩, ⟨some 110, .q (.pick (.t 102) (.t 109) (.c (.bool false))), some (94, false)⟩, ⟨some 111, .q (.mv (.t 110)), some (94, false)⟩, ⟨some 112, .q (.mv (.t 7)), some (111, true)⟩, ⟨some 113, .q (.mv (.t 4)), some (111, true)⟩, ⟨some 114, .q (.mv (.t 11)), some (111, true)⟩, ⟨some 115, .q (.ia 3 (.t 113) (.t 114)), some (111, true)⟩, ⟨some 116, .q (.fa 2 (.t 115)), some (111, true)⟩, ⟨some 117, .q (.ld (.t 116)), some (111, true)⟩, ⟨some 118, .q (.bin .lss (.t 112) (.t 117)), some (111, true)⟩, ⟨some 119, .q (.pick (.t 111) (.t 118) (.c (.bool false))), some (94, false)⟩, ⟨some 120, .q (.pick (.t 94) (.c (.bool true)) (.t 119)), none⟩, ⟨some 10, .q (.mv (.t 120)), none⟩]
def c5_45 : SCode := .block 7 (.region c5_44 [3, 4, 5, 6, 7, 8, 10, 11])
def c5_46 : List SOper := [⟨some 91, .q (.mv (.t 11)), none⟩, ⟨some 92, .q (.bin .add (.t 91) (.c (.int .i64 1))), none⟩, ⟨some 11, .q (.mv (.t 92)), none⟩]
def c5_47 : SCode := .seq c5_45 (.region c5_46 [3, 4, 5, 6, 7, 8, 10, 11])
def c5_48 : SCode := .seq c5_43 c5_47
def c5_49 : SCode := .loop c5_48
def c5_50 : SCode := .block 6 c5_49
def c5_51 : SCode := .seq (.region c5_40 [3, 4, 5, 6, 7, 8, 10, 11]) c5_50
def c5_52 : List SOper := [⟨some 12, .q (.mv (.c (.bool false))), none⟩]
def c5_53 : List SOper := [⟨some 13, .q (.mv (.c (.int .i64 0))), none⟩]
def c5_54 : List SOper := [⟨some 121, .q (.mv (.t 13)), none⟩, ⟨some 122, .q (.mv (.t 5)), none⟩, ⟨some 123, .q (.len (.t 122)), none⟩, ⟨some 124, .q (.bin .lss (.t 121) (.t 123)), none⟩]
def c5_55 : SCode := .cond (.t 124) .skip (.exit 8)
def c5_56 : SCode := .seq (.region c5_54 [3, 4, 5, 6, 7, 8, 10, 12, 13, 124]) c5_55
def c5_57 : List SOper := [⟨some 127, .q (.mv (.t 12)), none⟩, ⟨some 128, .q (.mv (.t 127)), none⟩, ⟨some 129, .q (.mv (.t 5)), some (128, false)⟩, ⟨some 130, .q (.mv (.t 13)), some (128, false)⟩, ⟨some 131, .q (.ia 3 (.t 129) (.t 130)), some (128, false)⟩, ⟨some 132, .q (.fa 0 (.t 131)), some (128, false)⟩, ⟨some 133, .q (.ld (.t 132)), some (128, false)⟩, ⟨some 134, .q (.mv (.t 6)), some (128, false)⟩, ⟨some 135, .q (.bin .eql (.t 133) (.t 134)), some (128, false)⟩, ⟨some 136, .q (.mv (.t 135)), some (128, false)⟩, ⟨some 137, .q (.mv (.t 5)), some (136, true)⟩, ⟨some 138, .q (.mv (.t 13)), some (136, true)⟩, ⟨some 139, .q (.ia 3 (.t 137) (.t 138)), some (136, true)⟩, ⟨some 140, .q (.fa 1 (.t 139)), some (136, true)⟩, ⟨some 141, .q (.ld (.t 140)), some (136, true)⟩, ⟨some 142, .q (.mv (.t 7)), some (136, true)⟩, ⟨some 143, .q (.bin .leq (.t 141) (.t 142)), some (136, true)⟩, ⟨some 144, .q (.pick (.t 136) (.t 143) (.c (.bool false))), some (128, false)⟩, ⟨some 145, .q (.mv (.t 144)), some (128, false)⟩, ⟨some 146, .q (.mv (.t 7)), some (145, true)⟩, ⟨some 147, .q (.mv (.t 5)), some (145, true)⟩, ⟨some 148, .q (.mv (.t 13)), some (145, true)⟩, ⟨some 149, .q (.ia 3 (.t 147) (.t 148)), some (145, true)⟩, ⟨some 150, .q (.fa 2 (.t 149)), some (145, true)⟩, ⟨some 151, .q (.ld (.t 150)), some (145, true)⟩, ⟨some 152, .q (.bin .lss (.t 146) (.t 151)), some (145, true)⟩, ⟨some 153, .q (.pick (.t 145) (.t 152) (.c (.bool false))), some (128, false)⟩, ⟨some 154, .q (.pick (.t 128) (.c (.bool true)) (.t 153)), none⟩, ⟨some 12, .q (.mv (.t 154)), none⟩]
def c5_58 : SCode := .block 9 (.region c5_57 [3, 4, 5, 6, 7, 8, 10, 12, 13])
def c5_59 : List SOper := [⟨some 125, .q (.mv (.t 13)), none⟩, ⟨some 126, .q (.bin .add (.t 125) (.c (.int .i64 1))), none⟩, ⟨some 13, .q (.mv (.t 126)), none⟩]
def c5_60 : SCode := .seq c5_58 (.region c5_59 [3, 4, 5, 6, 7, 8, 10, 12, 13])
def c5_61 : SCode := .seq c5_56 c5_60
def c5_62 : SCode := .loop c5_61
def c5_63 : SCode := .block 8 c5_62
def c5_64 : SCode := .seq (.region c5_53 [3, 4, 5, 6, 7, 8, 10, 12, 13]) c5_63
def c5_65 : List SOper := [⟨some 155, .q (.mv (.t 12)), none⟩, ⟨some 156, .q (.mv (.t 155)), none⟩, ⟨some 157, .q (.mv (.t 8)), some (156, true)⟩, ⟨some 158, .q (.not (.t 157)), some (156, true)⟩, ⟨some 159, .q (.mv (.t 158)), some (156, true)⟩, ⟨some 160, .q (.mv (.t 10)), some (159, false)⟩, ⟨some 161, .q (.pick (.t 159) (.c (.bool true)) (.t 160)), some (156, true)⟩, ⟨some 162, .q (.pick (.t 156) (.t 161) (.c (.bool false))), none⟩, ⟨some 163, .q (.mv (.t 162)), none⟩, ⟨some 164, .q (.mv (.t 8)), some (163, false)⟩, ⟨some 165, .q (.mv (.t 164)), some (163, false)⟩, ⟨some 166, .q (.mv (.t 10)), some (165, true)⟩, ⟨some 167, .q (.not (.t 166)), some (165, true)⟩, ⟨some 168, .q (.pick (.t 165) (.t 167) (.c (.bool false))), some (163, false)⟩, ⟨some 169, .q (.mv (.t 168)), some (163, false)⟩, ⟨some 170, .q (.mv (.t 12)), some (169, true)⟩, ⟨some 171, .q (.not (.t 170)), some (169, true)⟩, ⟨some 172, .q (.pick (.t 169) (.t 171) (.c (.bool false))), some (163, false)⟩, ⟨some 173, .q (.mv (.t 172)), some (163, false)⟩, ⟨some 174, .q (.mv (.t 5)), some (173, true)⟩, ⟨some 175, .q (.len (.t 174)), some (173, true)⟩, ⟨some 176, .q (.bin .gtr (.t 175) (.c (.int .i64 0))), some (173, true)⟩, ⟨some 177, .q (.pick (.t 173) (.t 176) (.c (.bool false))), some (163, false)⟩, ⟨some 178, .q (.pick (.t 163) (.c (.bool true)) (.t 177)), none⟩]
def c5_66 : List SOper := [⟨some 2, .q (.mv (.c (.bool false))), none⟩]
def c5_67 : SCode := .seq (.region c5_66 [2]) .ret
def c5_68 : SCode := .cond (.t 178) c5_67 .skip
def c5_69 : SCode := .seq (.region c5_65 [3, 4, 5, 6, 7, 178]) c5_68
def c5_70 : SCode := .seq c5_64 c5_69
def c5_71 : SCode := .seq (.region c5_52 [3, 4, 5, 6, 7, 8, 10, 12]) c5_70
def c5_72 : SCode := .seq c5_51 c5_71
def c5_73 : SCode := .seq (.region c5_39 [3, 4, 5, 6, 7, 8, 10]) c5_72
def c5_74 : SCode := .seq c5_38 c5_73
def c5_75 : SCode := .seq (.region c5_26 [3, 4, 5, 6, 7, 8]) c5_74
def c5_76 : SCode := .block 3 c5_75
def c5_77 : List SOper := [⟨some 51, .q (.mv (.t 7)), none⟩, ⟨some 52, .q (.bin .add (.t 51) (.c (.int .i64 1))), none⟩, ⟨some 7, .q (.mv (.t 52)), none⟩]
def c5_78 : SCode := .seq c5_76 (.region c5_77 [3, 4, 5, 6, 7])
def c5_79 : SCode := .seq c5_25 c5_78
def c5_80 : SCode := .loop c5_79
def c5_81 : SCode := .block 2 c5_80
def c5_82 : SCode := .seq (.region c5_22 [3, 4, 5, 6, 7]) c5_81
def c5_83 : SCode := .block 1 c5_82
def c5_84 : List SOper := [⟨some 47, .q (.mv (.t 6)), none⟩, ⟨some 48, .q (.bin .add (.t 47) (.c (.int .i64 1))), none⟩, ⟨some 6, .q (.mv (.t 48)), none⟩]
def c5_85 : SCode := .seq c5_83 (.region c5_84 [3, 4, 5, 6])
def c5_86 : SCode := .seq c5_21 c5_85
def c5_87 : SCode := .loop c5_86
def c5_88 : SCode := .block 0 c5_87
def c5_89 : SCode := .seq (.region c5_18 [3, 4, 5, 6]) c5_88
def c5_90 : List SOper := [⟨some 2, .q (.mv (.c (.bool true))), none⟩]
def c5_91 : SCode := .seq (.region c5_90 [2]) .ret
def c5_92 : SCode := .seq c5_89 c5_91
def c5_93 : SCode := .seq c5_17 c5_92
def c5_94 : SCode := .seq c5_12 c5_93
def c5_95 : SCode := .seq (.region c5_7 [3, 4, 5]) c5_94
def c5_96 : SCode := .seq (.region c5_6 [3, 4]) c5_95
def c5_97 : SCode := .seq c5_5 c5_96
def c5_98 : SCode := .seq (.region c5_0 [0]) c5_97
def c5 : SCode := c5_98
theorem w5 : type_of% (And.intro (uR Try.prog c5_0.eq_1) (And.intro (uR Try.prog c5_1.eq_1) (And.intro (uR Try.prog c5_2.eq_1) (And.intro (uC Try.prog c5_3.eq_1) (And.intro (uC Try.prog c5_4.eq_1) (And.intro (uC Try.prog c5_5.eq_1) (And.intro (uR Try.prog c5_6.eq_1) (And.intro (uR Try.prog c5_7.eq_1) (And.intro (uR Try.prog c5_8.eq_1) (And.intro (uR Try.prog c5_9.eq_1) (And.intro (uC Try.prog c5_10.eq_1) (And.intro (uC Try.prog c5_11.eq_1) (And.intro (uC Try.prog c5_12.eq_1) (And.intro (uR Try.prog c5_13.eq_1) (And.intro (uR Try.prog c5_14.eq_1) (And.intro (uC Try.prog c5_15.eq_1) (And.intro (uC Try.prog c5_16.eq_1) (And.intro (uC Try.prog c5_17.eq_1) (And.intro (uR Try.prog c5_18.eq_1) (And.intro (uR Try.prog c5_19.eq_1) (And.intro (uC Try.prog c5_20.eq_1) (And.intro (uC Try.prog c5_21.eq_1) (And.intro (uR Try.prog c5_22.eq_1) (And.intro (uR Try.prog c5_23.eq_1) (And.intro (uC Try.prog c5_24.eq_1) (And.intro (uC Try.prog c5_25.eq_1) (And.intro (uR Try.prog c5_26.eq_1) (And.intro (uR Try.prog c5_27.eq_1) (And.intro (uR Try.prog c5_28.eq_1) (And.intro (uC Try.prog c5_29.eq_1) (And.intro (uC Try.prog c5_30.eq_1) (And.intro (uR Try.prog c5_31.eq_1) (And.intro (uC Try.prog c5_32.eq_1) (And.intro (uR Try.prog c5_33.eq_1) (And.intro (uC Try.prog c5_34.eq_1) (And.intro (uC Try.prog c5_35.eq_1) (And.intro (uC Try.prog c5_36.eq_1) (And.intro (uC Try.prog c5_37.eq_1) (And.intro (uC Try.prog c5_38.eq_1) (And.intro (uR Try.prog c5_39.eq_1) (And.intro (uR Try.prog c5_40.eq_1) (And.intro (uR Try.prog c5_41.eq_1) (And.intro (uC Try.prog c5_42.eq_1) (And.intro (uC Try.prog c5_43.eq_1) (And.intro (uR Try.prog c5_44.eq_1) (And.intro (uC Try.prog c5_45.eq_1) (And.intro (uR Try.prog c5_46.eq_1) (And.intro (uC Try.prog c5_47.eq_1) (And.intro (uC Try.prog c5_48.eq_1) (And.intro (uC Try.prog c5_49.eq_1) (And.intro (uC Try.prog c5_50.eq_1) (And.intro (uC Try.prog c5_51.eq_1) (And.intro (uR Try.prog c5_52.eq_1) (And.intro (uR Try.prog c5_53.eq_1) (And.intro (uR Try.prog c5_54.eq_1) (And.intro (uC Try.prog c5_55.eq_1) (And.intro (uC Try.prog c5_56.eq_1) (And.intro (uR Try.prog c5_57.eq_1) (And.intro (uC Try.prog c5_58.eq_1) (And.intro (uR Try.prog c5_59.eq_1) (And.intro (uC Try.prog c5_60.eq_1) (And.intro (uC Try.prog c5_61.eq_1) (And.intro (uC Try.prog c5_62.eq_1) (And.intro (uC Try.prog c5_63.eq_1) (And.intro (uC Try.prog c5_64.eq_1) (And.intro (uR Try.prog c5_65.eq_1) (And.intro (uR Try.prog c5_66.eq_1) (And.intro (uC Try.prog c5_67.eq_1) (And.intro (uC Try.prog c5_68.eq_1) (And.intro (uC Try.prog c5_69.eq_1) (And.intro (uC Try.prog c5_70.eq_1) (And.intro (uC Try.prog c5_71.eq_1) (And.intro (uC Try.prog c5_72.eq_1) (And.intro (uC Try.prog c5_73.eq_1) (And.intro (uC Try.prog c5_74.eq_1) (And.intro (uC Try.prog c5_75.eq_1) (And.intro (uC Try.prog c5_76.eq_1) (And.intro (uR Try.prog c5_77.eq_1) (And.intro (uC Try.prog c5_78.eq_1) (And.intro (uC Try.prog c5_79.eq_1) (And.intro (uC Try.prog c5_80.eq_1) (And.intro (uC Try.prog c5_81.eq_1) (And.intro (uC Try.prog c5_82.eq_1) (And.intro (uC Try.prog c5_83.eq_1) (And.intro (uR Try.prog c5_84.eq_1) (And.intro (uC Try.prog c5_85.eq_1) (And.intro (uC Try.prog c5_86.eq_1) (And.intro (uC Try.prog c5_87.eq_1) (And.intro (uC Try.prog c5_88.eq_1) (And.intro (uC Try.prog c5_89.eq_1) (And.intro (uR Try.prog c5_90.eq_1) (And.intro (uC Try.prog c5_91.eq_1) (And.intro (uC Try.prog c5_92.eq_1) (And.intro (uC Try.prog c5_93.eq_1) (And.intro (uC Try.prog c5_94.eq_1) (And.intro (uC Try.prog c5_95.eq_1) (And.intro (uC Try.prog c5_96.eq_1) (And.intro (uC Try.prog c5_97.eq_1) (And.intro (uC Try.prog c5_98.eq_1) (uC Try.prog c5.eq_1)))))))))))))))))))))))))))))))))))))))))))))))))))))))))))))))))))))))))))))))))))))))))))))))))))) := (And.intro (uR Try.prog c5_0.eq_1) (And.intro (uR Try.prog c5_1.eq_1) (And.intro (uR Try.prog c5_2.eq_1) (And.intro (uC Try.prog c5_3.eq_1) (And.intro (uC Try.prog c5_4.eq_1) (And.intro (uC Try.prog c5_5.eq_1) (And.intro (uR Try.prog c5_6.eq_1) (And.intro (uR Try.prog c5_7.eq_1) (And.intro (uR Try.prog c5_8.eq_1) (And.intro (uR Try.prog c5_9.eq_1) (And.intro (uC Try.prog c5_10.eq_1) (And.intro (uC Try.prog c5_11.eq_1) (And.intro (uC Try.prog c5_12.eq_1) (And.intro (uR Try.prog c5_13.eq_1) (And.intro (uR Try.prog c5_14.eq_1) (And.intro (uC Try.prog c5_15.eq_1) (And.intro (uC Try.prog c5_16.eq_1) (And.intro (uC Try.prog c5_17.eq_1) (And.intro (uR Try.prog c5_18.eq_1) (And.intro (uR Try.prog c5_19.eq_1) (And.intro (uC Try.prog c5_20.eq_1) (And.intro (uC Try.prog c5_21.eq_1) (And.intro (uR Try.prog c5_22.eq_1) (And.intro (uR Try.prog c5_23.eq_1) (And.intro (uC Try.prog c5_24.eq_1) (And.intro (uC Try.prog c5_25.eq_1) (And.intro (uR Try.prog c5_26.eq_1) (And.intro (uR Try.prog c5_27.eq_1) (And.intro (uR Try.prog c5_28.eq_1) (And.intro (uC Try.prog c5_29.eq_1) (And.intro (uC Try.prog c5_30.eq_1) (And.intro (uR Try.prog c5_31.eq_1) (And.intro (uC Try.prog c5_32.eq_1) (And.intro (uR Try.prog c5_33.eq_1) (And.intro (uC Try.prog c5_34.eq_1) (And.intro (uC Try.prog c5_35.eq_1) (And.intro (uC Try.prog c5_36.eq_1) (And.intro (uC Try.prog c5_37.eq_1) (And.intro (uC Try.prog c5_38.eq_1) (And.intro (uR Try.prog c5_39.eq_1) (And.intro (uR Try.prog c5_40.eq_1) (And.intro (uR Try.prog c5_41.eq_1) (And.intro (uC Try.prog c5_42.eq_1) (And.intro (uC Try.prog c5_43.eq_1) (And.intro (uR Try.prog c5_44.eq_1) (And.intro (uC Try.prog c5_45.eq_1) (And.intro (uR Try.prog c5_46.eq_1) (And.intro (uC Try.prog c5_47.eq_1) (And.intro (uC Try.prog c5_48.eq_1) (And.intro (uC Try.prog c5_49.eq_1) (And.intro (uC Try.prog c5_50.eq_1) (And.intro (uC Try.prog c5_51.eq_1) (And.intro (uR Try.prog c5_52.eq_1) (And.intro (uR Try.prog c5_53.eq_1) (And.intro (uR Try.prog c5_54.eq_1) (And.intro (uC Try.prog c5_55.eq_1) (And.intro (uC Try.prog c5_56.eq_1) (And.intro (uR Try.prog c5_57.eq_1) (And.intro (uC Try.prog c5_58.eq_1) (And.intro (uR Try.prog c5_59.eq_1) (And.intro (uC Try.prog c5_60.eq_1) (And.intro (uC Try.prog c5_61.eq_1) (And.intro (uC Try.prog c5_62.eq_1) (And.intro (uC Try.prog c5_63.eq_1) (And.intro (uC Try.prog c5_64.eq_1) (And.intro (uR Try.prog c5_65.eq_1) (And.intro (uR Try.prog c5_66.eq_1) (And.intro (uC Try.prog c5_67.eq_1) (And.intro (uC Try.prog c5_68.eq_1) (And.intro (uC Try.prog c5_69.eq_1) (And.intro (uC Try.prog c5_70.eq_1) (And.intro (uC Try.prog c5_71.eq_1) (And.intro (uC Try.prog c5_72.eq_1) (And.intro (uC Try.prog c5_73.eq_1) (And.intro (uC Try.prog c5_74.eq_1) (And.intro (uC Try.prog c5_75.eq_1) (And.intro (uC Try.prog c5_76.eq_1) (And.intro (uR Try.prog c5_77.eq_1) (And.intro (uC Try.prog c5_78.eq_1) (And.intro (uC Try.prog c5_79.eq_1) (And.intro (uC Try.prog c5_80.eq_1) (And.intro (uC Try.prog c5_81.eq_1) (And.intro (uC Try.prog c5_82.eq_1) (And.intro (uC Try.prog c5_83.eq_1) (And.intro (uR Try.prog c5_84.eq_1) (And.intro (uC Try.prog c5_85.eq_1) (And.intro (uC Try.prog c5_86.eq_1) (And.intro (uC Try.prog c5_87.eq_1) (And.intro (uC Try.prog c5_88.eq_1) (And.intro (uC Try.prog c5_89.eq_1) (And.intro (uR Try.prog c5_90.eq_1) (And.intro (uC Try.prog c5_91.eq_1) (And.intro (uC Try.prog c5_92.eq_1) (And.intro (uC Try.prog c5_93.eq_1) (And.intro (uC Try.prog c5_94.eq_1) (And.intro (uC Try.prog c5_95.eq_1) (And.intro (uC Try.prog c5_96.eq_1) (And.intro (uC Try.prog c5_97.eq_1) (And.intro (uC Try.prog c5_98.eq_1) (uC Try.prog c5.eq_1))))))))))))))))))))))))))))))))))))))))))))))))))))))))))))))))))))))))))))))))))))))))))))))))))))
def v5 : List RV := [.t 2]
theorem s5 : slimF Try.prog Try.f5 = some (c5.bare, v5) := by kernel_rfl

def hitB (r : Reel) (s f : Int) : Bool := decide (r.src = s) && (decide (r.fr ≤ f) && decide (f < r.to))
def covB (l : List Reel) (s f : Int) : Bool := l.any fun r => hitB r s f
theorem covB_iff (l : List Reel) (s f : Int) : covB l s f = true ↔ cov l s f := by
  unfold covB cov hitB
  rw [List.any_eq_true]
  simp only [Bool.and_eq_true, decide_eq_true_eq]
theorem covB_take (l : List Reel) (s f : Int) {i : Nat} (hi : i < l.length) : covB (l.take (i + 1)) s f = (covB (l.take i) s f || hitB l[i] s f) := by
  unfold covB
  rw [List.take_add_one, List.getElem?_eq_getElem hi, Option.toList_some, List.any_append]
  simp
theorem miss_law (a b : List Reel) (s f : Int) : (covB (missF a b) s f = true → covB a s f = true ∧ covB b s f = false) ∧ (covB a s f = true → covB b s f = false → covB (missF a b) s f = false → missF a b = []) := by
  unfold missF
  split
  · rename_i h
    obtain ⟨A1, A2⟩ := told_told a (reels_valid h.1)
    obtain ⟨B1, B2⟩ := told_told b (reels_valid h.2)
    have hc := miss_cov (toldF a) (toldF b) B1 s f
    rw [A2, B2] at hc
    rw [← covB_iff, ← covB_iff, ← covB_iff] at hc
    cases h1 : covB (missL (toldF a) (toldF b)) s f <;> cases h2 : covB a s f <;> cases h3 : covB b s f <;> simp [h1, h2, h3] at hc ⊢
  · exact ⟨fun h => by simp [covB] at h, fun _ _ _ => rfl⟩
theorem FnMissing_ok (h : Heap) (v : Value) (code : List Int) (s : SlT h encByte 1 v code) (hl : code.length ≤ 9223372036854775807) :
    ACall Try.prog 5 [v] h fun r h' => r = .bool true := by
  refine ACall.of Try.func5 s5 (of_decide_eq_true rfl) ?_
  simp (maxSteps := 4000000) (disch := omega) only [ah, am, Nat.reduceEqDiff, reduceCtorEq, Nat.reduceAdd, Nat.reduceLeDiff, Nat.reduceMul, Nat.reduceLT, if_true, if_false, true_and, and_true, and_self, Nat.reduceBEq, QOp.loads, boxO, bslO, buildO, cutL, fillV, putL, w5, v5]
  refine stepC.of (big_ok _ _ _ s) ?_
  rintro _ Hx ⟨hx, rfl⟩; rw [hx]; clear hx Hx
  by_cases hbig : (4096 : Int) < code.length
  · simp (maxSteps := 4000000) (disch := omega) only [ah, am, Nat.reduceEqDiff, reduceCtorEq, Nat.reduceAdd, Nat.reduceLeDiff, Nat.reduceMul, Nat.reduceLT, if_true, if_false, true_and, and_true, and_self, Nat.reduceBEq, QOp.loads, boxO, bslO, buildO, cutL, fillV, putL, w5, v5, decide_eq_true hbig]
  simp (maxSteps := 4000000) (disch := omega) only [ah, am, Nat.reduceEqDiff, reduceCtorEq, Nat.reduceAdd, Nat.reduceLeDiff, Nat.reduceMul, Nat.reduceLT, if_true, if_false, true_and, and_true, and_self, Nat.reduceBEq, QOp.loads, boxO, bslO, buildO, cutL, fillV, putL, w5, v5, decide_eq_false hbig]
  refine stepC.of (DrawMissing_ok _ _ _ s (by omega)) ?_
  rintro _ H1 ⟨av, bv, a, b, rfl, e1, sa, sb, la, lb⟩
  simp (maxSteps := 4000000) (disch := omega) only [ah, am, Nat.reduceEqDiff, reduceCtorEq, Nat.reduceAdd, Nat.reduceLeDiff, Nat.reduceMul, Nat.reduceLT, if_true, if_false, true_and, and_true, and_self, Nat.reduceBEq, QOp.loads, boxO, bslO, buildO, cutL, fillV, putL, w5, v5]
  refine stepC.of (Missing_ok _ _ _ _ _ sa sb) ?_
  intro mv H2 Fm
  have sa := sa.ext Fm.1
  have sb := sb.ext Fm.1
  have sm := Fm.slt
  simp (maxSteps := 4000000) (disch := omega) only [ah, am, Nat.reduceEqDiff, reduceCtorEq, Nat.reduceAdd, Nat.reduceLeDiff, Nat.reduceMul, Nat.reduceLT, if_true, if_false, true_and, and_true, and_self, Nat.reduceBEq, QOp.loads, boxO, bslO, buildO, cutL, fillV, putL, w5, v5]
  refine stepC.of (specMissing_ok _ _ _ _ _ sa sb) ?_
  intro mv2 H3 Fm2
  have hml := missF_len a b
  have sa := sa.ext Fm2.1
  have sb := sb.ext Fm2.1
  have sm := sm.ext Fm2.1
  simp (maxSteps := 4000000) (disch := omega) only [ah, am, Nat.reduceEqDiff, reduceCtorEq, Nat.reduceAdd, Nat.reduceLeDiff, Nat.reduceMul, Nat.reduceLT, if_true, if_false, true_and, and_true, and_self, Nat.reduceBEq, QOp.loads, boxO, bslO, buildO, cutL, fillV, putL, w5, v5]
  refine stepC.of (sameReels_ok _ _ _ _ _ sm Fm2.slt (by omega) (by omega)) ?_
  rintro _ Hx ⟨hx, rfl⟩; rw [hx]; clear hx Hx
  simp (maxSteps := 4000000) (disch := omega) only [ah, am, Nat.reduceEqDiff, reduceCtorEq, Nat.reduceAdd, Nat.reduceLeDiff, Nat.reduceMul, Nat.reduceLT, if_true, if_false, true_and, and_true, and_self, Nat.reduceBEq, QOp.loads, boxO, bslO, buildO, cutL, fillV, putL, w5, v5, eq_self, decide_true, Bool.not_true]
  refine stepC.of (Covered_ok _ _ _ _ _ sa sb) ?_
  rintro _ H4 ⟨e4, rfl⟩
  have sa := sa.ext e4
  have sb := sb.ext e4
  have sm := sm.ext e4
  simp (maxSteps := 4000000) (disch := omega) only [ah, am, Nat.reduceEqDiff, reduceCtorEq, Nat.reduceAdd, Nat.reduceLeDiff, Nat.reduceMul, Nat.reduceLT, if_true, if_false, true_and, and_true, and_self, Nat.reduceBEq, QOp.loads, boxO, bslO, buildO, cutL, fillV, putL, w5, v5]
  refine stepC.of (specCovered_ok _ _ _ _ _ sa sb) ?_
  rintro _ K ⟨e5, rfl⟩
  have sa := sa.ext e5
  have sb := sb.ext e5
  have sm := sm.ext e5
  clear Fm Fm2 e1 e4 e5
  have Ra := sa.rulesN
  have Rb := sb.rulesN
  have Rm := sm.rulesN
  simp (maxSteps := 4000000) (disch := omega) only [ah, am, Nat.reduceEqDiff, reduceCtorEq, Nat.reduceAdd, Nat.reduceLeDiff, Nat.reduceMul, Nat.reduceLT, if_true, if_false, true_and, and_true, and_self, Nat.reduceBEq, QOp.loads, boxO, bslO, buildO, cutL, fillV, putL, w5, v5, eqbV_bool', beq_self_eq_true, Bool.not_true, Ra.1, Rb.1, i64w]
  by_cases hsum : (100 : Int) < (a.length : Int) + b.length
  · simp (maxSteps := 4000000) (disch := omega) only [ah, am, Nat.reduceEqDiff, reduceCtorEq, Nat.reduceAdd, Nat.reduceLeDiff, Nat.reduceMul, Nat.reduceLT, if_true, if_false, true_and, and_true, and_self, Nat.reduceBEq, QOp.loads, boxO, bslO, buildO, cutL, fillV, putL, w5, v5, decide_eq_true hsum]
  simp (maxSteps := 4000000) (disch := omega) only [ah, am, Nat.reduceEqDiff, reduceCtorEq, Nat.reduceAdd, Nat.reduceLeDiff, Nat.reduceMul, Nat.reduceLT, if_true, if_false, true_and, and_true, and_self, Nat.reduceBEq, QOp.loads, boxO, bslO, buildO, cutL, fillV, putL, w5, v5, decide_eq_false hsum]
  have P := fun src f => miss_law a b src f
  generalize missF a b = m at sm hml Rm P ⊢
  refine SW_loop_up (fun i E H => K = H ∧ E = [(3, av), (4, bv), (5, mv), (6, .int .i64 (i : Int))]) 4 1 (by omega) ⟨rfl, rfl⟩ ?_
  rintro src E _ hsrc ⟨rfl, rfl⟩
  have Ws : IntKind.i64.wrap ((src : Int) + 1) = ((src + 1 : Nat) : Int) := i64e (by omega) (by omega)
  simp (maxSteps := 4000000) (disch := omega) only [ah, am, Nat.reduceEqDiff, reduceCtorEq, Nat.reduceAdd, Nat.reduceLeDiff, Nat.reduceMul, Nat.reduceLT, if_true, if_false, true_and, and_true, and_self, Nat.reduceBEq, QOp.loads, boxO, bslO, buildO, cutL, fillV, putL, w5, v5]
  refine stepI.split (fun hp => ?_) (fun hp => ?_)
  rotate_left
  · simp (maxSteps := 4000000) (disch := omega) only [ah, am, Nat.reduceEqDiff, reduceCtorEq, Nat.reduceAdd, Nat.reduceLeDiff, Nat.reduceMul, Nat.reduceLT, if_true, if_false, true_and, and_true, and_self, Nat.reduceBEq, QOp.loads, boxO, bslO, buildO, cutL, fillV, putL, w5, v5]
  simp (maxSteps := 4000000) (disch := omega) only [ah, am, Nat.reduceEqDiff, reduceCtorEq, Nat.reduceAdd, Nat.reduceLeDiff, Nat.reduceMul, Nat.reduceLT, if_true, if_false, true_and, and_true, and_self, Nat.reduceBEq, QOp.loads, boxO, bslO, buildO, cutL, fillV, putL, w5, v5]
  refine SW_loop_to 2 (fun E H => K = H ∧ ∃ t, E = (3, av) :: (4, bv) :: (5, mv) :: (6, .int .i64 (src : Int)) :: t) ?_ ?_
  rotate_left
  · rintro E _ ⟨rfl, t, rfl⟩
    simp (maxSteps := 4000000) (disch := omega) only [ah, am, Nat.reduceEqDiff, reduceCtorEq, Nat.reduceAdd, Nat.reduceLeDiff, Nat.reduceMul, Nat.reduceLT, if_true, if_false, true_and, and_true, and_self, Nat.reduceBEq, QOp.loads, boxO, bslO, buildO, cutL, fillV, putL, w5, v5, Ws]
    omega
  refine SW_loop_up (fun f E H => K = H ∧ E = [(3, av), (4, bv), (5, mv), (6, .int .i64 (src : Int)), (7, .int .i64 (f : Int))]) 80 0 (by omega) ⟨rfl, rfl⟩ ?_
  rintro f E _ hf ⟨rfl, rfl⟩
  have Wf : IntKind.i64.wrap ((f : Int) + 1) = ((f + 1 : Nat) : Int) := i64e (by omega) (by omega)
  simp (maxSteps := 4000000) (disch := omega) only [ah, am, Nat.reduceEqDiff, reduceCtorEq, Nat.reduceAdd, Nat.reduceLeDiff, Nat.reduceMul, Nat.reduceLT, if_true, if_false, true_and, and_true, and_self, Nat.reduceBEq, QOp.loads, boxO, bslO, buildO, cutL, fillV, putL, w5, v5]
  refine stepI.split (fun hq => ?_) (fun hq => ?_)
  rotate_left
  · simp (maxSteps := 4000000) (disch := omega) only [ah, am, Nat.reduceEqDiff, reduceCtorEq, Nat.reduceAdd, Nat.reduceLeDiff, Nat.reduceMul, Nat.reduceLT, if_true, if_false, true_and, and_true, and_self, Nat.reduceBEq, QOp.loads, boxO, bslO, buildO, cutL, fillV, putL, w5, v5]
    exact ⟨_, rfl⟩
  simp (maxSteps := 4000000) (disch := omega) only [ah, am, Nat.reduceEqDiff, reduceCtorEq, Nat.reduceAdd, Nat.reduceLeDiff, Nat.reduceMul, Nat.reduceLT, if_true, if_false, true_and, and_true, and_self, Nat.reduceBEq, QOp.loads, boxO, bslO, buildO, cutL, fillV, putL, w5, v5]
  refine SW_loop_to 4 (fun E H => K = H ∧ ∃ t, E = (3, av) :: (4, bv) :: (5, mv) :: (6, .int .i64 (src : Int)) :: (7, .int .i64 (f : Int)) :: (8, .bool (covB a src f)) :: t) ?_ ?_
  · refine SW_loop_up (fun i E H => K = H ∧ E = (3, av) :: (4, bv) :: (5, mv) :: (6, .int .i64 (src : Int)) :: (7, .int .i64 (f : Int)) :: (8, .bool (covB (a.take i) src f)) :: (9, .int .i64 (i : Int)) :: []) a.length 0 (by omega) ⟨rfl, rfl⟩ ?_
    rintro i E _ hi ⟨rfl, rfl⟩
    have W : IntKind.i64.wrap ((i : Int) + 1) = ((i + 1 : Nat) : Int) := i64e (by omega) (by omega)
    simp (maxSteps := 4000000) (disch := omega) only [ah, am, Nat.reduceEqDiff, reduceCtorEq, Nat.reduceAdd, Nat.reduceLeDiff, Nat.reduceMul, Nat.reduceLT, if_true, if_false, true_and, and_true, and_self, Nat.reduceBEq, QOp.loads, boxO, bslO, buildO, cutL, fillV, putL, w5, v5, Ra.1]
    refine stepI.split (fun hr => ?_) (fun hr => ?_)
    rotate_left
    · simp (maxSteps := 4000000) (disch := omega) only [ah, am, Nat.reduceEqDiff, reduceCtorEq, Nat.reduceAdd, Nat.reduceLeDiff, Nat.reduceMul, Nat.reduceLT, if_true, if_false, true_and, and_true, and_self, Nat.reduceBEq, QOp.loads, boxO, bslO, buildO, cutL, fillV, putL, w5, v5]
      have : i = a.length := by omega
      subst this
      exact ⟨_, by rw [List.take_length]⟩
    have hi2 : i < a.length := by omega
    rw [covB_take a src f hi2]
    obtain ⟨x, hx⟩ : ∃ x, x = a[i]'hi2 := ⟨_, rfl⟩
    have L0 : ldV K (ptrAt av (i * 3)) = some (.int .i64 x.src) := by rw [hx]; exact Ra.2.2.2.2.1 i hi2
    have L1 : ldV K (ptrAt av (i * 3 + 1)) = some (.int .i64 x.fr) := by rw [hx]; exact Ra.2.2.2.1 i 1 hi2 (by omega)
    have L2 : ldV K (ptrAt av (i * 3 + 2)) = some (.int .i64 x.to) := by rw [hx]; exact Ra.2.2.2.1 i 2 hi2 (by omega)
    have FA := Ra.2.2.1
    rw [← hx]
    unfold hitB
    generalize covB (a.take i) src f = cb
    cases cb with
    | true =>
      simp (maxSteps := 4000000) (disch := omega) only [ah, am, Nat.reduceEqDiff, reduceCtorEq, Nat.reduceAdd, Nat.reduceLeDiff, Nat.reduceMul, Nat.reduceLT, if_true, if_false, true_and, and_true, and_self, Nat.reduceBEq, QOp.loads, boxO, bslO, buildO, cutL, fillV, putL, w5, v5, Ra.2.1, FA, L0, L1, L2, Bool.true_or, W]
      exact hi2
    | false =>
      by_cases q1 : x.src = src
      · by_cases q2 : x.fr ≤ f
        · by_cases q3 : (f : Int) < x.to
          · simp (maxSteps := 4000000) (disch := omega) only [ah, am, Nat.reduceEqDiff, reduceCtorEq, Nat.reduceAdd, Nat.reduceLeDiff, Nat.reduceMul, Nat.reduceLT, if_true, if_false, true_and, and_true, and_self, Nat.reduceBEq, QOp.loads, boxO, bslO, buildO, cutL, fillV, putL, w5, v5, Ra.2.1, FA, L0, L1, L2, decide_eq_true q1, decide_eq_true q2, decide_eq_true q3, Bool.false_or, Bool.true_and, Bool.and_self, W]
            exact hi2
          · simp (maxSteps := 4000000) (disch := omega) only [ah, am, Nat.reduceEqDiff, reduceCtorEq, Nat.reduceAdd, Nat.reduceLeDiff, Nat.reduceMul, Nat.reduceLT, if_true, if_false, true_and, and_true, and_self, Nat.reduceBEq, QOp.loads, boxO, bslO, buildO, cutL, fillV, putL, w5, v5, Ra.2.1, FA, L0, L1, L2, decide_eq_true q1, decide_eq_true q2, decide_eq_false q3, Bool.false_or, Bool.true_and, Bool.and_false, W]
            exact hi2
        · simp (maxSteps := 4000000) (disch := omega) only [ah, am, Nat.reduceEqDiff, reduceCtorEq, Nat.reduceAdd, Nat.reduceLeDiff, Nat.reduceMul, Nat.reduceLT, if_true, if_false, true_and, and_true, and_self, Nat.reduceBEq, QOp.loads, boxO, bslO, buildO, cutL, fillV, putL, w5, v5, Ra.2.1, FA, L0, L1, L2, decide_eq_true q1, decide_eq_false q2, Bool.false_or, Bool.true_and, Bool.false_and, Bool.and_false, W]
          exact hi2
      · simp (maxSteps := 4000000) (disch := omega) only [ah, am, Nat.reduceEqDiff, reduceCtorEq, Nat.reduceAdd, Nat.reduceLeDiff, Nat.reduceMul, Nat.reduceLT, if_true, if_false, true_and, and_true, and_self, Nat.reduceBEq, QOp.loads, boxO, bslO, buildO, cutL, fillV, putL, w5, v5, Ra.2.1, FA, L0, L1, L2, decide_eq_false q1, Bool.false_or, Bool.false_and, W]
        exact hi2
  rintro E _ ⟨rfl, t, rfl⟩
  simp (maxSteps := 4000000) (disch := omega) only [ah, am, Nat.reduceEqDiff, reduceCtorEq, Nat.reduceAdd, Nat.reduceLeDiff, Nat.reduceMul, Nat.reduceLT, if_true, if_false, true_and, and_true, and_self, Nat.reduceBEq, QOp.loads, boxO, bslO, buildO, cutL, fillV, putL, w5, v5]
  refine SW_loop_to 6 (fun E H => K = H ∧ ∃ t, E = (3, av) :: (4, bv) :: (5, mv) :: (6, .int .i64 (src : Int)) :: (7, .int .i64 (f : Int)) :: (8, .bool (covB a src f)) :: (10, .bool (covB b src f)) :: t) ?_ ?_
  · refine SW_loop_up (fun i E H => K = H ∧ E = (3, av) :: (4, bv) :: (5, mv) :: (6, .int .i64 (src : Int)) :: (7, .int .i64 (f : Int)) :: (8, .bool (covB a src f)) :: (10, .bool (covB (b.take i) src f)) :: (11, .int .i64 (i : Int)) :: []) b.length 0 (by omega) ⟨rfl, rfl⟩ ?_
    rintro i E _ hi ⟨rfl, rfl⟩
    have W : IntKind.i64.wrap ((i : Int) + 1) = ((i + 1 : Nat) : Int) := i64e (by omega) (by omega)
    simp (maxSteps := 4000000) (disch := omega) only [ah, am, Nat.reduceEqDiff, reduceCtorEq, Nat.reduceAdd, Nat.reduceLeDiff, Nat.reduceMul, Nat.reduceLT, if_true, if_false, true_and, and_true, and_self, Nat.reduceBEq, QOp.loads, boxO, bslO, buildO, cutL, fillV, putL, w5, v5, Rb.1]
    refine stepI.split (fun hr => ?_) (fun hr => ?_)
    rotate_left
    · simp (maxSteps := 4000000) (disch := omega) only [ah, am, Nat.reduceEqDiff, reduceCtorEq, Nat.reduceAdd, Nat.reduceLeDiff, Nat.reduceMul, Nat.reduceLT, if_true, if_false, true_and, and_true, and_self, Nat.reduceBEq, QOp.loads, boxO, bslO, buildO, cutL, fillV, putL, w5, v5]
      have : i = b.length := by omega
      subst this
      exact ⟨_, by rw [List.take_length]⟩
    have hi2 : i < b.length := by omega
    rw [covB_take b src f hi2]
    obtain ⟨x, hx⟩ : ∃ x, x = b[i]'hi2 := ⟨_, rfl⟩
    have L0 : ldV K (ptrAt bv (i * 3)) = some (.int .i64 x.src) := by rw [hx]; exact Rb.2.2.2.2.1 i hi2
    have L1 : ldV K (ptrAt bv (i * 3 + 1)) = some (.int .i64 x.fr) := by rw [hx]; exact Rb.2.2.2.1 i 1 hi2 (by omega)
    have L2 : ldV K (ptrAt bv (i * 3 + 2)) = some (.int .i64 x.to) := by rw [hx]; exact Rb.2.2.2.1 i 2 hi2 (by omega)
    have FA := Rb.2.2.1
    rw [← hx]
    unfold hitB
    generalize covB (b.take i) src f = cb
    cases cb with
    | true =>
      simp (maxSteps := 4000000) (disch := omega) only [ah, am, Nat.reduceEqDiff, reduceCtorEq, Nat.reduceAdd, Nat.reduceLeDiff, Nat.reduceMul, Nat.reduceLT, if_true, if_false, true_and, and_true, and_self, Nat.reduceBEq, QOp.loads, boxO, bslO, buildO, cutL, fillV, putL, w5, v5, Rb.2.1, FA, L0, L1, L2, Bool.true_or, W]
      exact hi2
    | false =>
      by_cases q1 : x.src = src
      · by_cases q2 : x.fr ≤ f
        · by_cases q3 : (f : Int) < x.to
          · simp (maxSteps := 4000000) (disch := omega) only [ah, am, Nat.reduceEqDiff, reduceCtorEq, Nat.reduceAdd, Nat.reduceLeDiff, Nat.reduceMul, Nat.reduceLT, if_true, if_false, true_and, and_true, and_self, Nat.reduceBEq, QOp.loads, boxO, bslO, buildO, cutL, fillV, putL, w5, v5, Rb.2.1, FA, L0, L1, L2, decide_eq_true q1, decide_eq_true q2, decide_eq_true q3, Bool.false_or, Bool.true_and, Bool.and_self, W]
            exact hi2
          · simp (maxSteps := 4000000) (disch := omega) only [ah, am, Nat.reduceEqDiff, reduceCtorEq, Nat.reduceAdd, Nat.reduceLeDiff, Nat.reduceMul, Nat.reduceLT, if_true, if_false, true_and, and_true, and_self, Nat.reduceBEq, QOp.loads, boxO, bslO, buildO, cutL, fillV, putL, w5, v5, Rb.2.1, FA, L0, L1, L2, decide_eq_true q1, decide_eq_true q2, decide_eq_false q3, Bool.false_or, Bool.true_and, Bool.and_false, W]
            exact hi2
        · simp (maxSteps := 4000000) (disch := omega) only [ah, am, Nat.reduceEqDiff, reduceCtorEq, Nat.reduceAdd, Nat.reduceLeDiff, Nat.reduceMul, Nat.reduceLT, if_true, if_false, true_and, and_true, and_self, Nat.reduceBEq, QOp.loads, boxO, bslO, buildO, cutL, fillV, putL, w5, v5, Rb.2.1, FA, L0, L1, L2, decide_eq_true q1, decide_eq_false q2, Bool.false_or, Bool.true_and, Bool.false_and, Bool.and_false, W]
          exact hi2
      · simp (maxSteps := 4000000) (disch := omega) only [ah, am, Nat.reduceEqDiff, reduceCtorEq, Nat.reduceAdd, Nat.reduceLeDiff, Nat.reduceMul, Nat.reduceLT, if_true, if_false, true_and, and_true, and_self, Nat.reduceBEq, QOp.loads, boxO, bslO, buildO, cutL, fillV, putL, w5, v5, Rb.2.1, FA, L0, L1, L2, decide_eq_false q1, Bool.false_or, Bool.false_and, W]
        exact hi2
  rintro E _ ⟨rfl, t, rfl⟩
  simp (maxSteps := 4000000) (disch := omega) only [ah, am, Nat.reduceEqDiff, reduceCtorEq, Nat.reduceAdd, Nat.reduceLeDiff, Nat.reduceMul, Nat.reduceLT, if_true, if_false, true_and, and_true, and_self, Nat.reduceBEq, QOp.loads, boxO, bslO, buildO, cutL, fillV, putL, w5, v5]
  refine SW_loop_to 8 (fun E H => K = H ∧ ∃ t, E = (3, av) :: (4, bv) :: (5, mv) :: (6, .int .i64 (src : Int)) :: (7, .int .i64 (f : Int)) :: (8, .bool (covB a src f)) :: (10, .bool (covB b src f)) :: (12, .bool (covB m src f)) :: t) ?_ ?_
  · refine SW_loop_up (fun i E H => K = H ∧ E = (3, av) :: (4, bv) :: (5, mv) :: (6, .int .i64 (src : Int)) :: (7, .int .i64 (f : Int)) :: (8, .bool (covB a src f)) :: (10, .bool (covB b src f)) :: (12, .bool (covB (m.take i) src f)) :: (13, .int .i64 (i : Int)) :: []) m.length 0 (by omega) ⟨rfl, rfl⟩ ?_
    rintro i E _ hi ⟨rfl, rfl⟩
    have W : IntKind.i64.wrap ((i : Int) + 1) = ((i + 1 : Nat) : Int) := i64e (by omega) (by omega)
    simp (maxSteps := 4000000) (disch := omega) only [ah, am, Nat.reduceEqDiff, reduceCtorEq, Nat.reduceAdd, Nat.reduceLeDiff, Nat.reduceMul, Nat.reduceLT, if_true, if_false, true_and, and_true, and_self, Nat.reduceBEq, QOp.loads, boxO, bslO, buildO, cutL, fillV, putL, w5, v5, Rm.1]
    refine stepI.split (fun hr => ?_) (fun hr => ?_)
    rotate_left
    · simp (maxSteps := 4000000) (disch := omega) only [ah, am, Nat.reduceEqDiff, reduceCtorEq, Nat.reduceAdd, Nat.reduceLeDiff, Nat.reduceMul, Nat.reduceLT, if_true, if_false, true_and, and_true, and_self, Nat.reduceBEq, QOp.loads, boxO, bslO, buildO, cutL, fillV, putL, w5, v5]
      have : i = m.length := by omega
      subst this
      exact ⟨_, by rw [List.take_length]⟩
    have hi2 : i < m.length := by omega
    rw [covB_take m src f hi2]
    obtain ⟨x, hx⟩ : ∃ x, x = m[i]'hi2 := ⟨_, rfl⟩
    have L0 : ldV K (ptrAt mv (i * 3)) = some (.int .i64 x.src) := by rw [hx]; exact Rm.2.2.2.2.1 i hi2
    have L1 : ldV K (ptrAt mv (i * 3 + 1)) = some (.int .i64 x.fr) := by rw [hx]; exact Rm.2.2.2.1 i 1 hi2 (by omega)
    have L2 : ldV K (ptrAt mv (i * 3 + 2)) = some (.int .i64 x.to) := by rw [hx]; exact Rm.2.2.2.1 i 2 hi2 (by omega)
    have FA := Rm.2.2.1
    rw [← hx]
    unfold hitB
    generalize covB (m.take i) src f = cb
    cases cb with
    | true =>
      simp (maxSteps := 4000000) (disch := omega) only [ah, am, Nat.reduceEqDiff, reduceCtorEq, Nat.reduceAdd, Nat.reduceLeDiff, Nat.reduceMul, Nat.reduceLT, if_true, if_false, true_and, and_true, and_self, Nat.reduceBEq, QOp.loads, boxO, bslO, buildO, cutL, fillV, putL, w5, v5, Rm.2.1, FA, L0, L1, L2, Bool.true_or, W]
      exact hi2
    | false =>
      by_cases q1 : x.src = src
      · by_cases q2 : x.fr ≤ f
        · by_cases q3 : (f : Int) < x.to
          · simp (maxSteps := 4000000) (disch := omega) only [ah, am, Nat.reduceEqDiff, reduceCtorEq, Nat.reduceAdd, Nat.reduceLeDiff, Nat.reduceMul, Nat.reduceLT, if_true, if_false, true_and, and_true, and_self, Nat.reduceBEq, QOp.loads, boxO, bslO, buildO, cutL, fillV, putL, w5, v5, Rm.2.1, FA, L0, L1, L2, decide_eq_true q1, decide_eq_true q2, decide_eq_true q3, Bool.false_or, Bool.true_and, Bool.and_self, W]
            exact hi2
          · simp (maxSteps := 4000000) (disch := omega) only [ah, am, Nat.reduceEqDiff, reduceCtorEq, Nat.reduceAdd, Nat.reduceLeDiff, Nat.reduceMul, Nat.reduceLT, if_true, if_false, true_and, and_true, and_self, Nat.reduceBEq, QOp.loads, boxO, bslO, buildO, cutL, fillV, putL, w5, v5, Rm.2.1, FA, L0, L1, L2, decide_eq_true q1, decide_eq_true q2, decide_eq_false q3, Bool.false_or, Bool.true_and, Bool.and_false, W]
            exact hi2
        · simp (maxSteps := 4000000) (disch := omega) only [ah, am, Nat.reduceEqDiff, reduceCtorEq, Nat.reduceAdd, Nat.reduceLeDiff, Nat.reduceMul, Nat.reduceLT, if_true, if_false, true_and, and_true, and_self, Nat.reduceBEq, QOp.loads, boxO, bslO, buildO, cutL, fillV, putL, w5, v5, Rm.2.1, FA, L0, L1, L2, decide_eq_true q1, decide_eq_false q2, Bool.false_or, Bool.true_and, Bool.false_and, Bool.and_false, W]
          exact hi2
      · simp (maxSteps := 4000000) (disch := omega) only [ah, am, Nat.reduceEqDiff, reduceCtorEq, Nat.reduceAdd, Nat.reduceLeDiff, Nat.reduceMul, Nat.reduceLT, if_true, if_false, true_and, and_true, and_self, Nat.reduceBEq, QOp.loads, boxO, bslO, buildO, cutL, fillV, putL, w5, v5, Rm.2.1, FA, L0, L1, L2, decide_eq_false q1, Bool.false_or, Bool.false_and, W]
        exact hi2
  rintro E _ ⟨rfl, t, rfl⟩
  simp (maxSteps := 4000000) (disch := omega) only [ah, am, Nat.reduceEqDiff, reduceCtorEq, Nat.reduceAdd, Nat.reduceLeDiff, Nat.reduceMul, Nat.reduceLT, if_true, if_false, true_and, and_true, and_self, Nat.reduceBEq, QOp.loads, boxO, bslO, buildO, cutL, fillV, putL, w5, v5]
  obtain ⟨p1, p2⟩ := P src f
  generalize covB a src f = xa at p1 p2 ⊢
  generalize covB b src f = xb at p1 p2 ⊢
  generalize covB m src f = xm at p1 p2 ⊢
  cases xm with
  | true =>
    obtain ⟨rfl, rfl⟩ := p1 rfl
    simp (maxSteps := 4000000) (disch := omega) only [ah, am, Nat.reduceEqDiff, reduceCtorEq, Nat.reduceAdd, Nat.reduceLeDiff, Nat.reduceMul, Nat.reduceLT, if_true, if_false, true_and, and_true, and_self, Nat.reduceBEq, QOp.loads, boxO, bslO, buildO, cutL, fillV, putL, w5, v5, Bool.not_true, Bool.not_false, Wf]
    omega
  | false =>
    cases xa with
    | false =>
      simp (maxSteps := 4000000) (disch := omega) only [ah, am, Nat.reduceEqDiff, reduceCtorEq, Nat.reduceAdd, Nat.reduceLeDiff, Nat.reduceMul, Nat.reduceLT, if_true, if_false, true_and, and_true, and_self, Nat.reduceBEq, QOp.loads, boxO, bslO, buildO, cutL, fillV, putL, w5, v5, Bool.not_true, Bool.not_false, Wf]
      omega
    | true =>
      cases xb with
      | true =>
        simp (maxSteps := 4000000) (disch := omega) only [ah, am, Nat.reduceEqDiff, reduceCtorEq, Nat.reduceAdd, Nat.reduceLeDiff, Nat.reduceMul, Nat.reduceLT, if_true, if_false, true_and, and_true, and_self, Nat.reduceBEq, QOp.loads, boxO, bslO, buildO, cutL, fillV, putL, w5, v5, Bool.not_true, Bool.not_false, Wf]
        omega
      | false =>
        have hm := p2 rfl rfl rfl
        have hm0 : decide ((0 : Int) < (m.length : Int)) = false := by rw [hm]; rfl
        simp (maxSteps := 4000000) (disch := omega) only [ah, am, Nat.reduceEqDiff, reduceCtorEq, Nat.reduceAdd, Nat.reduceLeDiff, Nat.reduceMul, Nat.reduceLT, if_true, if_false, true_and, and_true, and_self, Nat.reduceBEq, QOp.loads, boxO, bslO, buildO, cutL, fillV, putL, w5, v5, Bool.not_true, Bool.not_false, Rm.1, hm0, Wf]
        omega
end Go.Proofs.Ytmippcfdakjhfaa
