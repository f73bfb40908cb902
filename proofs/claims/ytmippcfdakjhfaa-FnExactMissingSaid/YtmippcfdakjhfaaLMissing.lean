import Derived.Test.YtmippcfdakjhfaaG1
import Derived.Test.YtmippcfdakjhfaaG12
import Derived.Test.YtmippcfdakjhfaaG13
namespace Go.Proofs.Ytmippcfdakjhfaa
open Go Go.Ah
set_option linter.unusedSimpArgs false
set_option linter.unusedVariables false
set_option maxRecDepth 10000
set_option maxHeartbeats 4000000
/-! 4 loop.example/g00066/laws.FnExactMissing: parameters 2, live [0, 1], slots [0:aNeeds, 1:aHave, 2:aNeeds, 3:aHave, 5:left, 6:w0, 7:x0, 8:x1, 9:g0, 10:k, 11:m, 12:q, 13:h0] -/
def c4_0 : List SOper := [⟨some 4, .q (.mv (.c (.bool false))), none⟩]
def c4_1 : List SOper := [⟨some 5, .q (.mv (.c (.int .i64 1048576))), none⟩]
def c4_2 : List SOper := [⟨some 14, .q (.mv (.t 0)), none⟩, ⟨some 15, .q (.mv (.t 5)), none⟩, ⟨some 16, .e (.call 8 [(.t 14), (.t 15)]), none⟩, ⟨some 5, .q (.mv (.t 16)), none⟩]
def c4_3 : List SOper := [⟨some 17, .q (.mv (.t 5)), none⟩, ⟨some 18, .q (.bin .lss (.t 17) (.c (.int .i64 0))), none⟩]
def c4_4 : List SOper := [⟨some 4, .q (.mv (.c (.bool true))), none⟩]
def c4_5 : SCode := .seq (.region c4_4 [4]) .ret
def c4_6 : SCode := .cond (.t 18) c4_5 .skip
def c4_7 : SCode := .seq (.region c4_3 [0, 1, 5, 18]) c4_6
def c4_8 : List SOper := [⟨some 19, .q (.mv (.t 1)), none⟩, ⟨some 20, .q (.mv (.t 5)), none⟩, ⟨some 21, .e (.call 8 [(.t 19), (.t 20)]), none⟩, ⟨some 5, .q (.mv (.t 21)), none⟩]
def c4_9 : List SOper := [⟨some 22, .q (.mv (.t 5)), none⟩, ⟨some 23, .q (.bin .lss (.t 22) (.c (.int .i64 0))), none⟩]
def c4_10 : List SOper := [⟨some 4, .q (.mv (.c (.bool true))), none⟩]
def c4_11 : SCode := .seq (.region c4_10 [4]) .ret
def c4_12 : SCode := .cond (.t 23) c4_11 .skip
def c4_13 : SCode := .seq (.region c4_9 [0, 1, 23]) c4_12
def c4_14 : List SOper := [⟨some 24, .q (.mv (.t 0)), none⟩, ⟨some 25, .e (.call 10 [(.t 24)]), none⟩, ⟨some 26, .q (.mv (.t 1)), none⟩, ⟨some 27, .e (.call 10 [(.t 26)]), none⟩, ⟨some 28, .e (.call 13 [(.t 25), (.t 27)]), none⟩, ⟨some 6, .q (.mv (.t 28)), none⟩]
def c4_15 : List SOper := [⟨some 29, .q (.mv (.t 0)), none⟩, ⟨some 30, .e (.call 10 [(.t 29)]), none⟩, ⟨some 7, .q (.mv (.t 30)), none⟩]
def c4_16 : List SOper := [⟨some 31, .q (.mv (.t 1)), none⟩, ⟨some 32, .e (.call 10 [(.t 31)]), none⟩, ⟨some 8, .q (.mv (.t 32)), none⟩]
def c4_17 : List SOper := [⟨some 33, .q (.mv (.t 7)), none⟩, ⟨some 34, .q (.mv (.t 8)), none⟩, ⟨some 35, .e (.call 14 [(.t 33), (.t 34)]), none⟩, ⟨some 9, .q (.mv (.t 35)), none⟩]
def c4_18 : List SOper := [⟨some 36, .q (.mv (.t 9)), none⟩, ⟨some 37, .q (.mv (.t 6)), none⟩, ⟨some 38, .e (.call 12 [(.t 36), (.t 37)]), none⟩, ⟨some 39, .q (.not (.t 38)), none⟩]
def c4_19 : List SOper := [⟨some 4, .q (.mv (.c (.bool false))), none⟩]
def c4_20 : SCode := .seq (.region c4_19 [4]) .ret
def c4_21 : SCode := .cond (.t 39) c4_20 .skip
def c4_22 : SCode := .seq (.region c4_18 [0, 1, 6, 7, 8, 9, 39]) c4_21
def c4_23 : List SOper := [⟨some 40, .q (.mv (.t 7)), none⟩, ⟨some 41, .q (.mv (.t 0)), none⟩, ⟨some 42, .e (.call 10 [(.t 41)]), none⟩, ⟨some 43, .e (.call 12 [(.t 40), (.t 42)]), none⟩, ⟨some 44, .q (.not (.t 43)), none⟩]
def c4_24 : List SOper := [⟨some 4, .q (.mv (.c (.bool false))), none⟩]
def c4_25 : SCode := .seq (.region c4_24 [4]) .ret
def c4_26 : SCode := .cond (.t 44) c4_25 .skip
def c4_27 : SCode := .seq (.region c4_23 [0, 1, 6, 7, 8, 9, 44]) c4_26
def c4_28 : List SOper := [⟨some 45, .q (.mv (.t 8)), none⟩, ⟨some 46, .q (.mv (.t 1)), none⟩, ⟨some 47, .e (.call 10 [(.t 46)]), none⟩, ⟨some 48, .e (.call 12 [(.t 45), (.t 47)]), none⟩, ⟨some 49, .q (.not (.t 48)), none⟩]
def c4_29 : List SOper := [⟨some 4, .q (.mv (.c (.bool false))), none⟩]
def c4_30 : SCode := .seq (.region c4_29 [4]) .ret
def c4_31 : SCode := .cond (.t 49) c4_30 .skip
def c4_32 : SCode := .seq (.region c4_28 [0, 1, 6, 7, 8, 9, 49]) c4_31
def c4_33 : List SOper := [⟨some 10, .q (.mv (.c (.int .i64 1))), none⟩]
def c4_34 : List SOper := [⟨some 50, .q (.mv (.t 7)), none⟩, ⟨some 51, .q (.mv (.t 10)), none⟩, ⟨some 52, .e (.call 15 [(.t 50), (.t 51)]), none⟩, ⟨some 10, .q (.mv (.t 52)), none⟩]
def c4_35 : List SOper := [⟨some 53, .q (.mv (.t 8)), none⟩, ⟨some 54, .q (.mv (.t 10)), none⟩, ⟨some 55, .e (.call 15 [(.t 53), (.t 54)]), none⟩, ⟨some 10, .q (.mv (.t 55)), none⟩]
def c4_36 : List SOper := [⟨some 56, .q (.mv (.t 10)), none⟩, ⟨some 57, .q (.bin .lss (.t 56) (.c (.int .i64 0))), none⟩, ⟨some 58, .q (.mv (.t 57)), none⟩, ⟨some 59, .q (.mv (.t 9)), some (58, false)⟩, ⟨some 60, .q (.mv (.t 6)), some (58, false)⟩, ⟨some 61, .e (.call 12 [(.t 59), (.t 60)]), some (58, false)⟩, ⟨some 62, .q (.not (.t 61)), some (58, false)⟩, ⟨some 63, .q (.pick (.t 58) (.c (.bool true)) (.t 62)), none⟩]
def c4_37 : List SOper := [⟨some 4, .q (.mv (.c (.bool false))), none⟩]
def c4_38 : SCode := .seq (.region c4_37 [4]) .ret
def c4_39 : SCode := .cond (.t 63) c4_38 .skip
def c4_40 : SCode := .seq (.region c4_36 [0, 1, 6, 9, 63]) c4_39
def c4_41 : List SOper := [⟨some 11, .q (.mv (.c (.int .i64 1))), none⟩]
def c4_42 : List SOper := [⟨some 64, .q (.mv (.t 9)), none⟩, ⟨some 65, .q (.mv (.t 11)), none⟩, ⟨some 66, .e (.call 15 [(.t 64), (.t 65)]), none⟩, ⟨some 11, .q (.mv (.t 66)), none⟩]
def c4_43 : List SOper := [⟨some 12, .q (.mv (.c (.int .i64 1))), none⟩]
def c4_44 : List SOper := [⟨some 67, .q (.mv (.t 9)), none⟩, ⟨some 68, .q (.mv (.t 12)), none⟩, ⟨some 69, .e (.call 16 [(.t 67), (.t 68)]), none⟩, ⟨some 12, .q (.mv (.t 69)), none⟩]
def c4_45 : List SOper := [⟨some 70, .q (.mv (.t 12)), none⟩, ⟨some 71, .q (.bin .lss (.t 70) (.c (.int .i64 0))), none⟩]
def c4_46 : List SOper := [⟨some 4, .q (.mv (.c (.bool false))), none⟩]
def c4_47 : SCode := .seq (.region c4_46 [4]) .ret
def c4_48 : SCode := .cond (.t 71) c4_47 .skip
def c4_49 : SCode := .seq (.region c4_45 [0, 1, 6, 9, 11, 12, 71]) c4_48
def c4_50 : List SOper := [⟨some 72, .q (.mv (.t 12)), none⟩, ⟨some 73, .q (.mv (.t 11)), none⟩, ⟨some 74, .q (.bin .neq (.t 72) (.t 73)), none⟩]
def c4_51 : List SOper := [⟨some 4, .q (.mv (.c (.bool false))), none⟩]
def c4_52 : SCode := .seq (.region c4_51 [4]) .ret
def c4_53 : SCode := .cond (.t 74) c4_52 .skip
def c4_54 : SCode := .seq (.region c4_50 [0, 1, 6, 9, 11, 74]) c4_53
def c4_55 : List SOper := [⟨some 75, .q (.mv (.t 0)), none⟩, ⟨some 76, .e (.call 10 [(.t 75)]), none⟩, ⟨some 77, .q (.mv (.t 1)), none⟩, ⟨some 78, .e (.call 10 [(.t 77)]), none⟩, ⟨some 79, .e (.call 14 [(.t 76), (.t 78)]), none⟩, ⟨some 13, .q (.mv (.t 79)), none⟩]
def c4_56 : List SOper := [⟨some 80, .q (.mv (.t 13)), none⟩, ⟨some 81, .q (.mv (.t 6)), none⟩, ⟨some 82, .e (.call 12 [(.t 80), (.t 81)]), none⟩, ⟨some 83, .q (.not (.t 82)), none⟩]
def c4_57 : List SOper := [⟨some 4, .q (.mv (.c (.bool false))), none⟩]
def c4_58 : SCode := .seq (.region c4_57 [4]) .ret
def c4_59 : SCode := .cond (.t 83) c4_58 .skip
def c4_60 : SCode := .seq (.region c4_56 [9, 11, 83]) c4_59
def c4_61 : List SOper := [⟨some 12, .q (.mv (.c (.int .i64 1))), none⟩]
def c4_62 : List SOper := [⟨some 84, .q (.mv (.t 9)), none⟩, ⟨some 85, .q (.mv (.t 12)), none⟩, ⟨some 86, .e (.call 16 [(.t 84), (.t 85)]), none⟩, ⟨some 12, .q (.mv (.t 86)), none⟩]
def c4_63 : List SOper := [⟨some 87, .q (.mv (.t 12)), none⟩, ⟨some 88, .q (.bin .lss (.t 87) (.c (.int .i64 0))), none⟩]
def c4_64 : List SOper := [⟨some 4, .q (.mv (.c (.bool false))), none⟩]
def c4_65 : SCode := .seq (.region c4_64 [4]) .ret
def c4_66 : SCode := .cond (.t 88) c4_65 .skip
def c4_67 : SCode := .seq (.region c4_63 [11, 12, 88]) c4_66
def c4_68 : List SOper := [⟨some 89, .q (.mv (.t 12)), none⟩, ⟨some 90, .q (.mv (.t 11)), none⟩, ⟨some 91, .q (.bin .neq (.t 89) (.t 90)), none⟩]
def c4_69 : List SOper := [⟨some 4, .q (.mv (.c (.bool false))), none⟩]
def c4_70 : SCode := .seq (.region c4_69 [4]) .ret
def c4_71 : SCode := .cond (.t 91) c4_70 .skip
def c4_72 : SCode := .seq (.region c4_68 [91]) c4_71
def c4_73 : List SOper := [⟨some 4, .q (.mv (.c (.bool true))), none⟩]
def c4_74 : SCode := .seq (.region c4_73 [4]) .ret
def c4_75 : SCode := .seq c4_72 c4_74
def c4_76 : SCode := .seq c4_67 c4_75
def c4_77 : SCode := .seq (.region c4_62 [11, 12]) c4_76
def c4_78 : SCode := .seq (.region c4_61 [9, 11, 12]) c4_77
def c4_79 : SCode := .seq c4_60 c4_78
def c4_80 : SCode := .seq (.region c4_55 [6, 9, 11, 13]) c4_79
def c4_81 : SCode := .seq c4_54 c4_80
def c4_82 : SCode := .seq c4_49 c4_81
def c4_83 : SCode := .seq (.region c4_44 [0, 1, 6, 9, 11, 12]) c4_82
def c4_84 : SCode := .seq (.region c4_43 [0, 1, 6, 9, 11, 12]) c4_83
def c4_85 : SCode := .seq (.region c4_42 [0, 1, 6, 9, 11]) c4_84
def c4_86 : SCode := .seq (.region c4_41 [0, 1, 6, 9, 11]) c4_85
def c4_87 : SCode := .seq c4_40 c4_86
def c4_88 : SCode := .seq (.region c4_35 [0, 1, 6, 9, 10]) c4_87
def c4_89 : SCode := .seq (.region c4_34 [0, 1, 6, 8, 9, 10]) c4_88
def c4_90 : SCode := .seq (.region c4_33 [0, 1, 6, 7, 8, 9, 10]) c4_89
def c4_91 : SCode := .seq c4_32 c4_90
def c4_92 : SCode := .seq c4_27 c4_91
def c4_93 : SCode := .seq c4_22 c4_92
def c4_94 : SCode := .seq (.region c4_17 [0, 1, 6, 7, 8, 9]) c4_93
def c4_95 : SCode := .seq (.region c4_16 [0, 1, 6, 7, 8]) c4_94
def c4_96 : SCode := .seq (.region c4_15 [0, 1, 6, 7]) c4_95
def c4_97 : SCode := .seq (.region c4_14 [0, 1, 6]) c4_96
def c4_98 : SCode := .seq c4_13 c4_97
def c4_99 : SCode := .seq (.region c4_8 [0, 1, 5]) c4_98
def c4_100 : SCode := .seq c4_7 c4_99
def c4_101 : SCode := .seq (.region c4_2 [0, 1, 5]) c4_100
def c4_102 : SCode := .seq (.region c4_1 [0, 1, 5]) c4_101
def c4_103 : SCode := .seq (.region c4_0 [0, 1]) c4_102
def c4 : SCode := c4_103
theorem w4 : type_of% (And.intro (uR Try.prog c4_0.eq_1) (And.intro (uR Try.prog c4_1.eq_1) (And.intro (uR Try.prog c4_2.eq_1) (And.intro (uR Try.prog c4_3.eq_1) (And.intro (uR Try.prog c4_4.eq_1) (And.intro (uC Try.prog c4_5.eq_1) (And.intro (uC Try.prog c4_6.eq_1) (And.intro (uC Try.prog c4_7.eq_1) (And.intro (uR Try.prog c4_8.eq_1) (And.intro (uR Try.prog c4_9.eq_1) (And.intro (uR Try.prog c4_10.eq_1) (And.intro (uC Try.prog c4_11.eq_1) (And.intro (uC Try.prog c4_12.eq_1) (And.intro (uC Try.prog c4_13.eq_1) (And.intro (uR Try.prog c4_14.eq_1) (And.intro (uR Try.prog c4_15.eq_1) (And.intro (uR Try.prog c4_16.eq_1) (And.intro (uR Try.prog c4_17.eq_1) (And.intro (uR Try.prog c4_18.eq_1) (And.intro (uR Try.prog c4_19.eq_1) (And.intro (uC Try.prog c4_20.eq_1) (And.intro (uC Try.prog c4_21.eq_1) (And.intro (uC Try.prog c4_22.eq_1) (And.intro (uR Try.prog c4_23.eq_1) (And.intro (uR Try.prog c4_24.eq_1) (And.intro (uC Try.prog c4_25.eq_1) (And.intro (uC Try.prog c4_26.eq_1) (And.intro (uC Try.prog c4_27.eq_1) (And.intro (uR Try.prog c4_28.eq_1) (And.intro (uR Try.prog c4_29.eq_1) (And.intro (uC Try.prog c4_30.eq_1) (And.intro (uC Try.prog c4_31.eq_1) (And.intro (uC Try.prog c4_32.eq_1) (And.intro (uR Try.prog c4_33.eq_1) (And.intro (uR Try.prog c4_34.eq_1) (And.intro (uR Try.prog c4_35.eq_1) (And.intro (uR Try.prog c4_36.eq_1) (And.intro (uR Try.prog c4_37.eq_1) (And.intro (uC Try.prog c4_38.eq_1) (And.intro (uC Try.prog c4_39.eq_1) (And.intro (uC Try.prog c4_40.eq_1) (And.intro (uR Try.prog c4_41.eq_1) (And.intro (uR Try.prog c4_42.eq_1) (And.intro (uR Try.prog c4_43.eq_1) (And.intro (uR Try.prog c4_44.eq_1) (And.intro (uR Try.prog c4_45.eq_1) (And.intro (uR Try.prog c4_46.eq_1) (And.intro (uC Try.prog c4_47.eq_1) (And.intro (uC Try.prog c4_48.eq_1) (And.intro (uC Try.prog c4_49.eq_1) (And.intro (uR Try.prog c4_50.eq_1) (And.intro (uR Try.prog c4_51.eq_1) (And.intro (uC Try.prog c4_52.eq_1) (And.intro (uC Try.prog c4_53.eq_1) (And.intro (uC Try.prog c4_54.eq_1) (And.intro (uR Try.prog c4_55.eq_1) (And.intro (uR Try.prog c4_56.eq_1) (And.intro (uR Try.prog c4_57.eq_1) (And.intro (uC Try.prog c4_58.eq_1) (And.intro (uC Try.prog c4_59.eq_1) (And.intro (uC Try.prog c4_60.eq_1) (And.intro (uR Try.prog c4_61.eq_1) (And.intro (uR Try.prog c4_62.eq_1) (And.intro (uR Try.prog c4_63.eq_1) (And.intro (uR Try.prog c4_64.eq_1) (And.intro (uC Try.prog c4_65.eq_1) (And.intro (uC Try.prog c4_66.eq_1) (And.intro (uC Try.prog c4_67.eq_1) (And.intro (uR Try.prog c4_68.eq_1) (And.intro (uR Try.prog c4_69.eq_1) (And.intro (uC Try.prog c4_70.eq_1) (And.intro (uC Try.prog c4_71.eq_1) (And.intro (uC Try.prog c4_72.eq_1) (And.intro (uR Try.prog c4_73.eq_1) (And.intro (uC Try.prog c4_74.eq_1) (And.intro (uC Try.prog c4_75.eq_1) (And.intro (uC Try.prog c4_76.eq_1) (And.intro (uC Try.prog c4_77.eq_1) (And.intro (uC Try.prog c4_78.eq_1) (And.intro (uC Try.prog c4_79.eq_1) (And.intro (uC Try.prog c4_80.eq_1) (And.intro (uC Try.prog c4_81.eq_1) (And.intro (uC Try.prog c4_82.eq_1) (And.intro (uC Try.prog c4_83.eq_1) (And.intro (uC Try.prog c4_84.eq_1) (And.intro (uC Try.prog c4_85.eq_1) (And.intro (uC Try.prog c4_86.eq_1) (And.intro (uC Try.prog c4_87.eq_1) (And.intro (uC Try.prog c4_88.eq_1) (And.intro (uC Try.prog c4_89.eq_1) (And.intro (uC Try.prog c4_90.eq_1) (And.intro (uC Try.prog c4_91.eq_1) (And.intro (uC Try.prog c4_92.eq_1) (And.intro (uC Try.prog c4_93.eq_1) (And.intro (uC Try.prog c4_94.eq_1) (And.intro (uC Try.prog c4_95.eq_1) (And.intro (uC Try.prog c4_96.eq_1) (And.intro (uC Try.prog c4_97.eq_1) (And.intro (uC Try.prog c4_98.eq_1) (And.intro (uC Try.prog c4_99.eq_1) (And.intro (uC Try.prog c4_100.eq_1) (And.intro (uC Try.prog c4_101.eq_1) (And.intro (uC Try.prog c4_102.eq_1) (And.intro (uC Try.prog c4_103.eq_1) (uC Try.prog c4.eq_1))))))))))))))))))))))))))))))))))))))))))))))))))))))))))))))))))))))))))))))))))))))))))))))))))))))))) := (And.intro (uR Try.prog c4_0.eq_1) (And.intro (uR Try.prog c4_1.eq_1) (And.intro (uR Try.prog c4_2.eq_1) (And.intro (uR Try.prog c4_3.eq_1) (And.intro (uR Try.prog c4_4.eq_1) (And.intro (uC Try.prog c4_5.eq_1) (And.intro (uC Try.prog c4_6.eq_1) (And.intro (uC Try.prog c4_7.eq_1) (And.intro (uR Try.prog c4_8.eq_1) (And.intro (uR Try.prog c4_9.eq_1) (And.intro (uR Try.prog c4_10.eq_1) (And.intro (uC Try.prog c4_11.eq_1) (And.intro (uC Try.prog c4_12.eq_1) (And.intro (uC Try.prog c4_13.eq_1) (And.intro (uR Try.prog c4_14.eq_1) (And.intro (uR Try.prog c4_15.eq_1) (And.intro (uR Try.prog c4_16.eq_1) (And.intro (uR Try.prog c4_17.eq_1) (And.intro (uR Try.prog c4_18.eq_1) (And.intro (uR Try.prog c4_19.eq_1) (And.intro (uC Try.prog c4_20.eq_1) (And.intro (uC Try.prog c4_21.eq_1) (And.intro (uC Try.prog c4_22.eq_1) (And.intro (uR Try.prog c4_23.eq_1) (And.intro (uR Try.prog c4_24.eq_1) (And.intro (uC Try.prog c4_25.eq_1) (And.intro (uC Try.prog c4_26.eq_1) (And.intro (uC Try.prog c4_27.eq_1) (And.intro (uR Try.prog c4_28.eq_1) (And.intro (uR Try.prog c4_29.eq_1) (And.intro (uC Try.prog c4_30.eq_1) (And.intro (uC Try.prog c4_31.eq_1) (And.intro (uC Try.prog c4_32.eq_1) (And.intro (uR Try.prog c4_33.eq_1) (And.intro (uR Try.prog c4_34.eq_1) (And.intro (uR Try.prog c4_35.eq_1) (And.intro (uR Try.prog c4_36.eq_1) (And.intro (uR Try.prog c4_37.eq_1) (And.intro (uC Try.prog c4_38.eq_1) (And.intro (uC Try.prog c4_39.eq_1) (And.intro (uC Try.prog c4_40.eq_1) (And.intro (uR Try.prog c4_41.eq_1) (And.intro (uR Try.prog c4_42.eq_1) (And.intro (uR Try.prog c4_43.eq_1) (And.intro (uR Try.prog c4_44.eq_1) (And.intro (uR Try.prog c4_45.eq_1) (And.intro (uR Try.prog c4_46.eq_1) (And.intro (uC Try.prog c4_47.eq_1) (And.intro (uC Try.prog c4_48.eq_1) (And.intro (uC Try.prog c4_49.eq_1) (And.intro (uR Try.prog c4_50.eq_1) (And.intro (uR Try.prog c4_51.eq_1) (And.intro (uC Try.prog c4_52.eq_1) (And.intro (uC Try.prog c4_53.eq_1) (And.intro (uC Try.prog c4_54.eq_1) (And.intro (uR Try.prog c4_55.eq_1) (And.intro (uR Try.prog c4_56.eq_1) (And.intro (uR Try.prog c4_57.eq_1) (And.intro (uC Try.prog c4_58.eq_1) (And.intro (uC Try.prog c4_59.eq_1) (And.intro (uC Try.prog c4_60.eq_1) (And.intro (uR Try.prog c4_61.eq_1) (And.intro (uR Try.prog c4_62.eq_1) (And.intro (uR Try.prog c4_63.eq_1) (And.intro (uR Try.prog c4_64.eq_1) (And.intro (uC Try.prog c4_65.eq_1) (And.intro (uC Try.prog c4_66.eq_1) (And.intro (uC Try.prog c4_67.eq_1) (And.intro (uR Try.prog c4_68.eq_1) (And.intro (uR Try.prog c4_69.eq_1) (And.intro (uC Try.prog c4_70.eq_1) (And.intro (uC Try.prog c4_71.eq_1) (And.intro (uC Try.prog c4_72.eq_1) (And.intro (uR Try.prog c4_73.eq_1) (And.intro (uC Try.prog c4_74.eq_1) (And.intro (uC Try.prog c4_75.eq_1) (And.intro (uC Try.prog c4_76.eq_1) (And.intro (uC Try.prog c4_77.eq_1) (And.intro (uC Try.prog c4_78.eq_1) (And.intro (uC Try.prog c4_79.eq_1) (And.intro (uC Try.prog c4_80.eq_1) (And.intro (uC Try.prog c4_81.eq_1) (And.intro (uC Try.prog c4_82.eq_1) (And.intro (uC Try.prog c4_83.eq_1) (And.intro (uC Try.prog c4_84.eq_1) (And.intro (uC Try.prog c4_85.eq_1) (And.intro (uC Try.prog c4_86.eq_1) (And.intro (uC Try.prog c4_87.eq_1) (And.intro (uC Try.prog c4_88.eq_1) (And.intro (uC Try.prog c4_89.eq_1) (And.intro (uC Try.prog c4_90.eq_1) (And.intro (uC Try.prog c4_91.eq_1) (And.intro (uC Try.prog c4_92.eq_1) (And.intro (uC Try.prog c4_93.eq_1) (And.intro (uC Try.prog c4_94.eq_1) (And.intro (uC Try.prog c4_95.eq_1) (And.intro (uC Try.prog c4_96.eq_1) (And.intro (uC Try.prog c4_97.eq_1) (And.intro (uC Try.prog c4_98.eq_1) (And.intro (uC Try.prog c4_99.eq_1) (And.intro (uC Try.prog c4_100.eq_1) (And.intro (uC Try.prog c4_101.eq_1) (And.intro (uC Try.prog c4_102.eq_1) (And.intro (uC Try.prog c4_103.eq_1) (uC Try.prog c4.eq_1)))))))))))))))))))))))))))))))))))))))))))))))))))))))))))))))))))))))))))))))))))))))))))))))))))))))))
def v4 : List RV := [.t 4]
theorem s4 : slimF Try.prog Try.f4 = some (c4.bare, v4) := by kernel_rfl

theorem FnExactMissing_ok (h : Heap) (va : Value) (a : List Reel) (vb : Value) (b : List Reel) (sa : SlT h encReel 3 va a) (hla : a.length ≤ 9223372036854775807) (sb : SlT h encReel 3 vb b) (hlb : b.length ≤ 9223372036854775807) :
    ACall Try.prog 4 [va, vb] h fun r h' => r = .bool true := by
  refine ACall.of Try.func4 s4 (of_decide_eq_true rfl) ?_
  simp (maxSteps := 4000000) (disch := omega) only [ah, am, Nat.reduceEqDiff, reduceCtorEq, Nat.reduceAdd, Nat.reduceLeDiff, Nat.reduceMul, Nat.reduceLT, if_true, if_false, true_and, and_true, and_self, Nat.reduceBEq, QOp.loads, boxO, bslO, buildO, cutL, fillV, putL, w4, v4]
  refine stepC.of (szReelS_ok _ va a (1048576) sa (by omega) (by omega) hla) ?_
  rintro _ Hx ⟨hx, rfl⟩; rw [hx]; clear hx Hx
  simp (maxSteps := 4000000) (disch := omega) only [ah, am, Nat.reduceEqDiff, reduceCtorEq, Nat.reduceAdd, Nat.reduceLeDiff, Nat.reduceMul, Nat.reduceLT, if_true, if_false, true_and, and_true, and_self, Nat.reduceBEq, QOp.loads, boxO, bslO, buildO, cutL, fillV, putL, w4, v4]
  by_cases hsz0 : (1048576 : Int) - a.length < 0
  · have hz : decide ((if (1048576 : Int) - a.length < 0 then -1 else 1048576 - (a.length : Int)) < 0) = true := by rw [if_pos hsz0]; rfl
    simp (maxSteps := 4000000) (disch := omega) only [ah, am, Nat.reduceEqDiff, reduceCtorEq, Nat.reduceAdd, Nat.reduceLeDiff, Nat.reduceMul, Nat.reduceLT, if_true, if_false, true_and, and_true, and_self, Nat.reduceBEq, QOp.loads, boxO, bslO, buildO, cutL, fillV, putL, w4, v4, hz]
  have hz0 : decide ((if (1048576 : Int) - a.length < 0 then -1 else 1048576 - (a.length : Int)) < 0) = false := by rw [if_neg hsz0]; exact decide_eq_false hsz0
  have hq0 : (if (1048576 : Int) - a.length < 0 then -1 else 1048576 - (a.length : Int)) = 1048576 - a.length := if_neg hsz0
  first | rw [hq0] at hz0 ⊢ | skip
  simp (maxSteps := 4000000) (disch := omega) only [ah, am, Nat.reduceEqDiff, reduceCtorEq, Nat.reduceAdd, Nat.reduceLeDiff, Nat.reduceMul, Nat.reduceLT, if_true, if_false, true_and, and_true, and_self, Nat.reduceBEq, QOp.loads, boxO, bslO, buildO, cutL, fillV, putL, w4, v4, hz0]
  clear hz0
  have hlla : a.length ≤ 1048576 := by omega
  refine stepC.of (szReelS_ok _ vb b (1048576 - a.length) sb (by omega) (by omega) hlb) ?_
  rintro _ Hx ⟨hx, rfl⟩; rw [hx]; clear hx Hx
  simp (maxSteps := 4000000) (disch := omega) only [ah, am, Nat.reduceEqDiff, reduceCtorEq, Nat.reduceAdd, Nat.reduceLeDiff, Nat.reduceMul, Nat.reduceLT, if_true, if_false, true_and, and_true, and_self, Nat.reduceBEq, QOp.loads, boxO, bslO, buildO, cutL, fillV, putL, w4, v4]
  by_cases hsz1 : (1048576 - a.length : Int) - b.length < 0
  · have hz : decide ((if (1048576 - a.length : Int) - b.length < 0 then -1 else 1048576 - a.length - (b.length : Int)) < 0) = true := by rw [if_pos hsz1]; rfl
    simp (maxSteps := 4000000) (disch := omega) only [ah, am, Nat.reduceEqDiff, reduceCtorEq, Nat.reduceAdd, Nat.reduceLeDiff, Nat.reduceMul, Nat.reduceLT, if_true, if_false, true_and, and_true, and_self, Nat.reduceBEq, QOp.loads, boxO, bslO, buildO, cutL, fillV, putL, w4, v4, hz]
  have hz1 : decide ((if (1048576 - a.length : Int) - b.length < 0 then -1 else 1048576 - a.length - (b.length : Int)) < 0) = false := by rw [if_neg hsz1]; exact decide_eq_false hsz1
  have hq1 : (if (1048576 - a.length : Int) - b.length < 0 then -1 else 1048576 - a.length - (b.length : Int)) = 1048576 - a.length - b.length := if_neg hsz1
  first | rw [hq1] at hz1 ⊢ | skip
  simp (maxSteps := 4000000) (disch := omega) only [ah, am, Nat.reduceEqDiff, reduceCtorEq, Nat.reduceAdd, Nat.reduceLeDiff, Nat.reduceMul, Nat.reduceLT, if_true, if_false, true_and, and_true, and_self, Nat.reduceBEq, QOp.loads, boxO, bslO, buildO, cutL, fillV, putL, w4, v4, hz1]
  clear hz1
  have hllb : b.length ≤ 1048576 := by omega
  have hF := missF_len a b
  refine stepC.of (toReelS_ok _ _ _ sa hlla) ?_
  intro tpa H1 Fpa
  have E1 := (show Ext h _ from Fpa.1)
  have zE1 := Fpa.1.1
  have Mpa := Fpa.mine
  simp (maxSteps := 4000000) (disch := omega) only [ah, am, Nat.reduceEqDiff, reduceCtorEq, Nat.reduceAdd, Nat.reduceLeDiff, Nat.reduceMul, Nat.reduceLT, if_true, if_false, true_and, and_true, and_self, Nat.reduceBEq, QOp.loads, boxO, bslO, buildO, cutL, fillV, putL, w4, v4]
  refine stepC.of (toReelS_ok _ _ _ (sb.ext E1) hllb) ?_
  intro tpb H2 Fpb
  have Mpa := Mpa.ext Fpb.1
  have E2 := Ext.trans E1 Fpb.1
  have zE2 := Fpb.1.1
  have Mpb := Fpb.mine
  simp (maxSteps := 4000000) (disch := omega) only [ah, am, Nat.reduceEqDiff, reduceCtorEq, Nat.reduceAdd, Nat.reduceLeDiff, Nat.reduceMul, Nat.reduceLT, if_true, if_false, true_and, and_true, and_self, Nat.reduceBEq, QOp.loads, boxO, bslO, buildO, cutL, fillV, putL, w4, v4]
  refine stepC.of (specMissing_ok _ _ _ a b Mpa.slt Mpb.slt) ?_
  intro w0 H3 Fw
  have Mpa := Mpa.ext Fw.1
  have Mpb := Mpb.ext Fw.1
  have E3 := Ext.trans E2 Fw.1
  have zE3 := Fw.1.1
  have Mw := Fw.mine
  simp (maxSteps := 4000000) (disch := omega) only [ah, am, Nat.reduceEqDiff, reduceCtorEq, Nat.reduceAdd, Nat.reduceLeDiff, Nat.reduceMul, Nat.reduceLT, if_true, if_false, true_and, and_true, and_self, Nat.reduceBEq, QOp.loads, boxO, bslO, buildO, cutL, fillV, putL, w4, v4]
  refine stepC.of (toReelS_ok _ _ _ (sa.ext E3) hlla) ?_
  intro txa H4 Fxa
  have Mw := Mw.ext Fxa.1
  have E4 := Ext.trans E3 Fxa.1
  have zE4 := Fxa.1.1
  have Mxa := Fxa.mine
  simp (maxSteps := 4000000) (disch := omega) only [ah, am, Nat.reduceEqDiff, reduceCtorEq, Nat.reduceAdd, Nat.reduceLeDiff, Nat.reduceMul, Nat.reduceLT, if_true, if_false, true_and, and_true, and_self, Nat.reduceBEq, QOp.loads, boxO, bslO, buildO, cutL, fillV, putL, w4, v4]
  refine stepC.of (toReelS_ok _ _ _ (sb.ext E4) hllb) ?_
  intro txb H5 Fxb
  have Mw := Mw.ext Fxb.1
  have Mxa := Mxa.ext Fxb.1
  have E5 := Ext.trans E4 Fxb.1
  have zE5 := Fxb.1.1
  have Mxb := Fxb.mine
  simp (maxSteps := 4000000) (disch := omega) only [ah, am, Nat.reduceEqDiff, reduceCtorEq, Nat.reduceAdd, Nat.reduceLeDiff, Nat.reduceMul, Nat.reduceLT, if_true, if_false, true_and, and_true, and_self, Nat.reduceBEq, QOp.loads, boxO, bslO, buildO, cutL, fillV, putL, w4, v4]
  refine stepC.of (Missing_ok _ _ _ a b Mxa.slt Mxb.slt) ?_
  intro g0 H6 Fg
  have Mw := Mw.ext Fg.1
  have Mxa := Mxa.ext Fg.1
  have Mxb := Mxb.ext Fg.1
  have E6 := Ext.trans E5 Fg.1
  have zE6 := Fg.1.1
  have Mg := Fg.mine
  generalize hR : missF a b = rl at Mw Mg hF
  simp (maxSteps := 4000000) (disch := omega) only [ah, am, Nat.reduceEqDiff, reduceCtorEq, Nat.reduceAdd, Nat.reduceLeDiff, Nat.reduceMul, Nat.reduceLT, if_true, if_false, true_and, and_true, and_self, Nat.reduceBEq, QOp.loads, boxO, bslO, buildO, cutL, fillV, putL, w4, v4]
  refine stepC.of (eqReelS_ok _ _ _ _ _ Mg.slt Mw.slt (by omega) (by omega)) ?_
  rintro _ H7 ⟨eH7, rfl⟩
  have Mw := Mw.ext eH7
  have Mxa := Mxa.ext eH7
  have Mxb := Mxb.ext eH7
  have Mg := Mg.ext eH7
  have E7 := Ext.trans E6 eH7
  have zE7 := eH7.1
  simp (maxSteps := 4000000) (disch := omega) only [ah, am, Nat.reduceEqDiff, reduceCtorEq, Nat.reduceAdd, Nat.reduceLeDiff, Nat.reduceMul, Nat.reduceLT, if_true, if_false, true_and, and_true, and_self, Nat.reduceBEq, QOp.loads, boxO, bslO, buildO, cutL, fillV, putL, w4, v4, eq_self, decide_true]
  refine stepC.of (toReelS_ok _ _ _ (sa.ext E7) hlla) ?_
  intro tya H8 Fya
  have Mw := Mw.ext Fya.1
  have Mxa := Mxa.ext Fya.1
  have Mxb := Mxb.ext Fya.1
  have Mg := Mg.ext Fya.1
  have E8 := Ext.trans E7 Fya.1
  have zE8 := Fya.1.1
  have Mya := Fya.mine
  simp (maxSteps := 4000000) (disch := omega) only [ah, am, Nat.reduceEqDiff, reduceCtorEq, Nat.reduceAdd, Nat.reduceLeDiff, Nat.reduceMul, Nat.reduceLT, if_true, if_false, true_and, and_true, and_self, Nat.reduceBEq, QOp.loads, boxO, bslO, buildO, cutL, fillV, putL, w4, v4]
  refine stepC.of (eqReelS_ok _ _ _ _ _ Mxa.slt Mya.slt (by omega) (by omega)) ?_
  rintro _ H9 ⟨eH9, rfl⟩
  have Mw := Mw.ext eH9
  have Mxa := Mxa.ext eH9
  have Mxb := Mxb.ext eH9
  have Mg := Mg.ext eH9
  have Mya := Mya.ext eH9
  have E9 := Ext.trans E8 eH9
  have zE9 := eH9.1
  simp (maxSteps := 4000000) (disch := omega) only [ah, am, Nat.reduceEqDiff, reduceCtorEq, Nat.reduceAdd, Nat.reduceLeDiff, Nat.reduceMul, Nat.reduceLT, if_true, if_false, true_and, and_true, and_self, Nat.reduceBEq, QOp.loads, boxO, bslO, buildO, cutL, fillV, putL, w4, v4, eq_self, decide_true]
  refine stepC.of (toReelS_ok _ _ _ (sb.ext E9) hllb) ?_
  intro tyb H10 Fyb
  have Mw := Mw.ext Fyb.1
  have Mxa := Mxa.ext Fyb.1
  have Mxb := Mxb.ext Fyb.1
  have Mg := Mg.ext Fyb.1
  have E10 := Ext.trans E9 Fyb.1
  have zE10 := Fyb.1.1
  have Myb := Fyb.mine
  simp (maxSteps := 4000000) (disch := omega) only [ah, am, Nat.reduceEqDiff, reduceCtorEq, Nat.reduceAdd, Nat.reduceLeDiff, Nat.reduceMul, Nat.reduceLT, if_true, if_false, true_and, and_true, and_self, Nat.reduceBEq, QOp.loads, boxO, bslO, buildO, cutL, fillV, putL, w4, v4]
  refine stepC.of (eqReelS_ok _ _ _ _ _ Mxb.slt Myb.slt (by omega) (by omega)) ?_
  rintro _ H11 ⟨eH11, rfl⟩
  have Mw := Mw.ext eH11
  have Mxa := Mxa.ext eH11
  have Mxb := Mxb.ext eH11
  have Mg := Mg.ext eH11
  have Myb := Myb.ext eH11
  have E11 := Ext.trans E10 eH11
  have zE11 := eH11.1
  simp (maxSteps := 4000000) (disch := omega) only [ah, am, Nat.reduceEqDiff, reduceCtorEq, Nat.reduceAdd, Nat.reduceLeDiff, Nat.reduceMul, Nat.reduceLT, if_true, if_false, true_and, and_true, and_self, Nat.reduceBEq, QOp.loads, boxO, bslO, buildO, cutL, fillV, putL, w4, v4, eq_self, decide_true]
  refine stepC.of (markReelS_mine (1) Mxa (by omega) (by omega)) ?_
  rintro _ H12 ⟨cH12, Mxa', rfl⟩
  have Mw := Mw.chg cH12 (by omega)
  have Mxb := Mxb.chg cH12 (by omega)
  have Mg := Mg.chg cH12 (by omega)
  have Mxa := Mxa'
  have E12 := cH12.ext E11 (by omega)
  have zE12 := cH12.1
  simp (maxSteps := 4000000) (disch := omega) only [ah, am, Nat.reduceEqDiff, reduceCtorEq, Nat.reduceAdd, Nat.reduceLeDiff, Nat.reduceMul, Nat.reduceLT, if_true, if_false, true_and, and_true, and_self, Nat.reduceBEq, QOp.loads, boxO, bslO, buildO, cutL, fillV, putL, w4, v4]
  refine stepC.of (markReelS_mine (1 + 3 * a.length) Mxb (by omega) (by omega)) ?_
  rintro _ H13 ⟨cH13, Mxb', rfl⟩
  have Mw := Mw.chg cH13 (by omega)
  have Mxa := Mxa.chg cH13 (by omega)
  have Mg := Mg.chg cH13 (by omega)
  have Mxb := Mxb'
  have E13 := cH13.ext E12 (by omega)
  have zE13 := cH13.1
  have hk : decide (((1 : Int) + 3 * a.length + 3 * b.length : Int) < 0) = false := decide_eq_false (by omega)
  simp (maxSteps := 4000000) (disch := omega) only [ah, am, Nat.reduceEqDiff, reduceCtorEq, Nat.reduceAdd, Nat.reduceLeDiff, Nat.reduceMul, Nat.reduceLT, if_true, if_false, true_and, and_true, and_self, Nat.reduceBEq, QOp.loads, boxO, bslO, buildO, cutL, fillV, putL, w4, v4, hk]
  refine stepC.of (eqReelS_ok _ _ _ _ _ Mg.slt Mw.slt (by omega) (by omega)) ?_
  rintro _ H14 ⟨eH14, rfl⟩
  have Mw := Mw.ext eH14
  have Mxa := Mxa.ext eH14
  have Mxb := Mxb.ext eH14
  have Mg := Mg.ext eH14
  have E14 := Ext.trans E13 eH14
  have zE14 := eH14.1
  simp (maxSteps := 4000000) (disch := omega) only [ah, am, Nat.reduceEqDiff, reduceCtorEq, Nat.reduceAdd, Nat.reduceLeDiff, Nat.reduceMul, Nat.reduceLT, if_true, if_false, true_and, and_true, and_self, Nat.reduceBEq, QOp.loads, boxO, bslO, buildO, cutL, fillV, putL, w4, v4, eq_self, decide_true]
  refine stepC.of (markReelS_mine (1) Mg (by omega) (by omega)) ?_
  rintro _ H15 ⟨cH15, Mg', rfl⟩
  have Mw := Mw.chg cH15 (by omega)
  have Mg := Mg'
  have E15 := cH15.ext E14 (by omega)
  have zE15 := cH15.1
  have hm : decide ((1 : Int) + 3 * rl.length < 0) = false := decide_eq_false (by omega)
  simp (maxSteps := 4000000) (disch := omega) only [ah, am, Nat.reduceEqDiff, reduceCtorEq, Nat.reduceAdd, Nat.reduceLeDiff, Nat.reduceMul, Nat.reduceLT, if_true, if_false, true_and, and_true, and_self, Nat.reduceBEq, QOp.loads, boxO, bslO, buildO, cutL, fillV, putL, w4, v4]
  refine stepC.of (heldReelS_ok _ _ _ 1 Mg.slt (by omega) (by omega)) ?_
  rintro _ Hx ⟨hx, rfl⟩; rw [hx]; clear hx Hx
  simp (maxSteps := 4000000) (disch := omega) only [ah, am, Nat.reduceEqDiff, reduceCtorEq, Nat.reduceAdd, Nat.reduceLeDiff, Nat.reduceMul, Nat.reduceLT, if_true, if_false, true_and, and_true, and_self, Nat.reduceBEq, QOp.loads, boxO, bslO, buildO, cutL, fillV, putL, w4, v4, hm, eq_self, decide_true]
  refine stepC.of (toReelS_ok _ _ _ (sa.ext E15) hlla) ?_
  intro tqa H16 Fqa
  have Mw := Mw.ext Fqa.1
  have Mg := Mg.ext Fqa.1
  have E16 := Ext.trans E15 Fqa.1
  have zE16 := Fqa.1.1
  have Mqa := Fqa.mine
  simp (maxSteps := 4000000) (disch := omega) only [ah, am, Nat.reduceEqDiff, reduceCtorEq, Nat.reduceAdd, Nat.reduceLeDiff, Nat.reduceMul, Nat.reduceLT, if_true, if_false, true_and, and_true, and_self, Nat.reduceBEq, QOp.loads, boxO, bslO, buildO, cutL, fillV, putL, w4, v4]
  refine stepC.of (toReelS_ok _ _ _ (sb.ext E16) hllb) ?_
  intro tqb H17 Fqb
  have Mw := Mw.ext Fqb.1
  have Mg := Mg.ext Fqb.1
  have Mqa := Mqa.ext Fqb.1
  have E17 := Ext.trans E16 Fqb.1
  have zE17 := Fqb.1.1
  have Mqb := Fqb.mine
  simp (maxSteps := 4000000) (disch := omega) only [ah, am, Nat.reduceEqDiff, reduceCtorEq, Nat.reduceAdd, Nat.reduceLeDiff, Nat.reduceMul, Nat.reduceLT, if_true, if_false, true_and, and_true, and_self, Nat.reduceBEq, QOp.loads, boxO, bslO, buildO, cutL, fillV, putL, w4, v4]
  refine stepC.of (Missing_ok _ _ _ a b Mqa.slt Mqb.slt) ?_
  intro k0 H18 Fk
  have Mw := Mw.ext Fk.1
  have Mg := Mg.ext Fk.1
  have Mqa := Mqa.ext Fk.1
  have Mqb := Mqb.ext Fk.1
  have E18 := Ext.trans E17 Fk.1
  have zE18 := Fk.1.1
  have Mk := Fk.mine
  rw [hR] at Mk
  simp (maxSteps := 4000000) (disch := omega) only [ah, am, Nat.reduceEqDiff, reduceCtorEq, Nat.reduceAdd, Nat.reduceLeDiff, Nat.reduceMul, Nat.reduceLT, if_true, if_false, true_and, and_true, and_self, Nat.reduceBEq, QOp.loads, boxO, bslO, buildO, cutL, fillV, putL, w4, v4]
  refine stepC.of (eqReelS_ok _ _ _ _ _ Mk.slt Mw.slt (by omega) (by omega)) ?_
  rintro _ H19 ⟨eH19, rfl⟩
  have Mw := Mw.ext eH19
  have Mg := Mg.ext eH19
  have Mqa := Mqa.ext eH19
  have Mqb := Mqb.ext eH19
  have Mk := Mk.ext eH19
  have E19 := Ext.trans E18 eH19
  have zE19 := eH19.1
  simp (maxSteps := 4000000) (disch := omega) only [ah, am, Nat.reduceEqDiff, reduceCtorEq, Nat.reduceAdd, Nat.reduceLeDiff, Nat.reduceMul, Nat.reduceLT, if_true, if_false, true_and, and_true, and_self, Nat.reduceBEq, QOp.loads, boxO, bslO, buildO, cutL, fillV, putL, w4, v4, eq_self, decide_true]
  refine stepC.of (heldReelS_ok _ _ _ 1 Mg.slt (by omega) (by omega)) ?_
  rintro _ Hx ⟨hx, rfl⟩; rw [hx]; clear hx Hx
  simp (maxSteps := 4000000) (disch := omega) only [ah, am, Nat.reduceEqDiff, reduceCtorEq, Nat.reduceAdd, Nat.reduceLeDiff, Nat.reduceMul, Nat.reduceLT, if_true, if_false, true_and, and_true, and_self, Nat.reduceBEq, QOp.loads, boxO, bslO, buildO, cutL, fillV, putL, w4, v4, hm, eq_self, decide_true]
end Go.Proofs.Ytmippcfdakjhfaa
