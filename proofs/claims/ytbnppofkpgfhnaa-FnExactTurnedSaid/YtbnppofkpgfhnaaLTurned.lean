import Derived.Test.YtbnppofkpgfhnaaC3
import Derived.Test.YtbnppofkpgfhnaaL0
namespace Go.Proofs.Ytbnppofkpgfhnaa
open Go Go.Ah
set_option linter.unusedSimpArgs false
set_option linter.unusedVariables false
set_option maxRecDepth 10000
set_option maxHeartbeats 4000000
/-! 6 loop.example/g00066/laws.FnExactTurned: parameters 2, live [0, 1], slots [0:aA, 1:aList, 2:aA, 3:aList, 5:left, 6:w0, 7:w1, 8:x0, 9:x1, 10:g0, 11:g1, 12:k, 13:m, 14:q, 15:h0, 16:h1] -/
def c6_0 : List SOper := [⟨some 4, .q (.mv (.c (.bool false))), none⟩]
def c6_1 : List SOper := [⟨some 5, .q (.mv (.c (.int .i64 1048576))), none⟩]
def c6_2 : List SOper := [⟨some 17, .q (.mv (.t 0)), none⟩, ⟨some 18, .q (.mv (.t 5)), none⟩, ⟨some 19, .e (.call 20 [(.t 17), (.t 18)]), none⟩, ⟨some 5, .q (.mv (.t 19)), none⟩]
def c6_3 : List SOper := [⟨some 20, .q (.mv (.t 5)), none⟩, ⟨some 21, .q (.bin .lss (.t 20) (.c (.int .i64 0))), none⟩]
def c6_4 : List SOper := [⟨some 4, .q (.mv (.c (.bool true))), none⟩]
def c6_5 : SCode := .seq (.region c6_4 [4]) .ret
def c6_6 : SCode := .cond (.t 21) c6_5 .skip
def c6_7 : SCode := .seq (.region c6_3 [0, 1, 5, 21]) c6_6
def c6_8 : List SOper := [⟨some 22, .q (.mv (.t 1)), none⟩, ⟨some 23, .q (.mv (.t 5)), none⟩, ⟨some 24, .e (.call 21 [(.t 22), (.t 23)]), none⟩, ⟨some 5, .q (.mv (.t 24)), none⟩]
def c6_9 : List SOper := [⟨some 25, .q (.mv (.t 5)), none⟩, ⟨some 26, .q (.bin .lss (.t 25) (.c (.int .i64 0))), none⟩]
def c6_10 : List SOper := [⟨some 4, .q (.mv (.c (.bool true))), none⟩]
def c6_11 : SCode := .seq (.region c6_10 [4]) .ret
def c6_12 : SCode := .cond (.t 26) c6_11 .skip
def c6_13 : SCode := .seq (.region c6_9 [0, 1, 26]) c6_12
def c6_14 : List SOper := [⟨some 28, .q (.mv (.t 0)), none⟩, ⟨some 29, .e (.call 23 [(.t 28)]), none⟩, ⟨some 30, .q (.mv (.t 1)), none⟩, ⟨some 31, .e (.call 24 [(.t 30)]), none⟩, ⟨some 32, .e (.call 31 [(.t 29), (.t 31)]), none⟩, ⟨some 27, .q (.mv (.t 32)), none⟩, ⟨some 33, .q (.ext (.t 27) 0), none⟩, ⟨some 34, .q (.ext (.t 27) 1), none⟩, ⟨some 6, .q (.mv (.t 33)), none⟩, ⟨some 7, .q (.mv (.t 34)), none⟩]
def c6_15 : List SOper := [⟨some 35, .q (.mv (.t 0)), none⟩, ⟨some 36, .e (.call 23 [(.t 35)]), none⟩, ⟨some 8, .q (.mv (.t 36)), none⟩]
def c6_16 : List SOper := [⟨some 37, .q (.mv (.t 1)), none⟩, ⟨some 38, .e (.call 24 [(.t 37)]), none⟩, ⟨some 9, .q (.mv (.t 38)), none⟩]
def c6_17 : List SOper := [⟨some 40, .q (.mv (.t 8)), none⟩, ⟨some 41, .q (.mv (.t 9)), none⟩, ⟨some 42, .e (.call 16 [(.t 40), (.t 41)]), none⟩, ⟨some 39, .q (.mv (.t 42)), none⟩, ⟨some 43, .q (.ext (.t 39) 0), none⟩, ⟨some 44, .q (.ext (.t 39) 1), none⟩, ⟨some 10, .q (.mv (.t 43)), none⟩, ⟨some 11, .q (.mv (.t 44)), none⟩]
def c6_18 : List SOper := [⟨some 45, .q (.mv (.t 10)), none⟩, ⟨some 46, .q (.mv (.t 6)), none⟩, ⟨some 47, .e (.call 26 [(.t 45), (.t 46)]), none⟩, ⟨some 48, .q (.not (.t 47)), none⟩, ⟨some 49, .q (.mv (.t 48)), none⟩, ⟨some 50, .q (.mv (.t 11)), some (49, false)⟩, ⟨some 51, .q (.mv (.t 7)), some (49, false)⟩, ⟨some 52, .q (.eqb true (.t 50) (.t 51)), some (49, false)⟩, ⟨some 53, .q (.pick (.t 49) (.c (.bool true)) (.t 52)), none⟩]
def c6_19 : List SOper := [⟨some 4, .q (.mv (.c (.bool false))), none⟩]
def c6_20 : SCode := .seq (.region c6_19 [4]) .ret
def c6_21 : SCode := .cond (.t 53) c6_20 .skip
def c6_22 : SCode := .seq (.region c6_18 [0, 1, 6, 7, 8, 9, 10, 11, 53]) c6_21
def c6_23 : List SOper := [⟨some 54, .q (.mv (.t 8)), none⟩, ⟨some 55, .q (.mv (.t 0)), none⟩, ⟨some 56, .e (.call 23 [(.t 55)]), none⟩, ⟨some 57, .e (.call 25 [(.t 54), (.t 56)]), none⟩, ⟨some 58, .q (.not (.t 57)), none⟩]
def c6_24 : List SOper := [⟨some 4, .q (.mv (.c (.bool false))), none⟩]
def c6_25 : SCode := .seq (.region c6_24 [4]) .ret
def c6_26 : SCode := .cond (.t 58) c6_25 .skip
def c6_27 : SCode := .seq (.region c6_23 [0, 1, 6, 7, 8, 9, 10, 11, 58]) c6_26
def c6_28 : List SOper := [⟨some 59, .q (.mv (.t 9)), none⟩, ⟨some 60, .q (.mv (.t 1)), none⟩, ⟨some 61, .e (.call 24 [(.t 60)]), none⟩, ⟨some 62, .e (.call 26 [(.t 59), (.t 61)]), none⟩, ⟨some 63, .q (.not (.t 62)), none⟩]
def c6_29 : List SOper := [⟨some 4, .q (.mv (.c (.bool false))), none⟩]
def c6_30 : SCode := .seq (.region c6_29 [4]) .ret
def c6_31 : SCode := .cond (.t 63) c6_30 .skip
def c6_32 : SCode := .seq (.region c6_28 [0, 1, 6, 7, 8, 9, 10, 11, 63]) c6_31
def c6_33 : List SOper := [⟨some 12, .q (.mv (.c (.int .i64 1))), none⟩]
def c6_34 : List SOper := [⟨some 64, .q (.mv (.t 8)), none⟩, ⟨some 65, .q (.mv (.t 12)), none⟩, ⟨some 66, .e (.call 27 [(.t 64), (.t 65)]), none⟩, ⟨some 12, .q (.mv (.t 66)), none⟩]
def c6_35 : List SOper := [⟨some 67, .q (.mv (.t 9)), none⟩, ⟨some 68, .q (.mv (.t 12)), none⟩, ⟨some 69, .e (.call 28 [(.t 67), (.t 68)]), none⟩, ⟨some 12, .q (.mv (.t 69)), none⟩]
def c6_36 : List SOper := [⟨some 70, .q (.mv (.t 12)), none⟩, ⟨some 71, .q (.bin .lss (.t 70) (.c (.int .i64 0))), none⟩, ⟨some 72, .q (.mv (.t 71)), none⟩, ⟨some 73, .q (.mv (.t 10)), some (72, false)⟩, ⟨some 74, .q (.mv (.t 6)), some (72, false)⟩, ⟨some 75, .e (.call 26 [(.t 73), (.t 74)]), some (72, false)⟩, ⟨some 76, .q (.not (.t 75)), some (72, false)⟩, ⟨some 77, .q (.pick (.t 72) (.c (.bool true)) (.t 76)), none⟩, ⟨some 78, .q (.mv (.t 77)), none⟩, ⟨some 79, .q (.mv (.t 11)), some (78, false)⟩, ⟨some 80, .q (.mv (.t 7)), some (78, false)⟩, ⟨some 81, .q (.eqb true (.t 79) (.t 80)), some (78, false)⟩, ⟨some 82, .q (.pick (.t 78) (.c (.bool true)) (.t 81)), none⟩]
def c6_37 : List SOper := [⟨some 4, .q (.mv (.c (.bool false))), none⟩]
def c6_38 : SCode := .seq (.region c6_37 [4]) .ret
def c6_39 : SCode := .cond (.t 82) c6_38 .skip
def c6_40 : SCode := .seq (.region c6_36 [0, 1, 6, 7, 10, 82]) c6_39
def c6_41 : List SOper := [⟨some 13, .q (.mv (.c (.int .i64 1))), none⟩]
def c6_42 : List SOper := [⟨some 83, .q (.mv (.t 10)), none⟩, ⟨some 84, .q (.mv (.t 13)), none⟩, ⟨some 85, .e (.call 28 [(.t 83), (.t 84)]), none⟩, ⟨some 13, .q (.mv (.t 85)), none⟩]
def c6_43 : List SOper := [⟨some 14, .q (.mv (.c (.int .i64 1))), none⟩]
def c6_44 : List SOper := [⟨some 86, .q (.mv (.t 10)), none⟩, ⟨some 87, .q (.mv (.t 14)), none⟩, ⟨some 88, .e (.call 30 [(.t 86), (.t 87)]), none⟩, ⟨some 14, .q (.mv (.t 88)), none⟩]
def c6_45 : List SOper := [⟨some 89, .q (.mv (.t 14)), none⟩, ⟨some 90, .q (.bin .lss (.t 89) (.c (.int .i64 0))), none⟩]
def c6_46 : List SOper := [⟨some 4, .q (.mv (.c (.bool false))), none⟩]
def c6_47 : SCode := .seq (.region c6_46 [4]) .ret
def c6_48 : SCode := .cond (.t 90) c6_47 .skip
def c6_49 : SCode := .seq (.region c6_45 [0, 1, 6, 7, 10, 13, 14, 90]) c6_48
def c6_50 : List SOper := [⟨some 91, .q (.mv (.t 14)), none⟩, ⟨some 92, .q (.mv (.t 13)), none⟩, ⟨some 93, .q (.bin .neq (.t 91) (.t 92)), none⟩]
def c6_51 : List SOper := [⟨some 4, .q (.mv (.c (.bool false))), none⟩]
def c6_52 : SCode := .seq (.region c6_51 [4]) .ret
def c6_53 : SCode := .cond (.t 93) c6_52 .skip
def c6_54 : SCode := .seq (.region c6_50 [0, 1, 6, 7, 10, 13, 93]) c6_53
def c6_55 : List SOper := [⟨some 95, .q (.mv (.t 0)), none⟩, ⟨some 96, .e (.call 23 [(.t 95)]), none⟩, ⟨some 97, .q (.mv (.t 1)), none⟩, ⟨some 98, .e (.call 24 [(.t 97)]), none⟩, ⟨some 99, .e (.call 16 [(.t 96), (.t 98)]), none⟩, ⟨some 94, .q (.mv (.t 99)), none⟩, ⟨some 100, .q (.ext (.t 94) 0), none⟩, ⟨some 101, .q (.ext (.t 94) 1), none⟩, ⟨some 15, .q (.mv (.t 100)), none⟩, ⟨some 16, .q (.mv (.t 101)), none⟩]
def c6_56 : List SOper := [⟨some 102, .q (.mv (.t 15)), none⟩, ⟨some 103, .q (.mv (.t 6)), none⟩, ⟨some 104, .e (.call 26 [(.t 102), (.t 103)]), none⟩, ⟨some 105, .q (.not (.t 104)), none⟩, ⟨some 106, .q (.mv (.t 105)), none⟩, ⟨some 107, .q (.mv (.t 16)), some (106, false)⟩, ⟨some 108, .q (.mv (.t 7)), some (106, false)⟩, ⟨some 109, .q (.eqb true (.t 107) (.t 108)), some (106, false)⟩, ⟨some 110, .q (.pick (.t 106) (.c (.bool true)) (.t 109)), none⟩]
def c6_57 : List SOper := [⟨some 4, .q (.mv (.c (.bool false))), none⟩]
def c6_58 : SCode := .seq (.region c6_57 [4]) .ret
def c6_59 : SCode := .cond (.t 110) c6_58 .skip
def c6_60 : SCode := .seq (.region c6_56 [10, 13, 110]) c6_59
def c6_61 : List SOper := [⟨some 14, .q (.mv (.c (.int .i64 1))), none⟩]
def c6_62 : List SOper := [⟨some 111, .q (.mv (.t 10)), none⟩, ⟨some 112, .q (.mv (.t 14)), none⟩, ⟨some 113, .e (.call 30 [(.t 111), (.t 112)]), none⟩, ⟨some 14, .q (.mv (.t 113)), none⟩]
def c6_63 : List SOper := [⟨some 114, .q (.mv (.t 14)), none⟩, ⟨some 115, .q (.bin .lss (.t 114) (.c (.int .i64 0))), none⟩]
def c6_64 : List SOper := [⟨some 4, .q (.mv (.c (.bool false))), none⟩]
def c6_65 : SCode := .seq (.region c6_64 [4]) .ret
def c6_66 : SCode := .cond (.t 115) c6_65 .skip
def c6_67 : SCode := .seq (.region c6_63 [13, 14, 115]) c6_66
def c6_68 : List SOper := [⟨some 116, .q (.mv (.t 14)), none⟩, ⟨some 117, .q (.mv (.t 13)), none⟩, ⟨some 118, .q (.bin .neq (.t 116) (.t 117)), none⟩]
def c6_69 : List SOper := [⟨some 4, .q (.mv (.c (.bool false))), none⟩]
def c6_70 : SCode := .seq (.region c6_69 [4]) .ret
def c6_71 : SCode := .cond (.t 118) c6_70 .skip
def c6_72 : SCode := .seq (.region c6_68 [118]) c6_71
def c6_73 : List SOper := [⟨some 4, .q (.mv (.c (.bool true))), none⟩]
def c6_74 : SCode := .seq (.region c6_73 [4]) .ret
def c6_75 : SCode := .seq c6_72 c6_74
def c6_76 : SCode := .seq c6_67 c6_75
def c6_77 : SCode := .seq (.region c6_62 [13, 14]) c6_76
def c6_78 : SCode := .seq (.region c6_61 [10, 13, 14]) c6_77
def c6_79 : SCode := .seq c6_60 c6_78
def c6_80 : SCode := .seq (.region c6_55 [6, 7, 10, 13, 15, 16]) c6_79
def c6_81 : SCode := .seq c6_54 c6_80
def c6_82 : SCode := .seq c6_49 c6_81
def c6_83 : SCode := .seq (.region c6_44 [0, 1, 6, 7, 10, 13, 14]) c6_82
def c6_84 : SCode := .seq (.region c6_43 [0, 1, 6, 7, 10, 13, 14]) c6_83
def c6_85 : SCode := .seq (.region c6_42 [0, 1, 6, 7, 10, 13]) c6_84
def c6_86 : SCode := .seq (.region c6_41 [0, 1, 6, 7, 10, 13]) c6_85
def c6_87 : SCode := .seq c6_40 c6_86
def c6_88 : SCode := .seq (.region c6_35 [0, 1, 6, 7, 10, 11, 12]) c6_87
def c6_89 : SCode := .seq (.region c6_34 [0, 1, 6, 7, 9, 10, 11, 12]) c6_88
def c6_90 : SCode := .seq (.region c6_33 [0, 1, 6, 7, 8, 9, 10, 11, 12]) c6_89
def c6_91 : SCode := .seq c6_32 c6_90
def c6_92 : SCode := .seq c6_27 c6_91
def c6_93 : SCode := .seq c6_22 c6_92
def c6_94 : SCode := .seq (.region c6_17 [0, 1, 6, 7, 8, 9, 10, 11]) c6_93
def c6_95 : SCode := .seq (.region c6_16 [0, 1, 6, 7, 8, 9]) c6_94
def c6_96 : SCode := .seq (.region c6_15 [0, 1, 6, 7, 8]) c6_95
def c6_97 : SCode := .seq (.region c6_14 [0, 1, 6, 7]) c6_96
def c6_98 : SCode := .seq c6_13 c6_97
def c6_99 : SCode := .seq (.region c6_8 [0, 1, 5]) c6_98
def c6_100 : SCode := .seq c6_7 c6_99
def c6_101 : SCode := .seq (.region c6_2 [0, 1, 5]) c6_100
def c6_102 : SCode := .seq (.region c6_1 [0, 1, 5]) c6_101
def c6_103 : SCode := .seq (.region c6_0 [0, 1]) c6_102
def c6 : SCode := c6_103
theorem w6 : type_of% (And.intro (uR Try.prog c6_0.eq_1) (And.intro (uR Try.prog c6_1.eq_1) (And.intro (uR Try.prog c6_2.eq_1) (And.intro (uR Try.prog c6_3.eq_1) (And.intro (uR Try.prog c6_4.eq_1) (And.intro (uC Try.prog c6_5.eq_1) (And.intro (uC Try.prog c6_6.eq_1) (And.intro (uC Try.prog c6_7.eq_1) (And.intro (uR Try.prog c6_8.eq_1) (And.intro (uR Try.prog c6_9.eq_1) (And.intro (uR Try.prog c6_10.eq_1) (And.intro (uC Try.prog c6_11.eq_1) (And.intro (uC Try.prog c6_12.eq_1) (And.intro (uC Try.prog c6_13.eq_1) (And.intro (uR Try.prog c6_14.eq_1) (And.intro (uR Try.prog c6_15.eq_1) (And.intro (uR Try.prog c6_16.eq_1) (And.intro (uR Try.prog c6_17.eq_1) (And.intro (uR Try.prog c6_18.eq_1) (And.intro (uR Try.prog c6_19.eq_1) (And.intro (uC Try.prog c6_20.eq_1) (And.intro (uC Try.prog c6_21.eq_1) (And.intro (uC Try.prog c6_22.eq_1) (And.intro (uR Try.prog c6_23.eq_1) (And.intro (uR Try.prog c6_24.eq_1) (And.intro (uC Try.prog c6_25.eq_1) (And.intro (uC Try.prog c6_26.eq_1) (And.intro (uC Try.prog c6_27.eq_1) (And.intro (uR Try.prog c6_28.eq_1) (And.intro (uR Try.prog c6_29.eq_1) (And.intro (uC Try.prog c6_30.eq_1) (And.intro (uC Try.prog c6_31.eq_1) (And.intro (uC Try.prog c6_32.eq_1) (And.intro (uR Try.prog c6_33.eq_1) (And.intro (uR Try.prog c6_34.eq_1) (And.intro (uR Try.prog c6_35.eq_1) (And.intro (uR Try.prog c6_36.eq_1) (And.intro (uR Try.prog c6_37.eq_1) (And.intro (uC Try.prog c6_38.eq_1) (And.intro (uC Try.prog c6_39.eq_1) (And.intro (uC Try.prog c6_40.eq_1) (And.intro (uR Try.prog c6_41.eq_1) (And.intro (uR Try.prog c6_42.eq_1) (And.intro (uR Try.prog c6_43.eq_1) (And.intro (uR Try.prog c6_44.eq_1) (And.intro (uR Try.prog c6_45.eq_1) (And.intro (uR Try.prog c6_46.eq_1) (And.intro (uC Try.prog c6_47.eq_1) (And.intro (uC Try.prog c6_48.eq_1) (And.intro (uC Try.prog c6_49.eq_1) (And.intro (uR Try.prog c6_50.eq_1) (And.intro (uR Try.prog c6_51.eq_1) (And.intro (uC Try.prog c6_52.eq_1) (And.intro (uC Try.prog c6_53.eq_1) (And.intro (uC Try.prog c6_54.eq_1) (And.intro (uR Try.prog c6_55.eq_1) (And.intro (uR Try.prog c6_56.eq_1) (And.intro (uR Try.prog c6_57.eq_1) (And.intro (uC Try.prog c6_58.eq_1) (And.intro (uC Try.prog c6_59.eq_1) (And.intro (uC Try.prog c6_60.eq_1) (And.intro (uR Try.prog c6_61.eq_1) (And.intro (uR Try.prog c6_62.eq_1) (And.intro (uR Try.prog c6_63.eq_1) (And.intro (uR Try.prog c6_64.eq_1) (And.intro (uC Try.prog c6_65.eq_1) (And.intro (uC Try.prog c6_66.eq_1) (And.intro (uC Try.prog c6_67.eq_1) (And.intro (uR Try.prog c6_68.eq_1) (And.intro (uR Try.prog c6_69.eq_1) (And.intro (uC Try.prog c6_70.eq_1) (And.intro (uC Try.prog c6_71.eq_1) (And.intro (uC Try.prog c6_72.eq_1) (And.intro (uR Try.prog c6_73.eq_1) (And.intro (uC Try.prog c6_74.eq_1) (And.intro (uC Try.prog c6_75.eq_1) (And.intro (uC Try.prog c6_76.eq_1) (And.intro (uC Try.prog c6_77.eq_1) (And.intro (uC Try.prog c6_78.eq_1) (And.intro (uC Try.prog c6_79.eq_1) (And.intro (uC Try.prog c6_80.eq_1) (And.intro (uC Try.prog c6_81.eq_1) (And.intro (uC Try.prog c6_82.eq_1) (And.intro (uC Try.prog c6_83.eq_1) (And.intro (uC Try.prog c6_84.eq_1) (And.intro (uC Try.prog c6_85.eq_1) (And.intro (uC Try.prog c6_86.eq_1) (And.intro (uC Try.prog c6_87.eq_1) (And.intro (uC Try.prog c6_88.eq_1) (And.intro (uC Try.prog c6_89.eq_1) (And.intro (uC Try.prog c6_90.eq_1) (And.intro (uC Try.prog c6_91.eq_1) (And.intro (uC Try.prog c6_92.eq_1) (And.intro (uC Try.prog c6_93.eq_1) (And.intro (uC Try.prog c6_94.eq_1) (And.intro (uC Try.prog c6_95.eq_1) (And.intro (uC Try.prog c6_96.eq_1) (And.intro (uC Try.prog c6_97.eq_1) (And.intro (uC Try.prog c6_98.eq_1) (And.intro (uC Try.prog c6_99.eq_1) (And.intro (uC Try.prog c6_100.eq_1) (And.intro (uC Try.prog c6_101.eq_1) (And.intro (uC Try.prog c6_102.eq_1) (And.intro (uC Try.prog c6_103.eq_1) (uC Try.prog c6.eq_1))))))))))))))))))))))))))))))))))))))))))))))))))))))))))))))))))))))))))))))))))))))))))))))))))))))))) := (And.intro (uR Try.prog c6_0.eq_1) (And.intro (uR Try.prog c6_1.eq_1) (And.intro (uR Try.prog c6_2.eq_1) (And.intro (uR Try.prog c6_3.eq_1) (And.intro (uR Try.prog c6_4.eq_1) (And.intro (uC Try.prog c6_5.eq_1) (And.intro (uC Try.prog c6_6.eq_1) (And.intro (uC Try.prog c6_7.eq_1) (And.intro (uR Try.prog c6_8.eq_1) (And.intro (uR Try.prog c6_9.eq_1) (And.intro (uR Try.prog c6_10.eq_1) (And.intro (uC Try.prog c6_11.eq_1) (And.intro (uC Try.prog c6_12.eq_1) (And.intro (uC Try.prog c6_13.eq_1) (And.intro (uR Try.prog c6_14.eq_1) (And.intro (uR Try.prog c6_15.eq_1) (And.intro (uR Try.prog c6_16.eq_1) (And.intro (uR Try.prog c6_17.eq_1) (And.intro (uR Try.prog c6_18.eq_1) (And.intro (uR Try.prog c6_19.eq_1) (And.intro (uC Try.prog c6_20.eq_1) (And.intro (uC Try.prog c6_21.eq_1) (And.intro (uC Try.prog c6_22.eq_1) (And.intro (uR Try.prog c6_23.eq_1) (And.intro (uR Try.prog c6_24.eq_1) (And.intro (uC Try.prog c6_25.eq_1) (And.intro (uC Try.prog c6_26.eq_1) (And.intro (uC Try.prog c6_27.eq_1) (And.intro (uR Try.prog c6_28.eq_1) (And.intro (uR Try.prog c6_29.eq_1) (And.intro (uC Try.prog c6_30.eq_1) (And.intro (uC Try.prog c6_31.eq_1) (And.intro (uC Try.prog c6_32.eq_1) (And.intro (uR Try.prog c6_33.eq_1) (And.intro (uR Try.prog c6_34.eq_1) (And.intro (uR Try.prog c6_35.eq_1) (And.intro (uR Try.prog c6_36.eq_1) (And.intro (uR Try.prog c6_37.eq_1) (And.intro (uC Try.prog c6_38.eq_1) (And.intro (uC Try.prog c6_39.eq_1) (And.intro (uC Try.prog c6_40.eq_1) (And.intro (uR Try.prog c6_41.eq_1) (And.intro (uR Try.prog c6_42.eq_1) (And.intro (uR Try.prog c6_43.eq_1) (And.intro (uR Try.prog c6_44.eq_1) (And.intro (uR Try.prog c6_45.eq_1) (And.intro (uR Try.prog c6_46.eq_1) (And.intro (uC Try.prog c6_47.eq_1) (And.intro (uC Try.prog c6_48.eq_1) (And.intro (uC Try.prog c6_49.eq_1) (And.intro (uR Try.prog c6_50.eq_1) (And.intro (uR Try.prog c6_51.eq_1) (And.intro (uC Try.prog c6_52.eq_1) (And.intro (uC Try.prog c6_53.eq_1) (And.intro (uC Try.prog c6_54.eq_1) (And.intro (uR Try.prog c6_55.eq_1) (And.intro (uR Try.prog c6_56.eq_1) (And.intro (uR Try.prog c6_57.eq_1) (And.intro (uC Try.prog c6_58.eq_1) (And.intro (uC Try.prog c6_59.eq_1) (And.intro (uC Try.prog c6_60.eq_1) (And.intro (uR Try.prog c6_61.eq_1) (And.intro (uR Try.prog c6_62.eq_1) (And.intro (uR Try.prog c6_63.eq_1) (And.intro (uR Try.prog c6_64.eq_1) (And.intro (uC Try.prog c6_65.eq_1) (And.intro (uC Try.prog c6_66.eq_1) (And.intro (uC Try.prog c6_67.eq_1) (And.intro (uR Try.prog c6_68.eq_1) (And.intro (uR Try.prog c6_69.eq_1) (And.intro (uC Try.prog c6_70.eq_1) (And.intro (uC Try.prog c6_71.eq_1) (And.intro (uC Try.prog c6_72.eq_1) (And.intro (uR Try.prog c6_73.eq_1) (And.intro (uC Try.prog c6_74.eq_1) (And.intro (uC Try.prog c6_75.eq_1) (And.intro (uC Try.prog c6_76.eq_1) (And.intro (uC Try.prog c6_77.eq_1) (And.intro (uC Try.prog c6_78.eq_1) (And.intro (uC Try.prog c6_79.eq_1) (And.intro (uC Try.prog c6_80.eq_1) (And.intro (uC Try.prog c6_81.eq_1) (And.intro (uC Try.prog c6_82.eq_1) (And.intro (uC Try.prog c6_83.eq_1) (And.intro (uC Try.prog c6_84.eq_1) (And.intro (uC Try.prog c6_85.eq_1) (And.intro (uC Try.prog c6_86.eq_1) (And.intro (uC Try.prog c6_87.eq_1) (And.intro (uC Try.prog c6_88.eq_1) (And.intro (uC Try.prog c6_89.eq_1) (And.intro (uC Try.prog c6_90.eq_1) (And.intro (uC Try.prog c6_91.eq_1) (And.intro (uC Try.prog c6_92.eq_1) (And.intro (uC Try.prog c6_93.eq_1) (And.intro (uC Try.prog c6_94.eq_1) (And.intro (uC Try.prog c6_95.eq_1) (And.intro (uC Try.prog c6_96.eq_1) (And.intro (uC Try.prog c6_97.eq_1) (And.intro (uC Try.prog c6_98.eq_1) (And.intro (uC Try.prog c6_99.eq_1) (And.intro (uC Try.prog c6_100.eq_1) (And.intro (uC Try.prog c6_101.eq_1) (And.intro (uC Try.prog c6_102.eq_1) (And.intro (uC Try.prog c6_103.eq_1) (uC Try.prog c6.eq_1)))))))))))))))))))))))))))))))))))))))))))))))))))))))))))))))))))))))))))))))))))))))))))))))))))))))))
def v6 : List RV := [.t 4]
theorem s6 : slimF Try.prog Try.f6 = some (c6.bare, v6) := by kernel_rfl

theorem turnedF_length (a : List Clip) (l : List Change) : (turnedF a l).1.length ≤ 90000 := by
  unfold turnedF; split
  · rename_i h
    obtain ⟨ht, hc, _⟩ := applyF_true h
    have := turnedL_bound a l hc.2 ht.1
    have := hc.1
    simp only; omega
  · simp
theorem FnExactTurned_ok (h : Heap) (va : Value) (a : List Clip) (vl : Value) (l : List Change) (sa : SlT h encClip 3 va a) (hla : a.length ≤ 9223372036854775807) (sl : SlT h encChange 4 vl l) (hll : l.length ≤ 9223372036854775807) :
    ACall Try.prog 6 [va, vl] h fun r h' => r = .bool true := by
  refine ACall.of Try.func6 s6 (of_decide_eq_true rfl) ?_
  simp (maxSteps := 4000000) (disch := omega) only [ah, am, Nat.reduceEqDiff, reduceCtorEq, Nat.reduceAdd, Nat.reduceLeDiff, Nat.reduceMul, Nat.reduceLT, if_true, if_false, true_and, and_true, and_self, Nat.reduceBEq, QOp.loads, boxO, bslO, buildO, cutL, fillV, putL, w6, v6]
  refine stepC.of (szClipS_ok h va a (1048576) sa (by omega) (by omega) hla) ?_
  rintro _ Hx ⟨hx, rfl⟩; rw [hx]; clear hx Hx
  simp (maxSteps := 4000000) (disch := omega) only [ah, am, Nat.reduceEqDiff, reduceCtorEq, Nat.reduceAdd, Nat.reduceLeDiff, Nat.reduceMul, Nat.reduceLT, if_true, if_false, true_and, and_true, and_self, Nat.reduceBEq, QOp.loads, boxO, bslO, buildO, cutL, fillV, putL, w6, v6]
  by_cases hsz0 : (1048576 : Int) - a.length < 0
  · have hz : decide ((if (1048576 : Int) - a.length < 0 then -1 else 1048576 - (a.length : Int)) < 0) = true := by rw [if_pos hsz0]; rfl
    simp (maxSteps := 4000000) (disch := omega) only [ah, am, Nat.reduceEqDiff, reduceCtorEq, Nat.reduceAdd, Nat.reduceLeDiff, Nat.reduceMul, Nat.reduceLT, if_true, if_false, true_and, and_true, and_self, Nat.reduceBEq, QOp.loads, boxO, bslO, buildO, cutL, fillV, putL, w6, v6, hz]
  have hz0 : decide ((if (1048576 : Int) - a.length < 0 then -1 else 1048576 - (a.length : Int)) < 0) = false := by rw [if_neg hsz0]; exact decide_eq_false hsz0
  have hq0 : (if (1048576 : Int) - a.length < 0 then -1 else 1048576 - (a.length : Int)) = 1048576 - a.length := if_neg hsz0
  rw [hq0] at hz0 ⊢
  simp (maxSteps := 4000000) (disch := omega) only [ah, am, Nat.reduceEqDiff, reduceCtorEq, Nat.reduceAdd, Nat.reduceLeDiff, Nat.reduceMul, Nat.reduceLT, if_true, if_false, true_and, and_true, and_self, Nat.reduceBEq, QOp.loads, boxO, bslO, buildO, cutL, fillV, putL, w6, v6, hz0]
  refine stepC.of (szChangeS_ok h vl l (1048576 - a.length) sl (by omega) (by omega) hll) ?_
  rintro _ Hx ⟨hx, rfl⟩; rw [hx]; clear hx Hx
  simp (maxSteps := 4000000) (disch := omega) only [ah, am, Nat.reduceEqDiff, reduceCtorEq, Nat.reduceAdd, Nat.reduceLeDiff, Nat.reduceMul, Nat.reduceLT, if_true, if_false, true_and, and_true, and_self, Nat.reduceBEq, QOp.loads, boxO, bslO, buildO, cutL, fillV, putL, w6, v6]
  by_cases hsz1 : (1048576 - a.length : Int) - l.length < 0
  · have hz : decide ((if (1048576 - a.length : Int) - l.length < 0 then -1 else 1048576 - a.length - (l.length : Int)) < 0) = true := by rw [if_pos hsz1]; rfl
    simp (maxSteps := 4000000) (disch := omega) only [ah, am, Nat.reduceEqDiff, reduceCtorEq, Nat.reduceAdd, Nat.reduceLeDiff, Nat.reduceMul, Nat.reduceLT, if_true, if_false, true_and, and_true, and_self, Nat.reduceBEq, QOp.loads, boxO, bslO, buildO, cutL, fillV, putL, w6, v6, hz]
  have hz1 : decide ((if (1048576 - a.length : Int) - l.length < 0 then -1 else 1048576 - a.length - (l.length : Int)) < 0) = false := by rw [if_neg hsz1]; exact decide_eq_false hsz1
  simp (maxSteps := 4000000) (disch := omega) only [ah, am, Nat.reduceEqDiff, reduceCtorEq, Nat.reduceAdd, Nat.reduceLeDiff, Nat.reduceMul, Nat.reduceLT, if_true, if_false, true_and, and_true, and_self, Nat.reduceBEq, QOp.loads, boxO, bslO, buildO, cutL, fillV, putL, w6, v6, hz1]
  clear hz0
  clear hz1
  have hlla : a.length ≤ 1048576 := by omega
  have hlll : l.length ≤ 1048576 := by omega
  have hF := turnedF_length a l
  refine stepC.of (toClipS_ok _ _ _ sa hlla) ?_
  intro tpa H1 Fpa
  have E1 := (show Ext h _ from Fpa.1)
  have zE1 := Fpa.1.1
  have Mpa := Fpa.mine
  simp (maxSteps := 4000000) (disch := omega) only [ah, am, Nat.reduceEqDiff, reduceCtorEq, Nat.reduceAdd, Nat.reduceLeDiff, Nat.reduceMul, Nat.reduceLT, if_true, if_false, true_and, and_true, and_self, Nat.reduceBEq, QOp.loads, boxO, bslO, buildO, cutL, fillV, putL, w6, v6]
  refine stepC.of (toChangeS_ok _ _ _ (sl.ext E1) hlll) ?_
  intro tpl H2 Fpl
  have Mpa := Mpa.ext Fpl.1
  have E2 := Ext.trans E1 Fpl.1
  have zE2 := Fpl.1.1
  have Mpl := Fpl.mine
  simp (maxSteps := 4000000) (disch := omega) only [ah, am, Nat.reduceEqDiff, reduceCtorEq, Nat.reduceAdd, Nat.reduceLeDiff, Nat.reduceMul, Nat.reduceLT, if_true, if_false, true_and, and_true, and_self, Nat.reduceBEq, QOp.loads, boxO, bslO, buildO, cutL, fillV, putL, w6, v6]
  refine stepC.of (specTurned_ok _ _ _ _ _ Mpa.slt Mpl.slt (by omega) (by omega)) ?_
  rintro _ H3 ⟨w0, rfl, Fw⟩
  have Mpa := Mpa.ext Fw.1
  have Mpl := Mpl.ext Fw.1
  have E3 := Ext.trans E2 Fw.1
  have zE3 := Fw.1.1
  have Mw := Fw.mine
  simp (maxSteps := 4000000) (disch := omega) only [ah, am, Nat.reduceEqDiff, reduceCtorEq, Nat.reduceAdd, Nat.reduceLeDiff, Nat.reduceMul, Nat.reduceLT, if_true, if_false, true_and, and_true, and_self, Nat.reduceBEq, QOp.loads, boxO, bslO, buildO, cutL, fillV, putL, w6, v6]
  refine stepC.of (toClipS_ok _ _ _ (sa.ext E3) hlla) ?_
  intro txa H4 Fxa
  have Mw := Mw.ext Fxa.1
  have E4 := Ext.trans E3 Fxa.1
  have zE4 := Fxa.1.1
  have Mxa := Fxa.mine
  simp (maxSteps := 4000000) (disch := omega) only [ah, am, Nat.reduceEqDiff, reduceCtorEq, Nat.reduceAdd, Nat.reduceLeDiff, Nat.reduceMul, Nat.reduceLT, if_true, if_false, true_and, and_true, and_self, Nat.reduceBEq, QOp.loads, boxO, bslO, buildO, cutL, fillV, putL, w6, v6]
  refine stepC.of (toChangeS_ok _ _ _ (sl.ext E4) hlll) ?_
  intro txl H5 Fxl
  have Mw := Mw.ext Fxl.1
  have Mxa := Mxa.ext Fxl.1
  have E5 := Ext.trans E4 Fxl.1
  have zE5 := Fxl.1.1
  have Mxl := Fxl.mine
  simp (maxSteps := 4000000) (disch := omega) only [ah, am, Nat.reduceEqDiff, reduceCtorEq, Nat.reduceAdd, Nat.reduceLeDiff, Nat.reduceMul, Nat.reduceLT, if_true, if_false, true_and, and_true, and_self, Nat.reduceBEq, QOp.loads, boxO, bslO, buildO, cutL, fillV, putL, w6, v6]
  refine stepC.of (Turned_ok _ _ _ _ _ Mxa.slt Mxl.slt (by omega) (by omega)) ?_
  rintro _ H6 ⟨g0, rfl, Fg⟩
  have Mw := Mw.ext Fg.1
  have Mxa := Mxa.ext Fg.1
  have Mxl := Mxl.ext Fg.1
  have E6 := Ext.trans E5 Fg.1
  have zE6 := Fg.1.1
  have Mg := Fg.mine
  obtain ⟨rl, rb, hR⟩ : ∃ rl rb, turnedF a l = (rl, rb) := ⟨_, _, rfl⟩
  rw [hR] at Mw Mg hF ⊢
  simp only at Mw Mg hF ⊢
  simp (maxSteps := 4000000) (disch := omega) only [ah, am, Nat.reduceEqDiff, reduceCtorEq, Nat.reduceAdd, Nat.reduceLeDiff, Nat.reduceMul, Nat.reduceLT, if_true, if_false, true_and, and_true, and_self, Nat.reduceBEq, QOp.loads, boxO, bslO, buildO, cutL, fillV, putL, w6, v6]
  refine stepC.of (eqChangeS_ok _ _ _ _ _ Mg.slt Mw.slt (by omega) (by omega)) ?_
  rintro _ H7 ⟨eH7, rfl⟩
  have Mw := Mw.ext eH7
  have Mxa := Mxa.ext eH7
  have Mxl := Mxl.ext eH7
  have Mg := Mg.ext eH7
  have E7 := Ext.trans E6 eH7
  have zE7 := eH7.1
  simp (maxSteps := 4000000) (disch := omega) only [ah, am, Nat.reduceEqDiff, reduceCtorEq, Nat.reduceAdd, Nat.reduceLeDiff, Nat.reduceMul, Nat.reduceLT, if_true, if_false, true_and, and_true, and_self, Nat.reduceBEq, QOp.loads, boxO, bslO, buildO, cutL, fillV, putL, w6, v6, eqbV_bool', beq_self_eq_true, eq_self, decide_true]
  refine stepC.of (toClipS_ok _ _ _ (sa.ext E7) hlla) ?_
  intro tya H8 Fya
  have Mw := Mw.ext Fya.1
  have Mxa := Mxa.ext Fya.1
  have Mxl := Mxl.ext Fya.1
  have Mg := Mg.ext Fya.1
  have E8 := Ext.trans E7 Fya.1
  have zE8 := Fya.1.1
  have Mya := Fya.mine
  simp (maxSteps := 4000000) (disch := omega) only [ah, am, Nat.reduceEqDiff, reduceCtorEq, Nat.reduceAdd, Nat.reduceLeDiff, Nat.reduceMul, Nat.reduceLT, if_true, if_false, true_and, and_true, and_self, Nat.reduceBEq, QOp.loads, boxO, bslO, buildO, cutL, fillV, putL, w6, v6]
  refine stepC.of (eqClipS_ok _ _ _ _ _ Mxa.slt Mya.slt (by omega) (by omega)) ?_
  rintro _ H9 ⟨eH9, rfl⟩
  have Mw := Mw.ext eH9
  have Mxa := Mxa.ext eH9
  have Mxl := Mxl.ext eH9
  have Mg := Mg.ext eH9
  have Mya := Mya.ext eH9
  have E9 := Ext.trans E8 eH9
  have zE9 := eH9.1
  simp (maxSteps := 4000000) (disch := omega) only [ah, am, Nat.reduceEqDiff, reduceCtorEq, Nat.reduceAdd, Nat.reduceLeDiff, Nat.reduceMul, Nat.reduceLT, if_true, if_false, true_and, and_true, and_self, Nat.reduceBEq, QOp.loads, boxO, bslO, buildO, cutL, fillV, putL, w6, v6, eq_self, decide_true]
  refine stepC.of (toChangeS_ok _ _ _ (sl.ext E9) hlll) ?_
  intro tyl H10 Fyl
  have Mw := Mw.ext Fyl.1
  have Mxa := Mxa.ext Fyl.1
  have Mxl := Mxl.ext Fyl.1
  have Mg := Mg.ext Fyl.1
  have E10 := Ext.trans E9 Fyl.1
  have zE10 := Fyl.1.1
  have Myl := Fyl.mine
  simp (maxSteps := 4000000) (disch := omega) only [ah, am, Nat.reduceEqDiff, reduceCtorEq, Nat.reduceAdd, Nat.reduceLeDiff, Nat.reduceMul, Nat.reduceLT, if_true, if_false, true_and, and_true, and_self, Nat.reduceBEq, QOp.loads, boxO, bslO, buildO, cutL, fillV, putL, w6, v6]
  refine stepC.of (eqChangeS_ok _ _ _ _ _ Mxl.slt Myl.slt (by omega) (by omega)) ?_
  rintro _ H11 ⟨eH11, rfl⟩
  have Mw := Mw.ext eH11
  have Mxa := Mxa.ext eH11
  have Mxl := Mxl.ext eH11
  have Mg := Mg.ext eH11
  have Myl := Myl.ext eH11
  have E11 := Ext.trans E10 eH11
  have zE11 := eH11.1
  simp (maxSteps := 4000000) (disch := omega) only [ah, am, Nat.reduceEqDiff, reduceCtorEq, Nat.reduceAdd, Nat.reduceLeDiff, Nat.reduceMul, Nat.reduceLT, if_true, if_false, true_and, and_true, and_self, Nat.reduceBEq, QOp.loads, boxO, bslO, buildO, cutL, fillV, putL, w6, v6, eq_self, decide_true]
  refine stepC.of (markClipS_mine (1) Mxa (by omega) (by omega)) ?_
  rintro _ H12 ⟨cH12, Mxa', rfl⟩
  have Mw := Mw.chg cH12 (by omega)
  have Mxl := Mxl.chg cH12 (by omega)
  have Mg := Mg.chg cH12 (by omega)
  have Mxa := Mxa'
  have E12 := cH12.ext E11 (by omega)
  have zE12 := cH12.1
  simp (maxSteps := 4000000) (disch := omega) only [ah, am, Nat.reduceEqDiff, reduceCtorEq, Nat.reduceAdd, Nat.reduceLeDiff, Nat.reduceMul, Nat.reduceLT, if_true, if_false, true_and, and_true, and_self, Nat.reduceBEq, QOp.loads, boxO, bslO, buildO, cutL, fillV, putL, w6, v6]
  refine stepC.of (markChangeS_mine (1 + 3 * a.length) Mxl (by omega) (by omega)) ?_
  rintro _ H13 ⟨cH13, Mxl', rfl⟩
  have Mw := Mw.chg cH13 (by omega)
  have Mxa := Mxa.chg cH13 (by omega)
  have Mg := Mg.chg cH13 (by omega)
  have Mxl := Mxl'
  have E13 := cH13.ext E12 (by omega)
  have zE13 := cH13.1
  have hk : decide (((1 : Int) + 3 * a.length + 4 * l.length : Int) < 0) = false := decide_eq_false (by omega)
  simp (maxSteps := 4000000) (disch := omega) only [ah, am, Nat.reduceEqDiff, reduceCtorEq, Nat.reduceAdd, Nat.reduceLeDiff, Nat.reduceMul, Nat.reduceLT, if_true, if_false, true_and, and_true, and_self, Nat.reduceBEq, QOp.loads, boxO, bslO, buildO, cutL, fillV, putL, w6, v6, hk]
  refine stepC.of (eqChangeS_ok _ _ _ _ _ Mg.slt Mw.slt (by omega) (by omega)) ?_
  rintro _ H14 ⟨eH14, rfl⟩
  have Mw := Mw.ext eH14
  have Mxa := Mxa.ext eH14
  have Mxl := Mxl.ext eH14
  have Mg := Mg.ext eH14
  have E14 := Ext.trans E13 eH14
  have zE14 := eH14.1
  simp (maxSteps := 4000000) (disch := omega) only [ah, am, Nat.reduceEqDiff, reduceCtorEq, Nat.reduceAdd, Nat.reduceLeDiff, Nat.reduceMul, Nat.reduceLT, if_true, if_false, true_and, and_true, and_self, Nat.reduceBEq, QOp.loads, boxO, bslO, buildO, cutL, fillV, putL, w6, v6, eqbV_bool', beq_self_eq_true, eq_self, decide_true]
  refine stepC.of (markChangeS_mine (1) Mg (by omega) (by omega)) ?_
  rintro _ H15 ⟨cH15, Mg', rfl⟩
  have Mw := Mw.chg cH15 (by omega)
  have Mg := Mg'
  have E15 := cH15.ext E14 (by omega)
  have zE15 := cH15.1
  have hm : decide ((1 : Int) + 4 * rl.length < 0) = false := decide_eq_false (by omega)
  simp (maxSteps := 4000000) (disch := omega) only [ah, am, Nat.reduceEqDiff, reduceCtorEq, Nat.reduceAdd, Nat.reduceLeDiff, Nat.reduceMul, Nat.reduceLT, if_true, if_false, true_and, and_true, and_self, Nat.reduceBEq, QOp.loads, boxO, bslO, buildO, cutL, fillV, putL, w6, v6]
  refine stepC.of (heldChangeS_ok _ _ _ 1 Mg.slt (by omega) (by omega)) ?_
  rintro _ Hx ⟨hx, rfl⟩; rw [hx]; clear hx Hx
  simp (maxSteps := 4000000) (disch := omega) only [ah, am, Nat.reduceEqDiff, reduceCtorEq, Nat.reduceAdd, Nat.reduceLeDiff, Nat.reduceMul, Nat.reduceLT, if_true, if_false, true_and, and_true, and_self, Nat.reduceBEq, QOp.loads, boxO, bslO, buildO, cutL, fillV, putL, w6, v6, hm, eq_self, decide_true]
  refine stepC.of (toClipS_ok _ _ _ (sa.ext E15) hlla) ?_
  intro tqa H16 Fqa
  have Mw := Mw.ext Fqa.1
  have Mg := Mg.ext Fqa.1
  have E16 := Ext.trans E15 Fqa.1
  have zE16 := Fqa.1.1
  have Mqa := Fqa.mine
  simp (maxSteps := 4000000) (disch := omega) only [ah, am, Nat.reduceEqDiff, reduceCtorEq, Nat.reduceAdd, Nat.reduceLeDiff, Nat.reduceMul, Nat.reduceLT, if_true, if_false, true_and, and_true, and_self, Nat.reduceBEq, QOp.loads, boxO, bslO, buildO, cutL, fillV, putL, w6, v6]
  refine stepC.of (toChangeS_ok _ _ _ (sl.ext E16) hlll) ?_
  intro tql H17 Fql
  have Mw := Mw.ext Fql.1
  have Mg := Mg.ext Fql.1
  have Mqa := Mqa.ext Fql.1
  have E17 := Ext.trans E16 Fql.1
  have zE17 := Fql.1.1
  have Mql := Fql.mine
  simp (maxSteps := 4000000) (disch := omega) only [ah, am, Nat.reduceEqDiff, reduceCtorEq, Nat.reduceAdd, Nat.reduceLeDiff, Nat.reduceMul, Nat.reduceLT, if_true, if_false, true_and, and_true, and_self, Nat.reduceBEq, QOp.loads, boxO, bslO, buildO, cutL, fillV, putL, w6, v6]
  refine stepC.of (Turned_ok _ _ _ _ _ Mqa.slt Mql.slt (by omega) (by omega)) ?_
  rintro _ H18 ⟨k0, rfl, Fk⟩
  have Mw := Mw.ext Fk.1
  have Mg := Mg.ext Fk.1
  have Mqa := Mqa.ext Fk.1
  have Mql := Mql.ext Fk.1
  have E18 := Ext.trans E17 Fk.1
  have zE18 := Fk.1.1
  have Mk := Fk.mine
  rw [hR] at Mk ⊢
  simp only at Mk ⊢
  simp (maxSteps := 4000000) (disch := omega) only [ah, am, Nat.reduceEqDiff, reduceCtorEq, Nat.reduceAdd, Nat.reduceLeDiff, Nat.reduceMul, Nat.reduceLT, if_true, if_false, true_and, and_true, and_self, Nat.reduceBEq, QOp.loads, boxO, bslO, buildO, cutL, fillV, putL, w6, v6]
  refine stepC.of (eqChangeS_ok _ _ _ _ _ Mk.slt Mw.slt (by omega) (by omega)) ?_
  rintro _ H19 ⟨eH19, rfl⟩
  have Mw := Mw.ext eH19
  have Mg := Mg.ext eH19
  have Mqa := Mqa.ext eH19
  have Mql := Mql.ext eH19
  have Mk := Mk.ext eH19
  have E19 := Ext.trans E18 eH19
  have zE19 := eH19.1
  simp (maxSteps := 4000000) (disch := omega) only [ah, am, Nat.reduceEqDiff, reduceCtorEq, Nat.reduceAdd, Nat.reduceLeDiff, Nat.reduceMul, Nat.reduceLT, if_true, if_false, true_and, and_true, and_self, Nat.reduceBEq, QOp.loads, boxO, bslO, buildO, cutL, fillV, putL, w6, v6, eqbV_bool', beq_self_eq_true, eq_self, decide_true]
  refine stepC.of (heldChangeS_ok _ _ _ 1 Mg.slt (by omega) (by omega)) ?_
  rintro _ Hx ⟨hx, rfl⟩; rw [hx]; clear hx Hx
  simp (maxSteps := 4000000) (disch := omega) only [ah, am, Nat.reduceEqDiff, reduceCtorEq, Nat.reduceAdd, Nat.reduceLeDiff, Nat.reduceMul, Nat.reduceLT, if_true, if_false, true_and, and_true, and_self, Nat.reduceBEq, QOp.loads, boxO, bslO, buildO, cutL, fillV, putL, w6, v6, hm, eq_self, decide_true]
end Go.Proofs.Ytbnppofkpgfhnaa
