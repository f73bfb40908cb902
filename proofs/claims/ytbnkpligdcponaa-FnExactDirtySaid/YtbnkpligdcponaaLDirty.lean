import Derived.Test.YtbnkpligdcponaaN3
namespace Go.Proofs.Ytbnkpligdcponaa
open Go Go.Ah
set_option linter.unusedSimpArgs false
set_option linter.unusedVariables false
set_option maxRecDepth 10000
set_option maxHeartbeats 4000000
/-! 3 loop.example/g00066/laws.FnExactDirty: parameters 2, live [0, 1], slots [0:aJob, 1:aChanged, 2:aJob, 3:aChanged, 5:left, 6:w0, 7:x0, 8:x1, 9:g0, 10:k, 11:m, 12:q, 13:h0] -/
def c3_0 : List SOper := [⟨some 4, .q (.mv (.c (.bool false))), none⟩]
def c3_1 : List SOper := [⟨some 14, .q (.mv (.t 1)), none⟩, ⟨some 15, .q (.len (.t 14)), none⟩, ⟨some 16, .q (.bin .gtr (.t 15) (.c (.int .i64 1048576))), none⟩]
def c3_2 : List SOper := [⟨some 4, .q (.mv (.c (.bool true))), none⟩]
def c3_3 : SCode := .seq (.region c3_2 [4]) .ret
def c3_4 : SCode := .cond (.t 16) c3_3 .skip
def c3_5 : SCode := .seq (.region c3_1 [0, 1, 16]) c3_4
def c3_6 : List SOper := [⟨some 5, .q (.mv (.c (.int .i64 1048576))), none⟩]
def c3_7 : List SOper := [⟨some 17, .q (.mv (.t 0)), none⟩, ⟨some 18, .q (.mv (.t 5)), none⟩, ⟨some 19, .e (.call 8 [(.t 17), (.t 18)]), none⟩, ⟨some 5, .q (.mv (.t 19)), none⟩]
def c3_8 : List SOper := [⟨some 20, .q (.mv (.t 5)), none⟩, ⟨some 21, .q (.bin .lss (.t 20) (.c (.int .i64 0))), none⟩]
def c3_9 : List SOper := [⟨some 4, .q (.mv (.c (.bool true))), none⟩]
def c3_10 : SCode := .seq (.region c3_9 [4]) .ret
def c3_11 : SCode := .cond (.t 21) c3_10 .skip
def c3_12 : SCode := .seq (.region c3_8 [0, 1, 21]) c3_11
def c3_13 : List SOper := [⟨some 22, .q (.mv (.t 0)), none⟩, ⟨some 23, .e (.call 10 [(.t 22)]), none⟩, ⟨some 24, .q (.mv (.t 1)), none⟩, ⟨some 25, .e (.call 11 [(.t 24)]), none⟩, ⟨some 26, .e (.call 9 [(.t 23), (.t 25)]), none⟩, ⟨some 6, .q (.mv (.t 26)), none⟩]
def c3_14 : List SOper := [⟨some 27, .q (.mv (.t 0)), none⟩, ⟨some 28, .e (.call 10 [(.t 27)]), none⟩, ⟨some 7, .q (.mv (.t 28)), none⟩]
def c3_15 : List SOper := [⟨some 29, .q (.mv (.t 1)), none⟩, ⟨some 30, .e (.call 11 [(.t 29)]), none⟩, ⟨some 8, .q (.mv (.t 30)), none⟩]
def c3_16 : List SOper := [⟨some 31, .q (.mv (.t 7)), none⟩, ⟨some 32, .q (.mv (.t 8)), none⟩, ⟨some 33, .e (.call 12 [(.t 31), (.t 32)]), none⟩, ⟨some 9, .q (.mv (.t 33)), none⟩]
def c3_17 : List SOper := [⟨some 34, .q (.mv (.t 9)), none⟩, ⟨some 35, .q (.mv (.t 6)), none⟩, ⟨some 36, .e (.call 13 [(.t 34), (.t 35)]), none⟩, ⟨some 37, .q (.not (.t 36)), none⟩]
def c3_18 : List SOper := [⟨some 4, .q (.mv (.c (.bool false))), none⟩]
def c3_19 : SCode := .seq (.region c3_18 [4]) .ret
def c3_20 : SCode := .cond (.t 37) c3_19 .skip
def c3_21 : SCode := .seq (.region c3_17 [0, 1, 6, 7, 8, 9, 37]) c3_20
def c3_22 : List SOper := [⟨some 38, .q (.mv (.t 7)), none⟩, ⟨some 39, .q (.mv (.t 0)), none⟩, ⟨some 40, .e (.call 10 [(.t 39)]), none⟩, ⟨some 41, .e (.call 14 [(.t 38), (.t 40)]), none⟩, ⟨some 42, .q (.not (.t 41)), none⟩]
def c3_23 : List SOper := [⟨some 4, .q (.mv (.c (.bool false))), none⟩]
def c3_24 : SCode := .seq (.region c3_23 [4]) .ret
def c3_25 : SCode := .cond (.t 42) c3_24 .skip
def c3_26 : SCode := .seq (.region c3_22 [0, 1, 6, 7, 8, 9, 42]) c3_25
def c3_27 : List SOper := [⟨some 43, .q (.mv (.t 8)), none⟩, ⟨some 44, .q (.mv (.t 1)), none⟩, ⟨some 45, .e (.call 11 [(.t 44)]), none⟩, ⟨some 46, .e (.call 13 [(.t 43), (.t 45)]), none⟩, ⟨some 47, .q (.not (.t 46)), none⟩]
def c3_28 : List SOper := [⟨some 4, .q (.mv (.c (.bool false))), none⟩]
def c3_29 : SCode := .seq (.region c3_28 [4]) .ret
def c3_30 : SCode := .cond (.t 47) c3_29 .skip
def c3_31 : SCode := .seq (.region c3_27 [0, 1, 6, 7, 8, 9, 47]) c3_30
def c3_32 : List SOper := [⟨some 10, .q (.mv (.c (.int .i64 1))), none⟩]
def c3_33 : List SOper := [⟨some 48, .q (.mv (.t 7)), none⟩, ⟨some 49, .q (.mv (.t 10)), none⟩, ⟨some 50, .e (.call 15 [(.t 48), (.t 49)]), none⟩, ⟨some 10, .q (.mv (.t 50)), none⟩]
def c3_34 : List SOper := [⟨some 51, .q (.mv (.t 8)), none⟩, ⟨some 52, .q (.mv (.t 10)), none⟩, ⟨some 53, .e (.call 16 [(.t 51), (.t 52)]), none⟩, ⟨some 10, .q (.mv (.t 53)), none⟩]
def c3_35 : List SOper := [⟨some 54, .q (.mv (.t 10)), none⟩, ⟨some 55, .q (.bin .lss (.t 54) (.c (.int .i64 0))), none⟩, ⟨some 56, .q (.mv (.t 55)), none⟩, ⟨some 57, .q (.mv (.t 9)), some (56, false)⟩, ⟨some 58, .q (.mv (.t 6)), some (56, false)⟩, ⟨some 59, .e (.call 13 [(.t 57), (.t 58)]), some (56, false)⟩, ⟨some 60, .q (.not (.t 59)), some (56, false)⟩, ⟨some 61, .q (.pick (.t 56) (.c (.bool true)) (.t 60)), none⟩]
def c3_36 : List SOper := [⟨some 4, .q (.mv (.c (.bool false))), none⟩]
def c3_37 : SCode := .seq (.region c3_36 [4]) .ret
def c3_38 : SCode := .cond (.t 61) c3_37 .skip
def c3_39 : SCode := .seq (.region c3_35 [0, 1, 6, 9, 61]) c3_38
def c3_40 : List SOper := [⟨some 11, .q (.mv (.c (.int .i64 1))), none⟩]
def c3_41 : List SOper := [⟨some 62, .q (.mv (.t 9)), none⟩, ⟨some 63, .q (.mv (.t 11)), none⟩, ⟨some 64, .e (.call 16 [(.t 62), (.t 63)]), none⟩, ⟨some 11, .q (.mv (.t 64)), none⟩]
def c3_42 : List SOper := [⟨some 12, .q (.mv (.c (.int .i64 1))), none⟩]
def c3_43 : List SOper := [⟨some 65, .q (.mv (.t 9)), none⟩, ⟨some 66, .q (.mv (.t 12)), none⟩, ⟨some 67, .e (.call 17 [(.t 65), (.t 66)]), none⟩, ⟨some 12, .q (.mv (.t 67)), none⟩]
def c3_44 : List SOper := [⟨some 68, .q (.mv (.t 12)), none⟩, ⟨some 69, .q (.bin .lss (.t 68) (.c (.int .i64 0))), none⟩]
def c3_45 : List SOper := [⟨some 4, .q (.mv (.c (.bool false))), none⟩]
def c3_46 : SCode := .seq (.region c3_45 [4]) .ret
def c3_47 : SCode := .cond (.t 69) c3_46 .skip
def c3_48 : SCode := .seq (.region c3_44 [0, 1, 6, 9, 11, 12, 69]) c3_47
def c3_49 : List SOper := [⟨some 70, .q (.mv (.t 12)), none⟩, ⟨some 71, .q (.mv (.t 11)), none⟩, ⟨some 72, .q (.bin .neq (.t 70) (.t 71)), none⟩]
def c3_50 : List SOper := [⟨some 4, .q (.mv (.c (.bool false))), none⟩]
def c3_51 : SCode := .seq (.region c3_50 [4]) .ret
def c3_52 : SCode := .cond (.t 72) c3_51 .skip
def c3_53 : SCode := .seq (.region c3_49 [0, 1, 6, 9, 11, 72]) c3_52
def c3_54 : List SOper := [⟨some 73, .q (.mv (.t 0)), none⟩, ⟨some 74, .e (.call 10 [(.t 73)]), none⟩, ⟨some 75, .q (.mv (.t 1)), none⟩, ⟨some 76, .e (.call 11 [(.t 75)]), none⟩, ⟨some 77, .e (.call 12 [(.t 74), (.t 76)]), none⟩, ⟨some 13, .q (.mv (.t 77)), none⟩]
def c3_55 : List SOper := [⟨some 78, .q (.mv (.t 13)), none⟩, ⟨some 79, .q (.mv (.t 6)), none⟩, ⟨some 80, .e (.call 13 [(.t 78), (.t 79)]), none⟩, ⟨some 81, .q (.not (.t 80)), none⟩]
def c3_56 : List SOper := [⟨some 4, .q (.mv (.c (.bool false))), none⟩]
def c3_57 : SCode := .seq (.region c3_56 [4]) .ret
def c3_58 : SCode := .cond (.t 81) c3_57 .skip
def c3_59 : SCode := .seq (.region c3_55 [9, 11, 81]) c3_58
def c3_60 : List SOper := [⟨some 12, .q (.mv (.c (.int .i64 1))), none⟩]
def c3_61 : List SOper := [⟨some 82, .q (.mv (.t 9)), none⟩, ⟨some 83, .q (.mv (.t 12)), none⟩, ⟨some 84, .e (.call 17 [(.t 82), (.t 83)]), none⟩, ⟨some 12, .q (.mv (.t 84)), none⟩]
def c3_62 : List SOper := [⟨some 85, .q (.mv (.t 12)), none⟩, ⟨some 86, .q (.bin .lss (.t 85) (.c (.int .i64 0))), none⟩]
def c3_63 : List SOper := [⟨some 4, .q (.mv (.c (.bool false))), none⟩]
def c3_64 : SCode := .seq (.region c3_63 [4]) .ret
def c3_65 : SCode := .cond (.t 86) c3_64 .skip
def c3_66 : SCode := .seq (.region c3_62 [11, 12, 86]) c3_65
def c3_67 : List SOper := [⟨some 87, .q (.mv (.t 12)), none⟩, ⟨some 88, .q (.mv (.t 11)), none⟩, ⟨some 89, .q (.bin .neq (.t 87) (.t 88)), none⟩]
def c3_68 : List SOper := [⟨some 4, .q (.mv (.c (.bool false))), none⟩]
def c3_69 : SCode := .seq (.region c3_68 [4]) .ret
def c3_70 : SCode := .cond (.t 89) c3_69 .skip
def c3_71 : SCode := .seq (.region c3_67 [89]) c3_70
def c3_72 : List SOper := [⟨some 4, .q (.mv (.c (.bool true))), none⟩]
def c3_73 : SCode := .seq (.region c3_72 [4]) .ret
def c3_74 : SCode := .seq c3_71 c3_73
def c3_75 : SCode := .seq c3_66 c3_74
def c3_76 : SCode := .seq (.region c3_61 [11, 12]) c3_75
def c3_77 : SCode := .seq (.region c3_60 [9, 11, 12]) c3_76
def c3_78 : SCode := .seq c3_59 c3_77
def c3_79 : SCode := .seq (.region c3_54 [6, 9, 11, 13]) c3_78
def c3_80 : SCode := .seq c3_53 c3_79
def c3_81 : SCode := .seq c3_48 c3_80
def c3_82 : SCode := .seq (.region c3_43 [0, 1, 6, 9, 11, 12]) c3_81
def c3_83 : SCode := .seq (.region c3_42 [0, 1, 6, 9, 11, 12]) c3_82
def c3_84 : SCode := .seq (.region c3_41 [0, 1, 6, 9, 11]) c3_83
def c3_85 : SCode := .seq (.region c3_40 [0, 1, 6, 9, 11]) c3_84
def c3_86 : SCode := .seq c3_39 c3_85
def c3_87 : SCode := .seq (.region c3_34 [0, 1, 6, 9, 10]) c3_86
def c3_88 : SCode := .seq (.region c3_33 [0, 1, 6, 8, 9, 10]) c3_87
def c3_89 : SCode := .seq (.region c3_32 [0, 1, 6, 7, 8, 9, 10]) c3_88
def c3_90 : SCode := .seq c3_31 c3_89
def c3_91 : SCode := .seq c3_26 c3_90
def c3_92 : SCode := .seq c3_21 c3_91
def c3_93 : SCode := .seq (.region c3_16 [0, 1, 6, 7, 8, 9]) c3_92
def c3_94 : SCode := .seq (.region c3_15 [0, 1, 6, 7, 8]) c3_93
def c3_95 : SCode := .seq (.region c3_14 [0, 1, 6, 7]) c3_94
def c3_96 : SCode := .seq (.region c3_13 [0, 1, 6]) c3_95
def c3_97 : SCode := .seq c3_12 c3_96
def c3_98 : SCode := .seq (.region c3_7 [0, 1, 5]) c3_97
def c3_99 : SCode := .seq (.region c3_6 [0, 1, 5]) c3_98
def c3_100 : SCode := .seq c3_5 c3_99
def c3_101 : SCode := .seq (.region c3_0 [0, 1]) c3_100
def c3 : SCode := c3_101
theorem w3 : type_of% (And.intro (uR Try.prog c3_0.eq_1) (And.intro (uR Try.prog c3_1.eq_1) (And.intro (uR Try.prog c3_2.eq_1) (And.intro (uC Try.prog c3_3.eq_1) (And.intro (uC Try.prog c3_4.eq_1) (And.intro (uC Try.prog c3_5.eq_1) (And.intro (uR Try.prog c3_6.eq_1) (And.intro (uR Try.prog c3_7.eq_1) (And.intro (uR Try.prog c3_8.eq_1) (And.intro (uR Try.prog c3_9.eq_1) (And.intro (uC Try.prog c3_10.eq_1) (And.intro (uC Try.prog c3_11.eq_1) (And.intro (uC Try.prog c3_12.eq_1) (And.intro (uR Try.prog c3_13.eq_1) (And.intro (uR Try.prog c3_14.eq_1) (And.intro (uR Try.prog c3_15.eq_1) (And.intro (uR Try.prog c3_16.eq_1) (And.intro (uR Try.prog c3_17.eq_1) (And.intro (uR Try.prog c3_18.eq_1) (And.intro (uC Try.prog c3_19.eq_1) (And.intro (uC Try.prog c3_20.eq_1) (And.intro (uC Try.prog c3_21.eq_1) (And.intro (uR Try.prog c3_22.eq_1) (And.intro (uR Try.prog c3_23.eq_1) (And.intro (uC Try.prog c3_24.eq_1) (And.intro (uC Try.prog c3_25.eq_1) (And.intro (uC Try.prog c3_26.eq_1) (And.intro (uR Try.prog c3_27.eq_1) (And.intro (uR Try.prog c3_28.eq_1) (And.intro (uC Try.prog c3_29.eq_1) (And.intro (uC Try.prog c3_30.eq_1) (And.intro (uC Try.prog c3_31.eq_1) (And.intro (uR Try.prog c3_32.eq_1) (And.intro (uR Try.prog c3_33.eq_1) (And.intro (uR Try.prog c3_34.eq_1) (And.intro (uR Try.prog c3_35.eq_1) (And.intro (uR Try.prog c3_36.eq_1) (And.intro (uC Try.prog c3_37.eq_1) (And.intro (uC Try.prog c3_38.eq_1) (And.intro (uC Try.prog c3_39.eq_1) (And.intro (uR Try.prog c3_40.eq_1) (And.intro (uR Try.prog c3_41.eq_1) (And.intro (uR Try.prog c3_42.eq_1) (And.intro (uR Try.prog c3_43.eq_1) (And.intro (uR Try.prog c3_44.eq_1) (And.intro (uR Try.prog c3_45.eq_1) (And.intro (uC Try.prog c3_46.eq_1) (And.intro (uC Try.prog c3_47.eq_1) (And.intro (uC Try.prog c3_48.eq_1) (And.intro (uR Try.prog c3_49.eq_1) (And.intro (uR Try.prog c3_50.eq_1) (And.intro (uC Try.prog c3_51.eq_1) (And.intro (uC Try.prog c3_52.eq_1) (And.intro (uC Try.prog c3_53.eq_1) (And.intro (uR Try.prog c3_54.eq_1) (And.intro (uR Try.prog c3_55.eq_1) (And.intro (uR Try.prog c3_56.eq_1) (And.intro (uC Try.prog c3_57.eq_1) (And.intro (uC Try.prog c3_58.eq_1) (And.intro (uC Try.prog c3_59.eq_1) (And.intro (uR Try.prog c3_60.eq_1) (And.intro (uR Try.prog c3_61.eq_1) (And.intro (uR Try.prog c3_62.eq_1) (And.intro (uR Try.prog c3_63.eq_1) (And.intro (uC Try.prog c3_64.eq_1) (And.intro (uC Try.prog c3_65.eq_1) (And.intro (uC Try.prog c3_66.eq_1) (And.intro (uR Try.prog c3_67.eq_1) (And.intro (uR Try.prog c3_68.eq_1) (And.intro (uC Try.prog c3_69.eq_1) (And.intro (uC Try.prog c3_70.eq_1) (And.intro (uC Try.prog c3_71.eq_1) (And.intro (uR Try.prog c3_72.eq_1) (And.intro (uC Try.prog c3_73.eq_1) (And.intro (uC Try.prog c3_74.eq_1) (And.intro (uC Try.prog c3_75.eq_1) (And.intro (uC Try.prog c3_76.eq_1) (And.intro (uC Try.prog c3_77.eq_1) (And.intro (uC Try.prog c3_78.eq_1) (And.intro (uC Try.prog c3_79.eq_1) (And.intro (uC Try.prog c3_80.eq_1) (And.intro (uC Try.prog c3_81.eq_1) (And.intro (uC Try.prog c3_82.eq_1) (And.intro (uC Try.prog c3_83.eq_1) (And.intro (uC Try.prog c3_84.eq_1) (And.intro (uC Try.prog c3_85.eq_1) (And.intro (uC Try.prog c3_86.eq_1) (And.intro (uC Try.prog c3_87.eq_1) (And.intro (uC Try.prog c3_88.eq_1) (And.intro (uC Try.prog c3_89.eq_1) (And.intro (uC Try.prog c3_90.eq_1) (And.intro (uC Try.prog c3_91.eq_1) (And.intro (uC Try.prog c3_92.eq_1) (And.intro (uC Try.prog c3_93.eq_1) (And.intro (uC Try.prog c3_94.eq_1) (And.intro (uC Try.prog c3_95.eq_1) (And.intro (uC Try.prog c3_96.eq_1) (And.intro (uC Try.prog c3_97.eq_1) (And.intro (uC Try.prog c3_98.eq_1) (And.intro (uC Try.prog c3_99.eq_1) (And.intro (uC Try.prog c3_100.eq_1) (And.intro (uC Try.prog c3_101.eq_1) (uC Try.prog c3.eq_1))))))))))))))))))))))))))))))))))))))))))))))))))))))))))))))))))))))))))))))))))))))))))))))))))))))) := (And.intro (uR Try.prog c3_0.eq_1) (And.intro (uR Try.prog c3_1.eq_1) (And.intro (uR Try.prog c3_2.eq_1) (And.intro (uC Try.prog c3_3.eq_1) (And.intro (uC Try.prog c3_4.eq_1) (And.intro (uC Try.prog c3_5.eq_1) (And.intro (uR Try.prog c3_6.eq_1) (And.intro (uR Try.prog c3_7.eq_1) (And.intro (uR Try.prog c3_8.eq_1) (And.intro (uR Try.prog c3_9.eq_1) (And.intro (uC Try.prog c3_10.eq_1) (And.intro (uC Try.prog c3_11.eq_1) (And.intro (uC Try.prog c3_12.eq_1) (And.intro (uR Try.prog c3_13.eq_1) (And.intro (uR Try.prog c3_14.eq_1) (And.intro (uR Try.prog c3_15.eq_1) (And.intro (uR Try.prog c3_16.eq_1) (And.intro (uR Try.prog c3_17.eq_1) (And.intro (uR Try.prog c3_18.eq_1) (And.intro (uC Try.prog c3_19.eq_1) (And.intro (uC Try.prog c3_20.eq_1) (And.intro (uC Try.prog c3_21.eq_1) (And.intro (uR Try.prog c3_22.eq_1) (And.intro (uR Try.prog c3_23.eq_1) (And.intro (uC Try.prog c3_24.eq_1) (And.intro (uC Try.prog c3_25.eq_1) (And.intro (uC Try.prog c3_26.eq_1) (And.intro (uR Try.prog c3_27.eq_1) (And.intro (uR Try.prog c3_28.eq_1) (And.intro (uC Try.prog c3_29.eq_1) (And.intro (uC Try.prog c3_30.eq_1) (And.intro (uC Try.prog c3_31.eq_1) (And.intro (uR Try.prog c3_32.eq_1) (And.intro (uR Try.prog c3_33.eq_1) (And.intro (uR Try.prog c3_34.eq_1) (And.intro (uR Try.prog c3_35.eq_1) (And.intro (uR Try.prog c3_36.eq_1) (And.intro (uC Try.prog c3_37.eq_1) (And.intro (uC Try.prog c3_38.eq_1) (And.intro (uC Try.prog c3_39.eq_1) (And.intro (uR Try.prog c3_40.eq_1) (And.intro (uR Try.prog c3_41.eq_1) (And.intro (uR Try.prog c3_42.eq_1) (And.intro (uR Try.prog c3_43.eq_1) (And.intro (uR Try.prog c3_44.eq_1) (And.intro (uR Try.prog c3_45.eq_1) (And.intro (uC Try.prog c3_46.eq_1) (And.intro (uC Try.prog c3_47.eq_1) (And.intro (uC Try.prog c3_48.eq_1) (And.intro (uR Try.prog c3_49.eq_1) (And.intro (uR Try.prog c3_50.eq_1) (And.intro (uC Try.prog c3_51.eq_1) (And.intro (uC Try.prog c3_52.eq_1) (And.intro (uC Try.prog c3_53.eq_1) (And.intro (uR Try.prog c3_54.eq_1) (And.intro (uR Try.prog c3_55.eq_1) (And.intro (uR Try.prog c3_56.eq_1) (And.intro (uC Try.prog c3_57.eq_1) (And.intro (uC Try.prog c3_58.eq_1) (And.intro (uC Try.prog c3_59.eq_1) (And.intro (uR Try.prog c3_60.eq_1) (And.intro (uR Try.prog c3_61.eq_1) (And.intro (uR Try.prog c3_62.eq_1) (And.intro (uR Try.prog c3_63.eq_1) (And.intro (uC Try.prog c3_64.eq_1) (And.intro (uC Try.prog c3_65.eq_1) (And.intro (uC Try.prog c3_66.eq_1) (And.intro (uR Try.prog c3_67.eq_1) (And.intro (uR Try.prog c3_68.eq_1) (And.intro (uC Try.prog c3_69.eq_1) (And.intro (uC Try.prog c3_70.eq_1) (And.intro (uC Try.prog c3_71.eq_1) (And.intro (uR Try.prog c3_72.eq_1) (And.intro (uC Try.prog c3_73.eq_1) (And.intro (uC Try.prog c3_74.eq_1) (And.intro (uC Try.prog c3_75.eq_1) (And.intro (uC Try.prog c3_76.eq_1) (And.intro (uC Try.prog c3_77.eq_1) (And.intro (uC Try.prog c3_78.eq_1) (And.intro (uC Try.prog c3_79.eq_1) (And.intro (uC Try.prog c3_80.eq_1) (And.intro (uC Try.prog c3_81.eq_1) (And.intro (uC Try.prog c3_82.eq_1) (And.intro (uC Try.prog c3_83.eq_1) (And.intro (uC Try.prog c3_84.eq_1) (And.intro (uC Try.prog c3_85.eq_1) (And.intro (uC Try.prog c3_86.eq_1) (And.intro (uC Try.prog c3_87.eq_1) (And.intro (uC Try.prog c3_88.eq_1) (And.intro (uC Try.prog c3_89.eq_1) (And.intro (uC Try.prog c3_90.eq_1) (And.intro (uC Try.prog c3_91.eq_1) (And.intro (uC Try.prog c3_92.eq_1) (And.intro (uC Try.prog c3_93.eq_1) (And.intro (uC Try.prog c3_94.eq_1) (And.intro (uC Try.prog c3_95.eq_1) (And.intro (uC Try.prog c3_96.eq_1) (And.intro (uC Try.prog c3_97.eq_1) (And.intro (uC Try.prog c3_98.eq_1) (And.intro (uC Try.prog c3_99.eq_1) (And.intro (uC Try.prog c3_100.eq_1) (And.intro (uC Try.prog c3_101.eq_1) (uC Try.prog c3.eq_1)))))))))))))))))))))))))))))))))))))))))))))))))))))))))))))))))))))))))))))))))))))))))))))))))))))))
def v3 : List RV := [.t 4]
theorem s3 : slimF Try.prog Try.f3 = some (c3.bare, v3) := by kernel_rfl

theorem FnExactDirty_ok (h : Heap) (vj : Value) (j : List Task) (vch : Value) (ch : List Int) (sj : JobAt h vj j) (hlj : j.length ≤ 9223372036854775807) (hnj : ∀ t ∈ j, t.needs.length ≤ 9223372036854775807) (sch : SlT h encI 1 vch ch) (hlch : ch.length ≤ 9223372036854775807) :
    ACall Try.prog 3 [vj, vch] h fun r h' => r = .bool true := by
  refine ACall.of Try.func3 s3 (of_decide_eq_true rfl) ?_
  simp (maxSteps := 4000000) (disch := omega) only [ah, am, Nat.reduceEqDiff, reduceCtorEq, Nat.reduceAdd, Nat.reduceLeDiff, Nat.reduceMul, Nat.reduceLT, if_true, if_false, true_and, and_true, and_self, Nat.reduceBEq, QOp.loads, boxO, bslO, buildO, cutL, fillV, putL, w3, v3]
  have Rch := sch.rulesN
  simp (maxSteps := 4000000) (disch := omega) only [ah, am, Nat.reduceEqDiff, reduceCtorEq, Nat.reduceAdd, Nat.reduceLeDiff, Nat.reduceMul, Nat.reduceLT, if_true, if_false, true_and, and_true, and_self, Nat.reduceBEq, QOp.loads, boxO, bslO, buildO, cutL, fillV, putL, w3, v3, Rch]
  refine stepI.split (fun hdch => ?_) (fun hdch => ?_)
  · simp (maxSteps := 4000000) (disch := omega) only [ah, am, Nat.reduceEqDiff, reduceCtorEq, Nat.reduceAdd, Nat.reduceLeDiff, Nat.reduceMul, Nat.reduceLT, if_true, if_false, true_and, and_true, and_self, Nat.reduceBEq, QOp.loads, boxO, bslO, buildO, cutL, fillV, putL, w3, v3]
  simp (maxSteps := 4000000) (disch := omega) only [ah, am, Nat.reduceEqDiff, reduceCtorEq, Nat.reduceAdd, Nat.reduceLeDiff, Nat.reduceMul, Nat.reduceLT, if_true, if_false, true_and, and_true, and_self, Nat.reduceBEq, QOp.loads, boxO, bslO, buildO, cutL, fillV, putL, w3, v3]
  have hllch : ch.length ≤ 1048576 := by omega
  refine stepC.of (szTaskS_ok _ vj j (1048576) sj (by omega) (by omega) hlj hnj) ?_
  rintro _ H1 ⟨eH1, zj, rfl, hzj⟩
  have E1 := (show Ext h _ from eH1)
  have zE1 := eH1.1
  simp (maxSteps := 4000000) (disch := omega) only [ah, am, Nat.reduceEqDiff, reduceCtorEq, Nat.reduceAdd, Nat.reduceLeDiff, Nat.reduceMul, Nat.reduceLT, if_true, if_false, true_and, and_true, and_self, Nat.reduceBEq, QOp.loads, boxO, bslO, buildO, cutL, fillV, putL, w3, v3]
  by_cases hsz0 : zj < 0
  · simp (maxSteps := 4000000) (disch := omega) only [ah, am, Nat.reduceEqDiff, reduceCtorEq, Nat.reduceAdd, Nat.reduceLeDiff, Nat.reduceMul, Nat.reduceLT, if_true, if_false, true_and, and_true, and_self, Nat.reduceBEq, QOp.loads, boxO, bslO, buildO, cutL, fillV, putL, w3, v3, decide_eq_true hsz0]
  have hzzj : (zj : Int) = 1048576 - j.length - totN j := by omega
  simp (maxSteps := 4000000) (disch := omega) only [ah, am, Nat.reduceEqDiff, reduceCtorEq, Nat.reduceAdd, Nat.reduceLeDiff, Nat.reduceMul, Nat.reduceLT, if_true, if_false, true_and, and_true, and_self, Nat.reduceBEq, QOp.loads, boxO, bslO, buildO, cutL, fillV, putL, w3, v3, decide_eq_false hsz0]
  have hllj : j.length ≤ 1048576 ∧ totN j ≤ 1048576 := by omega
  have hF := dirtyF_length j ch
  refine stepC.of (toTaskS_ok _ _ _ (sj.ext E1) hllj.1 hllj.2) ?_
  rintro tpj H2 ⟨Fpj, Mpj⟩
  have E2 := Ext.trans E1 Fpj
  have zE2 := Fpj.1
  simp (maxSteps := 4000000) (disch := omega) only [ah, am, Nat.reduceEqDiff, reduceCtorEq, Nat.reduceAdd, Nat.reduceLeDiff, Nat.reduceMul, Nat.reduceLT, if_true, if_false, true_and, and_true, and_self, Nat.reduceBEq, QOp.loads, boxO, bslO, buildO, cutL, fillV, putL, w3, v3]
  refine stepC.of (toInt64S_ok _ _ _ (sch.ext E2) hllch) ?_
  intro tpch H3 Fpch
  have Mpj := Mpj.ext Fpch.1
  have E3 := Ext.trans E2 Fpch.1
  have zE3 := Fpch.1.1
  have Mpch := Fpch.mine
  simp (maxSteps := 4000000) (disch := omega) only [ah, am, Nat.reduceEqDiff, reduceCtorEq, Nat.reduceAdd, Nat.reduceLeDiff, Nat.reduceMul, Nat.reduceLT, if_true, if_false, true_and, and_true, and_self, Nat.reduceBEq, QOp.loads, boxO, bslO, buildO, cutL, fillV, putL, w3, v3]
  refine stepC.of (specDirty_ok _ _ _ _ _ Mpj.at Mpch.slt (by omega) (by omega)) ?_
  intro w0 H4 Fw
  have Mpj := Mpj.ext Fw.1
  have Mpch := Mpch.ext Fw.1
  have E4 := Ext.trans E3 Fw.1
  have zE4 := Fw.1.1
  have Mw := Fw.mine
  simp (maxSteps := 4000000) (disch := omega) only [ah, am, Nat.reduceEqDiff, reduceCtorEq, Nat.reduceAdd, Nat.reduceLeDiff, Nat.reduceMul, Nat.reduceLT, if_true, if_false, true_and, and_true, and_self, Nat.reduceBEq, QOp.loads, boxO, bslO, buildO, cutL, fillV, putL, w3, v3]
  refine stepC.of (toTaskS_ok _ _ _ (sj.ext E4) hllj.1 hllj.2) ?_
  rintro txj H5 ⟨Fxj, Mxj⟩
  have Mw := Mw.ext Fxj
  have E5 := Ext.trans E4 Fxj
  have zE5 := Fxj.1
  simp (maxSteps := 4000000) (disch := omega) only [ah, am, Nat.reduceEqDiff, reduceCtorEq, Nat.reduceAdd, Nat.reduceLeDiff, Nat.reduceMul, Nat.reduceLT, if_true, if_false, true_and, and_true, and_self, Nat.reduceBEq, QOp.loads, boxO, bslO, buildO, cutL, fillV, putL, w3, v3]
  refine stepC.of (toInt64S_ok _ _ _ (sch.ext E5) hllch) ?_
  intro txch H6 Fxch
  have Mw := Mw.ext Fxch.1
  have Mxj := Mxj.ext Fxch.1
  have E6 := Ext.trans E5 Fxch.1
  have zE6 := Fxch.1.1
  have Mxch := Fxch.mine
  simp (maxSteps := 4000000) (disch := omega) only [ah, am, Nat.reduceEqDiff, reduceCtorEq, Nat.reduceAdd, Nat.reduceLeDiff, Nat.reduceMul, Nat.reduceLT, if_true, if_false, true_and, and_true, and_self, Nat.reduceBEq, QOp.loads, boxO, bslO, buildO, cutL, fillV, putL, w3, v3]
  refine stepC.of (Dirty_ok _ _ _ _ _ Mxj.at Mxch.slt (by omega) (by omega)) ?_
  intro g0 H7 Fg
  have Mw := Mw.ext Fg.1
  have Mxj := Mxj.ext Fg.1
  have Mxch := Mxch.ext Fg.1
  have E7 := Ext.trans E6 Fg.1
  have zE7 := Fg.1.1
  have Mg := Fg.mine
  generalize hR : dirtyF j ch = rl at Mw Mg hF
  simp (maxSteps := 4000000) (disch := omega) only [ah, am, Nat.reduceEqDiff, reduceCtorEq, Nat.reduceAdd, Nat.reduceLeDiff, Nat.reduceMul, Nat.reduceLT, if_true, if_false, true_and, and_true, and_self, Nat.reduceBEq, QOp.loads, boxO, bslO, buildO, cutL, fillV, putL, w3, v3]
  refine stepC.of (eqInt64S_ok _ _ _ _ _ Mg.slt Mw.slt (by omega) (by omega)) ?_
  rintro _ H8 ⟨eH8, rfl⟩
  have Mw := Mw.ext eH8
  have Mxj := Mxj.ext eH8
  have Mxch := Mxch.ext eH8
  have Mg := Mg.ext eH8
  have E8 := Ext.trans E7 eH8
  have zE8 := eH8.1
  simp (maxSteps := 4000000) (disch := omega) only [ah, am, Nat.reduceEqDiff, reduceCtorEq, Nat.reduceAdd, Nat.reduceLeDiff, Nat.reduceMul, Nat.reduceLT, if_true, if_false, true_and, and_true, and_self, Nat.reduceBEq, QOp.loads, boxO, bslO, buildO, cutL, fillV, putL, w3, v3, eq_self, decide_true]
  refine stepC.of (toTaskS_ok _ _ _ (sj.ext E8) hllj.1 hllj.2) ?_
  rintro tyj H9 ⟨Fyj, Myj⟩
  have Mw := Mw.ext Fyj
  have Mxj := Mxj.ext Fyj
  have Mxch := Mxch.ext Fyj
  have Mg := Mg.ext Fyj
  have E9 := Ext.trans E8 Fyj
  have zE9 := Fyj.1
  simp (maxSteps := 4000000) (disch := omega) only [ah, am, Nat.reduceEqDiff, reduceCtorEq, Nat.reduceAdd, Nat.reduceLeDiff, Nat.reduceMul, Nat.reduceLT, if_true, if_false, true_and, and_true, and_self, Nat.reduceBEq, QOp.loads, boxO, bslO, buildO, cutL, fillV, putL, w3, v3]
  refine stepC.of (eqTaskS_ok _ _ _ _ _ Mxj.at Myj.at (by omega) (by omega) (by omega) (by omega)) ?_
  rintro _ H10 ⟨eH10, rfl⟩
  have Mw := Mw.ext eH10
  have Mxj := Mxj.ext eH10
  have Mxch := Mxch.ext eH10
  have Mg := Mg.ext eH10
  have Myj := Myj.ext eH10
  have E10 := Ext.trans E9 eH10
  have zE10 := eH10.1
  simp (maxSteps := 4000000) (disch := omega) only [ah, am, Nat.reduceEqDiff, reduceCtorEq, Nat.reduceAdd, Nat.reduceLeDiff, Nat.reduceMul, Nat.reduceLT, if_true, if_false, true_and, and_true, and_self, Nat.reduceBEq, QOp.loads, boxO, bslO, buildO, cutL, fillV, putL, w3, v3, eq_self, decide_true]
  refine stepC.of (toInt64S_ok _ _ _ (sch.ext E10) hllch) ?_
  intro tych H11 Fych
  have Mw := Mw.ext Fych.1
  have Mxj := Mxj.ext Fych.1
  have Mxch := Mxch.ext Fych.1
  have Mg := Mg.ext Fych.1
  have E11 := Ext.trans E10 Fych.1
  have zE11 := Fych.1.1
  have Mych := Fych.mine
  simp (maxSteps := 4000000) (disch := omega) only [ah, am, Nat.reduceEqDiff, reduceCtorEq, Nat.reduceAdd, Nat.reduceLeDiff, Nat.reduceMul, Nat.reduceLT, if_true, if_false, true_and, and_true, and_self, Nat.reduceBEq, QOp.loads, boxO, bslO, buildO, cutL, fillV, putL, w3, v3]
  refine stepC.of (eqInt64S_ok _ _ _ _ _ Mxch.slt Mych.slt (by omega) (by omega)) ?_
  rintro _ H12 ⟨eH12, rfl⟩
  have Mw := Mw.ext eH12
  have Mxj := Mxj.ext eH12
  have Mxch := Mxch.ext eH12
  have Mg := Mg.ext eH12
  have Mych := Mych.ext eH12
  have E12 := Ext.trans E11 eH12
  have zE12 := eH12.1
  simp (maxSteps := 4000000) (disch := omega) only [ah, am, Nat.reduceEqDiff, reduceCtorEq, Nat.reduceAdd, Nat.reduceLeDiff, Nat.reduceMul, Nat.reduceLT, if_true, if_false, true_and, and_true, and_self, Nat.reduceBEq, QOp.loads, boxO, bslO, buildO, cutL, fillV, putL, w3, v3, eq_self, decide_true]
  refine stepC.of (markTaskS_mine (1) Mxj (by omega) (by omega) (by omega)) ?_
  rintro _ H13 ⟨cH13, rfl⟩
  have Mw := Mw.chg cH13 (by omega)
  have Mxch := Mxch.chg cH13 (by omega)
  have Mg := Mg.chg cH13 (by omega)
  have E13 := cH13.ext E12 (by omega)
  have zE13 := cH13.1
  simp (maxSteps := 4000000) (disch := omega) only [ah, am, Nat.reduceEqDiff, reduceCtorEq, Nat.reduceAdd, Nat.reduceLeDiff, Nat.reduceMul, Nat.reduceLT, if_true, if_false, true_and, and_true, and_self, Nat.reduceBEq, QOp.loads, boxO, bslO, buildO, cutL, fillV, putL, w3, v3]
  refine stepC.of (markInt64S_mine (1 + 3 * j.length + totN j) Mxch (by omega) (by omega)) ?_
  rintro _ H14 ⟨cH14, Mxch', rfl⟩
  have Mw := Mw.chg cH14 (by omega)
  have Mg := Mg.chg cH14 (by omega)
  have Mxch := Mxch'
  have E14 := cH14.ext E13 (by omega)
  have zE14 := cH14.1
  have hk : decide (((1 : Int) + 3 * j.length + totN j + ch.length : Int) < 0) = false := decide_eq_false (by omega)
  simp (maxSteps := 4000000) (disch := omega) only [ah, am, Nat.reduceEqDiff, reduceCtorEq, Nat.reduceAdd, Nat.reduceLeDiff, Nat.reduceMul, Nat.reduceLT, if_true, if_false, true_and, and_true, and_self, Nat.reduceBEq, QOp.loads, boxO, bslO, buildO, cutL, fillV, putL, w3, v3, hk]
  refine stepC.of (eqInt64S_ok _ _ _ _ _ Mg.slt Mw.slt (by omega) (by omega)) ?_
  rintro _ H15 ⟨eH15, rfl⟩
  have Mw := Mw.ext eH15
  have Mxch := Mxch.ext eH15
  have Mg := Mg.ext eH15
  have E15 := Ext.trans E14 eH15
  have zE15 := eH15.1
  simp (maxSteps := 4000000) (disch := omega) only [ah, am, Nat.reduceEqDiff, reduceCtorEq, Nat.reduceAdd, Nat.reduceLeDiff, Nat.reduceMul, Nat.reduceLT, if_true, if_false, true_and, and_true, and_self, Nat.reduceBEq, QOp.loads, boxO, bslO, buildO, cutL, fillV, putL, w3, v3, eq_self, decide_true]
  refine stepC.of (markInt64S_mine (1) Mg (by omega) (by omega)) ?_
  rintro _ H16 ⟨cH16, Mg', rfl⟩
  have Mw := Mw.chg cH16 (by omega)
  have Mg := Mg'
  have E16 := cH16.ext E15 (by omega)
  have zE16 := cH16.1
  have hm : decide ((1 : Int) + rl.length < 0) = false := decide_eq_false (by omega)
  simp (maxSteps := 4000000) (disch := omega) only [ah, am, Nat.reduceEqDiff, reduceCtorEq, Nat.reduceAdd, Nat.reduceLeDiff, Nat.reduceMul, Nat.reduceLT, if_true, if_false, true_and, and_true, and_self, Nat.reduceBEq, QOp.loads, boxO, bslO, buildO, cutL, fillV, putL, w3, v3]
  refine stepC.of (heldInt64S_ok _ _ _ 1 Mg.slt (by omega) (by omega)) ?_
  rintro _ Hx ⟨hx, rfl⟩; rw [hx]; clear hx Hx
  simp (maxSteps := 4000000) (disch := omega) only [ah, am, Nat.reduceEqDiff, reduceCtorEq, Nat.reduceAdd, Nat.reduceLeDiff, Nat.reduceMul, Nat.reduceLT, if_true, if_false, true_and, and_true, and_self, Nat.reduceBEq, QOp.loads, boxO, bslO, buildO, cutL, fillV, putL, w3, v3, hm, eq_self, decide_true]
  refine stepC.of (toTaskS_ok _ _ _ (sj.ext E16) hllj.1 hllj.2) ?_
  rintro tqj H17 ⟨Fqj, Mqj⟩
  have Mw := Mw.ext Fqj
  have Mg := Mg.ext Fqj
  have E17 := Ext.trans E16 Fqj
  have zE17 := Fqj.1
  simp (maxSteps := 4000000) (disch := omega) only [ah, am, Nat.reduceEqDiff, reduceCtorEq, Nat.reduceAdd, Nat.reduceLeDiff, Nat.reduceMul, Nat.reduceLT, if_true, if_false, true_and, and_true, and_self, Nat.reduceBEq, QOp.loads, boxO, bslO, buildO, cutL, fillV, putL, w3, v3]
  refine stepC.of (toInt64S_ok _ _ _ (sch.ext E17) hllch) ?_
  intro tqch H18 Fqch
  have Mw := Mw.ext Fqch.1
  have Mg := Mg.ext Fqch.1
  have Mqj := Mqj.ext Fqch.1
  have E18 := Ext.trans E17 Fqch.1
  have zE18 := Fqch.1.1
  have Mqch := Fqch.mine
  simp (maxSteps := 4000000) (disch := omega) only [ah, am, Nat.reduceEqDiff, reduceCtorEq, Nat.reduceAdd, Nat.reduceLeDiff, Nat.reduceMul, Nat.reduceLT, if_true, if_false, true_and, and_true, and_self, Nat.reduceBEq, QOp.loads, boxO, bslO, buildO, cutL, fillV, putL, w3, v3]
  refine stepC.of (Dirty_ok _ _ _ _ _ Mqj.at Mqch.slt (by omega) (by omega)) ?_
  intro k0 H19 Fk
  have Mw := Mw.ext Fk.1
  have Mg := Mg.ext Fk.1
  have Mqj := Mqj.ext Fk.1
  have Mqch := Mqch.ext Fk.1
  have E19 := Ext.trans E18 Fk.1
  have zE19 := Fk.1.1
  have Mk := Fk.mine
  rw [hR] at Mk
  simp (maxSteps := 4000000) (disch := omega) only [ah, am, Nat.reduceEqDiff, reduceCtorEq, Nat.reduceAdd, Nat.reduceLeDiff, Nat.reduceMul, Nat.reduceLT, if_true, if_false, true_and, and_true, and_self, Nat.reduceBEq, QOp.loads, boxO, bslO, buildO, cutL, fillV, putL, w3, v3]
  refine stepC.of (eqInt64S_ok _ _ _ _ _ Mk.slt Mw.slt (by omega) (by omega)) ?_
  rintro _ H20 ⟨eH20, rfl⟩
  have Mw := Mw.ext eH20
  have Mg := Mg.ext eH20
  have Mqj := Mqj.ext eH20
  have Mqch := Mqch.ext eH20
  have Mk := Mk.ext eH20
  have E20 := Ext.trans E19 eH20
  have zE20 := eH20.1
  simp (maxSteps := 4000000) (disch := omega) only [ah, am, Nat.reduceEqDiff, reduceCtorEq, Nat.reduceAdd, Nat.reduceLeDiff, Nat.reduceMul, Nat.reduceLT, if_true, if_false, true_and, and_true, and_self, Nat.reduceBEq, QOp.loads, boxO, bslO, buildO, cutL, fillV, putL, w3, v3, eq_self, decide_true]
  refine stepC.of (heldInt64S_ok _ _ _ 1 Mg.slt (by omega) (by omega)) ?_
  rintro _ Hx ⟨hx, rfl⟩; rw [hx]; clear hx Hx
  simp (maxSteps := 4000000) (disch := omega) only [ah, am, Nat.reduceEqDiff, reduceCtorEq, Nat.reduceAdd, Nat.reduceLeDiff, Nat.reduceMul, Nat.reduceLT, if_true, if_false, true_and, and_true, and_self, Nat.reduceBEq, QOp.loads, boxO, bslO, buildO, cutL, fillV, putL, w3, v3, hm, eq_self, decide_true]
end Go.Proofs.Ytbnkpligdcponaa
