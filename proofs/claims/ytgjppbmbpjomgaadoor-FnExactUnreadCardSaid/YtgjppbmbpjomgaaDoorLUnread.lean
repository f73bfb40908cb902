import Derived.Test.YtgjppbmbpjomgaaDoorQ7
namespace Go.Proofs.YtgjppbmbpjomgaaDoor
open Go Go.Ah
set_option linter.unusedSimpArgs false
set_option linter.unusedVariables false
set_option maxRecDepth 10000
set_option maxHeartbeats 4000000
/-! 4 loop.example/g00066/laws.FnExactUnread: parameters 2, live [0, 1], slots [0:aList, 1:aS, 2:aList, 3:aS, 5:left, 6:w0, 7:x0, 8:g0, 9:k, 10:m, 11:q, 12:h0] -/
def c4_0 : List SOper := [⟨some 3, .a (.box (.t 1)), none⟩, ⟨some 4, .q (.mv (.c (.bool false))), none⟩]
def c4_1 : List SOper := [⟨some 5, .q (.mv (.c (.int .i64 1048576))), none⟩]
def c4_2 : List SOper := [⟨some 13, .q (.mv (.t 0)), none⟩, ⟨some 14, .q (.mv (.t 5)), none⟩, ⟨some 15, .e (.call 11 [(.t 13), (.t 14)]), none⟩, ⟨some 5, .q (.mv (.t 15)), none⟩]
def c4_3 : List SOper := [⟨some 16, .q (.mv (.t 5)), none⟩, ⟨some 17, .q (.bin .lss (.t 16) (.c (.int .i64 0))), none⟩]
def c4_4 : List SOper := [⟨some 4, .q (.mv (.c (.bool true))), none⟩]
def c4_5 : SCode := .seq (.region c4_4 [4]) .ret
def c4_6 : SCode := .cond (.t 17) c4_5 .skip
def c4_7 : SCode := .seq (.region c4_3 [0, 3, 17]) c4_6
def c4_8 : List DOper := [⟨0, ⟨some 18, .q (.mv (.t 0)), none⟩, [], []⟩, ⟨2, ⟨some 20, .q (.ldn 5 (.t 3)), none⟩, [], []⟩, ⟨1, ⟨some 19, .e (.call 12 [(.t 18)]), none⟩, [], [2]⟩, ⟨3, ⟨some 21, .e (.call 13 [(.t 20)]), none⟩, [], []⟩, ⟨4, ⟨some 22, .e (.call 8 [(.t 19), (.t 21)]), none⟩, [], []⟩, ⟨5, ⟨some 6, .q (.mv (.t 22)), none⟩, [], []⟩]
def c4_9 : List SOper := [⟨some 23, .q (.mv (.t 0)), none⟩, ⟨some 24, .e (.call 12 [(.t 23)]), none⟩, ⟨some 7, .q (.mv (.t 24)), none⟩]
def c4_10 : List SOper := [⟨some 25, .q (.mv (.t 7)), none⟩, ⟨some 26, .q (.ldn 5 (.t 3)), none⟩, ⟨some 27, .e (.call 13 [(.t 26)]), none⟩, ⟨some 28, .e (.call 7 [(.t 25), (.t 27)]), none⟩, ⟨some 8, .q (.mv (.t 28)), none⟩]
def c4_11 : List SOper := [⟨some 29, .q (.mv (.t 8)), none⟩, ⟨some 30, .q (.mv (.t 6)), none⟩, ⟨some 31, .e (.call 14 [(.t 29), (.t 30)]), none⟩, ⟨some 32, .q (.not (.t 31)), none⟩]
def c4_12 : List SOper := [⟨some 4, .q (.mv (.c (.bool false))), none⟩]
def c4_13 : SCode := .seq (.region c4_12 [4]) .ret
def c4_14 : SCode := .cond (.t 32) c4_13 .skip
def c4_15 : SCode := .seq (.region c4_11 [0, 3, 6, 7, 8, 32]) c4_14
def c4_16 : List SOper := [⟨some 33, .q (.mv (.t 7)), none⟩, ⟨some 34, .q (.mv (.t 0)), none⟩, ⟨some 35, .e (.call 12 [(.t 34)]), none⟩, ⟨some 36, .e (.call 15 [(.t 33), (.t 35)]), none⟩, ⟨some 37, .q (.not (.t 36)), none⟩]
def c4_17 : List SOper := [⟨some 4, .q (.mv (.c (.bool false))), none⟩]
def c4_18 : SCode := .seq (.region c4_17 [4]) .ret
def c4_19 : SCode := .cond (.t 37) c4_18 .skip
def c4_20 : SCode := .seq (.region c4_16 [0, 3, 6, 7, 8, 37]) c4_19
def c4_21 : List SOper := [⟨some 9, .q (.mv (.c (.int .i64 1))), none⟩]
def c4_22 : List SOper := [⟨some 38, .q (.mv (.t 7)), none⟩, ⟨some 39, .q (.mv (.t 9)), none⟩, ⟨some 40, .e (.call 16 [(.t 38), (.t 39)]), none⟩, ⟨some 9, .q (.mv (.t 40)), none⟩]
def c4_23 : List SOper := [⟨some 41, .q (.mv (.t 9)), none⟩, ⟨some 42, .q (.bin .lss (.t 41) (.c (.int .i64 0))), none⟩, ⟨some 43, .q (.mv (.t 42)), none⟩, ⟨some 44, .q (.mv (.t 8)), some (43, false)⟩, ⟨some 45, .q (.mv (.t 6)), some (43, false)⟩, ⟨some 46, .e (.call 14 [(.t 44), (.t 45)]), some (43, false)⟩, ⟨some 47, .q (.not (.t 46)), some (43, false)⟩, ⟨some 48, .q (.pick (.t 43) (.c (.bool true)) (.t 47)), none⟩]
def c4_24 : List SOper := [⟨some 4, .q (.mv (.c (.bool false))), none⟩]
def c4_25 : SCode := .seq (.region c4_24 [4]) .ret
def c4_26 : SCode := .cond (.t 48) c4_25 .skip
def c4_27 : SCode := .seq (.region c4_23 [0, 3, 6, 8, 48]) c4_26
def c4_28 : List SOper := [⟨some 10, .q (.mv (.c (.int .i64 1))), none⟩]
def c4_29 : List SOper := [⟨some 49, .q (.mv (.t 8)), none⟩, ⟨some 50, .q (.mv (.t 10)), none⟩, ⟨some 51, .e (.call 17 [(.t 49), (.t 50)]), none⟩, ⟨some 10, .q (.mv (.t 51)), none⟩]
def c4_30 : List SOper := [⟨some 11, .q (.mv (.c (.int .i64 1))), none⟩]
def c4_31 : List SOper := [⟨some 52, .q (.mv (.t 8)), none⟩, ⟨some 53, .q (.mv (.t 11)), none⟩, ⟨some 54, .e (.call 18 [(.t 52), (.t 53)]), none⟩, ⟨some 11, .q (.mv (.t 54)), none⟩]
def c4_32 : List SOper := [⟨some 55, .q (.mv (.t 11)), none⟩, ⟨some 56, .q (.bin .lss (.t 55) (.c (.int .i64 0))), none⟩]
def c4_33 : List SOper := [⟨some 4, .q (.mv (.c (.bool false))), none⟩]
def c4_34 : SCode := .seq (.region c4_33 [4]) .ret
def c4_35 : SCode := .cond (.t 56) c4_34 .skip
def c4_36 : SCode := .seq (.region c4_32 [0, 3, 6, 8, 10, 11, 56]) c4_35
def c4_37 : List SOper := [⟨some 57, .q (.mv (.t 11)), none⟩, ⟨some 58, .q (.mv (.t 10)), none⟩, ⟨some 59, .q (.bin .neq (.t 57) (.t 58)), none⟩]
def c4_38 : List SOper := [⟨some 4, .q (.mv (.c (.bool false))), none⟩]
def c4_39 : SCode := .seq (.region c4_38 [4]) .ret
def c4_40 : SCode := .cond (.t 59) c4_39 .skip
def c4_41 : SCode := .seq (.region c4_37 [0, 3, 6, 8, 10, 59]) c4_40
def c4_42 : List DOper := [⟨0, ⟨some 60, .q (.mv (.t 0)), none⟩, [], []⟩, ⟨2, ⟨some 62, .q (.ldn 5 (.t 3)), none⟩, [], []⟩, ⟨1, ⟨some 61, .e (.call 12 [(.t 60)]), none⟩, [], [2]⟩, ⟨3, ⟨some 63, .e (.call 13 [(.t 62)]), none⟩, [], []⟩, ⟨4, ⟨some 64, .e (.call 7 [(.t 61), (.t 63)]), none⟩, [], []⟩, ⟨5, ⟨some 12, .q (.mv (.t 64)), none⟩, [], []⟩]
def c4_43 : List SOper := [⟨some 65, .q (.mv (.t 12)), none⟩, ⟨some 66, .q (.mv (.t 6)), none⟩, ⟨some 67, .e (.call 14 [(.t 65), (.t 66)]), none⟩, ⟨some 68, .q (.not (.t 67)), none⟩]
def c4_44 : List SOper := [⟨some 4, .q (.mv (.c (.bool false))), none⟩]
def c4_45 : SCode := .seq (.region c4_44 [4]) .ret
def c4_46 : SCode := .cond (.t 68) c4_45 .skip
def c4_47 : SCode := .seq (.region c4_43 [8, 10, 68]) c4_46
def c4_48 : List SOper := [⟨some 11, .q (.mv (.c (.int .i64 1))), none⟩]
def c4_49 : List SOper := [⟨some 69, .q (.mv (.t 8)), none⟩, ⟨some 70, .q (.mv (.t 11)), none⟩, ⟨some 71, .e (.call 18 [(.t 69), (.t 70)]), none⟩, ⟨some 11, .q (.mv (.t 71)), none⟩]
def c4_50 : List SOper := [⟨some 72, .q (.mv (.t 11)), none⟩, ⟨some 73, .q (.bin .lss (.t 72) (.c (.int .i64 0))), none⟩]
def c4_51 : List SOper := [⟨some 4, .q (.mv (.c (.bool false))), none⟩]
def c4_52 : SCode := .seq (.region c4_51 [4]) .ret
def c4_53 : SCode := .cond (.t 73) c4_52 .skip
def c4_54 : SCode := .seq (.region c4_50 [10, 11, 73]) c4_53
def c4_55 : List SOper := [⟨some 74, .q (.mv (.t 11)), none⟩, ⟨some 75, .q (.mv (.t 10)), none⟩, ⟨some 76, .q (.bin .neq (.t 74) (.t 75)), none⟩]
def c4_56 : List SOper := [⟨some 4, .q (.mv (.c (.bool false))), none⟩]
def c4_57 : SCode := .seq (.region c4_56 [4]) .ret
def c4_58 : SCode := .cond (.t 76) c4_57 .skip
def c4_59 : SCode := .seq (.region c4_55 [76]) c4_58
def c4_60 : List SOper := [⟨some 4, .q (.mv (.c (.bool true))), none⟩]
def c4_61 : SCode := .seq (.region c4_60 [4]) .ret
def c4_62 : SCode := .seq c4_59 c4_61
def c4_63 : SCode := .seq c4_54 c4_62
def c4_64 : SCode := .seq (.region c4_49 [10, 11]) c4_63
def c4_65 : SCode := .seq (.region c4_48 [8, 10, 11]) c4_64
def c4_66 : SCode := .seq c4_47 c4_65
def c4_67 : SCode := .seq (.dregion c4_42 [6, 8, 10, 12]) c4_66
def c4_68 : SCode := .seq c4_41 c4_67
def c4_69 : SCode := .seq c4_36 c4_68
def c4_70 : SCode := .seq (.region c4_31 [0, 3, 6, 8, 10, 11]) c4_69
def c4_71 : SCode := .seq (.region c4_30 [0, 3, 6, 8, 10, 11]) c4_70
def c4_72 : SCode := .seq (.region c4_29 [0, 3, 6, 8, 10]) c4_71
def c4_73 : SCode := .seq (.region c4_28 [0, 3, 6, 8, 10]) c4_72
def c4_74 : SCode := .seq c4_27 c4_73
def c4_75 : SCode := .seq (.region c4_22 [0, 3, 6, 8, 9]) c4_74
def c4_76 : SCode := .seq (.region c4_21 [0, 3, 6, 7, 8, 9]) c4_75
def c4_77 : SCode := .seq c4_20 c4_76
def c4_78 : SCode := .seq c4_15 c4_77
def c4_79 : SCode := .seq (.region c4_10 [0, 3, 6, 7, 8]) c4_78
def c4_80 : SCode := .seq (.region c4_9 [0, 3, 6, 7]) c4_79
def c4_81 : SCode := .seq (.dregion c4_8 [0, 3, 6]) c4_80
def c4_82 : SCode := .seq c4_7 c4_81
def c4_83 : SCode := .seq (.region c4_2 [0, 3, 5]) c4_82
def c4_84 : SCode := .seq (.region c4_1 [0, 3, 5]) c4_83
def c4_85 : SCode := .seq (.region c4_0 [0, 3]) c4_84
def c4 : SCode := c4_85
theorem w4 : type_of% (And.intro (uR Tryd.prog c4_0.eq_1) (And.intro (uR Tryd.prog c4_1.eq_1) (And.intro (uR Tryd.prog c4_2.eq_1) (And.intro (uR Tryd.prog c4_3.eq_1) (And.intro (uR Tryd.prog c4_4.eq_1) (And.intro (uC Tryd.prog c4_5.eq_1) (And.intro (uC Tryd.prog c4_6.eq_1) (And.intro (uC Tryd.prog c4_7.eq_1) (And.intro (uD Tryd.prog c4_8.eq_1) (And.intro (uR Tryd.prog c4_9.eq_1) (And.intro (uR Tryd.prog c4_10.eq_1) (And.intro (uR Tryd.prog c4_11.eq_1) (And.intro (uR Tryd.prog c4_12.eq_1) (And.intro (uC Tryd.prog c4_13.eq_1) (And.intro (uC Tryd.prog c4_14.eq_1) (And.intro (uC Tryd.prog c4_15.eq_1) (And.intro (uR Tryd.prog c4_16.eq_1) (And.intro (uR Tryd.prog c4_17.eq_1) (And.intro (uC Tryd.prog c4_18.eq_1) (And.intro (uC Tryd.prog c4_19.eq_1) (And.intro (uC Tryd.prog c4_20.eq_1) (And.intro (uR Tryd.prog c4_21.eq_1) (And.intro (uR Tryd.prog c4_22.eq_1) (And.intro (uR Tryd.prog c4_23.eq_1) (And.intro (uR Tryd.prog c4_24.eq_1) (And.intro (uC Tryd.prog c4_25.eq_1) (And.intro (uC Tryd.prog c4_26.eq_1) (And.intro (uC Tryd.prog c4_27.eq_1) (And.intro (uR Tryd.prog c4_28.eq_1) (And.intro (uR Tryd.prog c4_29.eq_1) (And.intro (uR Tryd.prog c4_30.eq_1) (And.intro (uR Tryd.prog c4_31.eq_1) (And.intro (uR Tryd.prog c4_32.eq_1) (And.intro (uR Tryd.prog c4_33.eq_1) (And.intro (uC Tryd.prog c4_34.eq_1) (And.intro (uC Tryd.prog c4_35.eq_1) (And.intro (uC Tryd.prog c4_36.eq_1) (And.intro (uR Tryd.prog c4_37.eq_1) (And.intro (uR Tryd.prog c4_38.eq_1) (And.intro (uC Tryd.prog c4_39.eq_1) (And.intro (uC Tryd.prog c4_40.eq_1) (And.intro (uC Tryd.prog c4_41.eq_1) (And.intro (uD Tryd.prog c4_42.eq_1) (And.intro (uR Tryd.prog c4_43.eq_1) (And.intro (uR Tryd.prog c4_44.eq_1) (And.intro (uC Tryd.prog c4_45.eq_1) (And.intro (uC Tryd.prog c4_46.eq_1) (And.intro (uC Tryd.prog c4_47.eq_1) (And.intro (uR Tryd.prog c4_48.eq_1) (And.intro (uR Tryd.prog c4_49.eq_1) (And.intro (uR Tryd.prog c4_50.eq_1) (And.intro (uR Tryd.prog c4_51.eq_1) (And.intro (uC Tryd.prog c4_52.eq_1) (And.intro (uC Tryd.prog c4_53.eq_1) (And.intro (uC Tryd.prog c4_54.eq_1) (And.intro (uR Tryd.prog c4_55.eq_1) (And.intro (uR Tryd.prog c4_56.eq_1) (And.intro (uC Tryd.prog c4_57.eq_1) (And.intro (uC Tryd.prog c4_58.eq_1) (And.intro (uC Tryd.prog c4_59.eq_1) (And.intro (uR Tryd.prog c4_60.eq_1) (And.intro (uC Tryd.prog c4_61.eq_1) (And.intro (uC Tryd.prog c4_62.eq_1) (And.intro (uC Tryd.prog c4_63.eq_1) (And.intro (uC Tryd.prog c4_64.eq_1) (And.intro (uC Tryd.prog c4_65.eq_1) (And.intro (uC Tryd.prog c4_66.eq_1) (And.intro (uC Tryd.prog c4_67.eq_1) (And.intro (uC Tryd.prog c4_68.eq_1) (And.intro (uC Tryd.prog c4_69.eq_1) (And.intro (uC Tryd.prog c4_70.eq_1) (And.intro (uC Tryd.prog c4_71.eq_1) (And.intro (uC Tryd.prog c4_72.eq_1) (And.intro (uC Tryd.prog c4_73.eq_1) (And.intro (uC Tryd.prog c4_74.eq_1) (And.intro (uC Tryd.prog c4_75.eq_1) (And.intro (uC Tryd.prog c4_76.eq_1) (And.intro (uC Tryd.prog c4_77.eq_1) (And.intro (uC Tryd.prog c4_78.eq_1) (And.intro (uC Tryd.prog c4_79.eq_1) (And.intro (uC Tryd.prog c4_80.eq_1) (And.intro (uC Tryd.prog c4_81.eq_1) (And.intro (uC Tryd.prog c4_82.eq_1) (And.intro (uC Tryd.prog c4_83.eq_1) (And.intro (uC Tryd.prog c4_84.eq_1) (And.intro (uC Tryd.prog c4_85.eq_1) (uC Tryd.prog c4.eq_1))))))))))))))))))))))))))))))))))))))))))))))))))))))))))))))))))))))))))))))))))))))) := (And.intro (uR Tryd.prog c4_0.eq_1) (And.intro (uR Tryd.prog c4_1.eq_1) (And.intro (uR Tryd.prog c4_2.eq_1) (And.intro (uR Tryd.prog c4_3.eq_1) (And.intro (uR Tryd.prog c4_4.eq_1) (And.intro (uC Tryd.prog c4_5.eq_1) (And.intro (uC Tryd.prog c4_6.eq_1) (And.intro (uC Tryd.prog c4_7.eq_1) (And.intro (uD Tryd.prog c4_8.eq_1) (And.intro (uR Tryd.prog c4_9.eq_1) (And.intro (uR Tryd.prog c4_10.eq_1) (And.intro (uR Tryd.prog c4_11.eq_1) (And.intro (uR Tryd.prog c4_12.eq_1) (And.intro (uC Tryd.prog c4_13.eq_1) (And.intro (uC Tryd.prog c4_14.eq_1) (And.intro (uC Tryd.prog c4_15.eq_1) (And.intro (uR Tryd.prog c4_16.eq_1) (And.intro (uR Tryd.prog c4_17.eq_1) (And.intro (uC Tryd.prog c4_18.eq_1) (And.intro (uC Tryd.prog c4_19.eq_1) (And.intro (uC Tryd.prog c4_20.eq_1) (And.intro (uR Tryd.prog c4_21.eq_1) (And.intro (uR Tryd.prog c4_22.eq_1) (And.intro (uR Tryd.prog c4_23.eq_1) (And.intro (uR Tryd.prog c4_24.eq_1) (And.intro (uC Tryd.prog c4_25.eq_1) (And.intro (uC Tryd.prog c4_26.eq_1) (And.intro (uC Tryd.prog c4_27.eq_1) (And.intro (uR Tryd.prog c4_28.eq_1) (And.intro (uR Tryd.prog c4_29.eq_1) (And.intro (uR Tryd.prog c4_30.eq_1) (And.intro (uR Tryd.prog c4_31.eq_1) (And.intro (uR Tryd.prog c4_32.eq_1) (And.intro (uR Tryd.prog c4_33.eq_1) (And.intro (uC Tryd.prog c4_34.eq_1) (And.intro (uC Tryd.prog c4_35.eq_1) (And.intro (uC Tryd.prog c4_36.eq_1) (And.intro (uR Tryd.prog c4_37.eq_1) (And.intro (uR Tryd.prog c4_38.eq_1) (And.intro (uC Tryd.prog c4_39.eq_1) (And.intro (uC Tryd.prog c4_40.eq_1) (And.intro (uC Tryd.prog c4_41.eq_1) (And.intro (uD Tryd.prog c4_42.eq_1) (And.intro (uR Tryd.prog c4_43.eq_1) (And.intro (uR Tryd.prog c4_44.eq_1) (And.intro (uC Tryd.prog c4_45.eq_1) (And.intro (uC Tryd.prog c4_46.eq_1) (And.intro (uC Tryd.prog c4_47.eq_1) (And.intro (uR Tryd.prog c4_48.eq_1) (And.intro (uR Tryd.prog c4_49.eq_1) (And.intro (uR Tryd.prog c4_50.eq_1) (And.intro (uR Tryd.prog c4_51.eq_1) (And.intro (uC Tryd.prog c4_52.eq_1) (And.intro (uC Tryd.prog c4_53.eq_1) (And.intro (uC Tryd.prog c4_54.eq_1) (And.intro (uR Tryd.prog c4_55.eq_1) (And.intro (uR Tryd.prog c4_56.eq_1) (And.intro (uC Tryd.prog c4_57.eq_1) (And.intro (uC Tryd.prog c4_58.eq_1) (And.intro (uC Tryd.prog c4_59.eq_1) (And.intro (uR Tryd.prog c4_60.eq_1) (And.intro (uC Tryd.prog c4_61.eq_1) (And.intro (uC Tryd.prog c4_62.eq_1) (And.intro (uC Tryd.prog c4_63.eq_1) (And.intro (uC Tryd.prog c4_64.eq_1) (And.intro (uC Tryd.prog c4_65.eq_1) (And.intro (uC Tryd.prog c4_66.eq_1) (And.intro (uC Tryd.prog c4_67.eq_1) (And.intro (uC Tryd.prog c4_68.eq_1) (And.intro (uC Tryd.prog c4_69.eq_1) (And.intro (uC Tryd.prog c4_70.eq_1) (And.intro (uC Tryd.prog c4_71.eq_1) (And.intro (uC Tryd.prog c4_72.eq_1) (And.intro (uC Tryd.prog c4_73.eq_1) (And.intro (uC Tryd.prog c4_74.eq_1) (And.intro (uC Tryd.prog c4_75.eq_1) (And.intro (uC Tryd.prog c4_76.eq_1) (And.intro (uC Tryd.prog c4_77.eq_1) (And.intro (uC Tryd.prog c4_78.eq_1) (And.intro (uC Tryd.prog c4_79.eq_1) (And.intro (uC Tryd.prog c4_80.eq_1) (And.intro (uC Tryd.prog c4_81.eq_1) (And.intro (uC Tryd.prog c4_82.eq_1) (And.intro (uC Tryd.prog c4_83.eq_1) (And.intro (uC Tryd.prog c4_84.eq_1) (And.intro (uC Tryd.prog c4_85.eq_1) (uC Tryd.prog c4.eq_1)))))))))))))))))))))))))))))))))))))))))))))))))))))))))))))))))))))))))))))))))))))))
def v4 : List RV := [.t 4]
theorem s4 : slimF Tryd.prog Tryd.f4 = some (c4.bare, v4) := by kernel_rfl

theorem FnExactUnread_ok (h : Heap) (vl : Value) (l : List Title) (s : Style) (sl : SlT h encTitle 3 vl l) (hll : l.length ≤ 9223372036854775807) (hnl : ∀ t ∈ l, t.tx.size ≤ 9223372036854775807) :
    ACall Tryd.prog 4 [vl, .agg (encStyle s).toArray] h fun r h' => r = .bool true := by
  refine ACall.of Tryd.func4 s4 (of_decide_eq_true rfl) ?_
  have B0 := Bx.new h [.int .i64 s.least, .int .i64 s.gap, .int .i64 s.rate, .int .i64 s.rows, .int .i64 s.wide] []
  have sl := sl.ext (Ext.more h [[.int .i64 s.least, .int .i64 s.gap, .int .i64 s.rate, .int .i64 s.rows, .int .i64 s.wide]])
  simp (maxSteps := 4000000) (disch := omega) only [ah, am, Nat.reduceEqDiff, reduceCtorEq, Nat.reduceAdd, Nat.reduceLeDiff, Nat.reduceMul, Nat.reduceLT, if_true, if_false, true_and, and_true, and_self, Nat.reduceBEq, QOp.loads, boxO, bslO, buildO, cutL, fillV, putL, w4, v4, encStyle]
  obtain ⟨hB, hhB⟩ : ∃ hB, hB = h.more [[.int .i64 s.least, .int .i64 s.gap, .int .i64 s.rate, .int .i64 s.rows, .int .i64 s.wide]] := ⟨_, rfl⟩
  rw [← hhB] at B0 sl ⊢
  have z00 : h.size + 1 = hB.size := by rw [hhB, size_more]; rfl
  refine stepC.of (szTitleS_ok _ vl l (1048576) sl (by omega) (by omega) hll hnl) ?_
  rintro _ H1 ⟨eH1, zl, rfl, hzl⟩
  have E1 := (show Ext hB _ from eH1)
  have zE1 := eH1.1
  simp (maxSteps := 4000000) (disch := omega) only [ah, am, Nat.reduceEqDiff, reduceCtorEq, Nat.reduceAdd, Nat.reduceLeDiff, Nat.reduceMul, Nat.reduceLT, if_true, if_false, true_and, and_true, and_self, Nat.reduceBEq, QOp.loads, boxO, bslO, buildO, cutL, fillV, putL, w4, v4]
  by_cases hsz0 : zl < 0
  · simp (maxSteps := 4000000) (disch := omega) only [ah, am, Nat.reduceEqDiff, reduceCtorEq, Nat.reduceAdd, Nat.reduceLeDiff, Nat.reduceMul, Nat.reduceLT, if_true, if_false, true_and, and_true, and_self, Nat.reduceBEq, QOp.loads, boxO, bslO, buildO, cutL, fillV, putL, w4, v4, decide_eq_true hsz0]
  have hzzl : (zl : Int) = 1048576 - l.length - totT l := by omega
  have DS := (B0.ext E1).ld
  simp (maxSteps := 4000000) (disch := omega) only [ah, am, Nat.reduceEqDiff, reduceCtorEq, Nat.reduceAdd, Nat.reduceLeDiff, Nat.reduceMul, Nat.reduceLT, if_true, if_false, true_and, and_true, and_self, Nat.reduceBEq, QOp.loads, boxO, bslO, buildO, cutL, fillV, putL, w4, v4, decide_eq_false hsz0, DS]
  have hlll : l.length ≤ 1048576 := by omega
  have httl : totT l ≤ 1048576 := by omega
  have hF := unreadF_len l s
  refine stepC.of (toTitleS_ok _ _ _ (sl.ext E1) hlll) ?_
  intro tpl H2 Fpl
  have E2 := Ext.trans E1 Fpl.1
  have zE2 := Fpl.1.1
  have Mpl := Fpl.mine
  have DS := (B0.ext E2).ld
  simp (maxSteps := 4000000) (disch := omega) only [ah, am, Nat.reduceEqDiff, reduceCtorEq, Nat.reduceAdd, Nat.reduceLeDiff, Nat.reduceMul, Nat.reduceLT, if_true, if_false, true_and, and_true, and_self, Nat.reduceBEq, QOp.loads, boxO, bslO, buildO, cutL, fillV, putL, w4, v4, rechk_cons, rechk_end, chkV_some, chkV_false, DS]
  have sk := toStyle_ok H2 s
  simp only [encStyle] at sk
  refine stepC.of sk ?_
  rintro _ G1 ⟨eG1, rfl⟩
  have Mpl := Mpl.ext eG1
  have E2 := Ext.trans E2 eG1
  have zG1 := eG1.1
  simp (maxSteps := 4000000) (disch := omega) only [ah, am, Nat.reduceEqDiff, reduceCtorEq, Nat.reduceAdd, Nat.reduceLeDiff, Nat.reduceMul, Nat.reduceLT, if_true, if_false, true_and, and_true, and_self, Nat.reduceBEq, QOp.loads, boxO, bslO, buildO, cutL, fillV, putL, w4, v4]
  refine stepC.of (specUnread_ok _ _ l s Mpl.slt (by omega) hnl) ?_
  intro w0 H3 Fw
  have Mpl := Mpl.ext Fw.1
  have E3 := Ext.trans E2 Fw.1
  have zE3 := Fw.1.1
  have Mw := Fw.mine
  simp (maxSteps := 4000000) (disch := omega) only [ah, am, Nat.reduceEqDiff, reduceCtorEq, Nat.reduceAdd, Nat.reduceLeDiff, Nat.reduceMul, Nat.reduceLT, if_true, if_false, true_and, and_true, and_self, Nat.reduceBEq, QOp.loads, boxO, bslO, buildO, cutL, fillV, putL, w4, v4]
  refine stepC.of (toTitleS_ok _ _ _ (sl.ext E3) hlll) ?_
  intro txl H4 Fxl
  have Mw := Mw.ext Fxl.1
  have E4 := Ext.trans E3 Fxl.1
  have zE4 := Fxl.1.1
  have Mxl := Fxl.mine
  have DS := (B0.ext E4).ld
  simp (maxSteps := 4000000) (disch := omega) only [ah, am, Nat.reduceEqDiff, reduceCtorEq, Nat.reduceAdd, Nat.reduceLeDiff, Nat.reduceMul, Nat.reduceLT, if_true, if_false, true_and, and_true, and_self, Nat.reduceBEq, QOp.loads, boxO, bslO, buildO, cutL, fillV, putL, w4, v4, DS]
  have sk := toStyle_ok H4 s
  simp only [encStyle] at sk
  refine stepC.of sk ?_
  rintro _ G2 ⟨eG2, rfl⟩
  have Mw := Mw.ext eG2
  have Mxl := Mxl.ext eG2
  have E4 := Ext.trans E4 eG2
  have zG2 := eG2.1
  simp (maxSteps := 4000000) (disch := omega) only [ah, am, Nat.reduceEqDiff, reduceCtorEq, Nat.reduceAdd, Nat.reduceLeDiff, Nat.reduceMul, Nat.reduceLT, if_true, if_false, true_and, and_true, and_self, Nat.reduceBEq, QOp.loads, boxO, bslO, buildO, cutL, fillV, putL, w4, v4]
  refine stepC.of (Unread_ok _ _ l s Mxl.slt (by omega) hnl) ?_
  intro g0 H5 Fg
  have Mw := Mw.ext Fg.1
  have Mxl := Mxl.ext Fg.1
  have E5 := Ext.trans E4 Fg.1
  have zE5 := Fg.1.1
  have Mg := Fg.mine
  generalize hR : unreadF l s = rl at Mw Mg hF
  simp (maxSteps := 4000000) (disch := omega) only [ah, am, Nat.reduceEqDiff, reduceCtorEq, Nat.reduceAdd, Nat.reduceLeDiff, Nat.reduceMul, Nat.reduceLT, if_true, if_false, true_and, and_true, and_self, Nat.reduceBEq, QOp.loads, boxO, bslO, buildO, cutL, fillV, putL, w4, v4]
  refine stepC.of (eqWorryS_ok _ _ _ _ _ Mg.slt Mw.slt (by omega) (by omega)) ?_
  rintro _ H6 ⟨eH6, rfl⟩
  have Mw := Mw.ext eH6
  have Mxl := Mxl.ext eH6
  have Mg := Mg.ext eH6
  have E6 := Ext.trans E5 eH6
  have zE6 := eH6.1
  simp (maxSteps := 4000000) (disch := omega) only [ah, am, Nat.reduceEqDiff, reduceCtorEq, Nat.reduceAdd, Nat.reduceLeDiff, Nat.reduceMul, Nat.reduceLT, if_true, if_false, true_and, and_true, and_self, Nat.reduceBEq, QOp.loads, boxO, bslO, buildO, cutL, fillV, putL, w4, v4, eq_self, decide_true]
  refine stepC.of (toTitleS_ok _ _ _ (sl.ext E6) hlll) ?_
  intro tyl H7 Fyl
  have Mw := Mw.ext Fyl.1
  have Mxl := Mxl.ext Fyl.1
  have Mg := Mg.ext Fyl.1
  have E7 := Ext.trans E6 Fyl.1
  have zE7 := Fyl.1.1
  have Myl := Fyl.mine
  simp (maxSteps := 4000000) (disch := omega) only [ah, am, Nat.reduceEqDiff, reduceCtorEq, Nat.reduceAdd, Nat.reduceLeDiff, Nat.reduceMul, Nat.reduceLT, if_true, if_false, true_and, and_true, and_self, Nat.reduceBEq, QOp.loads, boxO, bslO, buildO, cutL, fillV, putL, w4, v4]
  refine stepC.of (eqTitleS_ok _ _ _ _ _ Mxl.slt Myl.slt (by omega) (by omega)) ?_
  rintro _ H8 ⟨eH8, rfl⟩
  have Mw := Mw.ext eH8
  have Mxl := Mxl.ext eH8
  have Mg := Mg.ext eH8
  have Myl := Myl.ext eH8
  have E8 := Ext.trans E7 eH8
  have zE8 := eH8.1
  simp (maxSteps := 4000000) (disch := omega) only [ah, am, Nat.reduceEqDiff, reduceCtorEq, Nat.reduceAdd, Nat.reduceLeDiff, Nat.reduceMul, Nat.reduceLT, if_true, if_false, true_and, and_true, and_self, Nat.reduceBEq, QOp.loads, boxO, bslO, buildO, cutL, fillV, putL, w4, v4, eq_self, decide_true]
  refine stepC.of (markTitleS_mine (1) Mxl (by omega) (by omega)) ?_
  rintro _ H9 ⟨cH9, rfl⟩
  have Mw := Mw.chg cH9 (by omega)
  have Mg := Mg.chg cH9 (by omega)
  have E9 := cH9.ext E8 (by omega)
  have zE9 := cH9.1
  have hk : decide (((1 : Int) + 3 * l.length : Int) < 0) = false := decide_eq_false (by omega)
  simp (maxSteps := 4000000) (disch := omega) only [ah, am, Nat.reduceEqDiff, reduceCtorEq, Nat.reduceAdd, Nat.reduceLeDiff, Nat.reduceMul, Nat.reduceLT, if_true, if_false, true_and, and_true, and_self, Nat.reduceBEq, QOp.loads, boxO, bslO, buildO, cutL, fillV, putL, w4, v4, hk]
  refine stepC.of (eqWorryS_ok _ _ _ _ _ Mg.slt Mw.slt (by omega) (by omega)) ?_
  rintro _ H10 ⟨eH10, rfl⟩
  have Mw := Mw.ext eH10
  have Mg := Mg.ext eH10
  have E10 := Ext.trans E9 eH10
  have zE10 := eH10.1
  simp (maxSteps := 4000000) (disch := omega) only [ah, am, Nat.reduceEqDiff, reduceCtorEq, Nat.reduceAdd, Nat.reduceLeDiff, Nat.reduceMul, Nat.reduceLT, if_true, if_false, true_and, and_true, and_self, Nat.reduceBEq, QOp.loads, boxO, bslO, buildO, cutL, fillV, putL, w4, v4, eq_self, decide_true]
  refine stepC.of (markWorryS_mine (1) Mg (by omega) (by omega)) ?_
  rintro _ H11 ⟨cH11, Mg', rfl⟩
  have Mw := Mw.chg cH11 (by omega)
  have Mg := Mg'
  have E11 := cH11.ext E10 (by omega)
  have zE11 := cH11.1
  have hm : decide ((1 : Int) + 2 * rl.length < 0) = false := decide_eq_false (by omega)
  simp (maxSteps := 4000000) (disch := omega) only [ah, am, Nat.reduceEqDiff, reduceCtorEq, Nat.reduceAdd, Nat.reduceLeDiff, Nat.reduceMul, Nat.reduceLT, if_true, if_false, true_and, and_true, and_self, Nat.reduceBEq, QOp.loads, boxO, bslO, buildO, cutL, fillV, putL, w4, v4]
  refine stepC.of (heldWorryS_ok _ _ _ 1 Mg.slt (by omega) (by omega)) ?_
  rintro _ Hx ⟨hx, rfl⟩; rw [hx]; clear hx Hx
  simp (maxSteps := 4000000) (disch := omega) only [ah, am, Nat.reduceEqDiff, reduceCtorEq, Nat.reduceAdd, Nat.reduceLeDiff, Nat.reduceMul, Nat.reduceLT, if_true, if_false, true_and, and_true, and_self, Nat.reduceBEq, QOp.loads, boxO, bslO, buildO, cutL, fillV, putL, w4, v4, hm, eq_self, decide_true, (B0.ext E11).ld]
  refine stepC.of (toTitleS_ok _ _ _ (sl.ext E11) hlll) ?_
  intro tql H12 Fql
  have Mw := Mw.ext Fql.1
  have Mg := Mg.ext Fql.1
  have E12 := Ext.trans E11 Fql.1
  have zE12 := Fql.1.1
  have Mql := Fql.mine
  have DS := (B0.ext E12).ld
  simp (maxSteps := 4000000) (disch := omega) only [ah, am, Nat.reduceEqDiff, reduceCtorEq, Nat.reduceAdd, Nat.reduceLeDiff, Nat.reduceMul, Nat.reduceLT, if_true, if_false, true_and, and_true, and_self, Nat.reduceBEq, QOp.loads, boxO, bslO, buildO, cutL, fillV, putL, w4, v4, rechk_cons, rechk_end, chkV_some, chkV_false, DS]
  have sk := toStyle_ok H12 s
  simp only [encStyle] at sk
  refine stepC.of sk ?_
  rintro _ G3 ⟨eG3, rfl⟩
  have Mw := Mw.ext eG3
  have Mg := Mg.ext eG3
  have Mql := Mql.ext eG3
  have E12 := Ext.trans E12 eG3
  have zG3 := eG3.1
  simp (maxSteps := 4000000) (disch := omega) only [ah, am, Nat.reduceEqDiff, reduceCtorEq, Nat.reduceAdd, Nat.reduceLeDiff, Nat.reduceMul, Nat.reduceLT, if_true, if_false, true_and, and_true, and_self, Nat.reduceBEq, QOp.loads, boxO, bslO, buildO, cutL, fillV, putL, w4, v4]
  refine stepC.of (Unread_ok _ _ l s Mql.slt (by omega) hnl) ?_
  intro k0 H13 Fk
  have Mw := Mw.ext Fk.1
  have Mg := Mg.ext Fk.1
  have Mql := Mql.ext Fk.1
  have E13 := Ext.trans E12 Fk.1
  have zE13 := Fk.1.1
  have Mk := Fk.mine
  rw [hR] at Mk
  simp (maxSteps := 4000000) (disch := omega) only [ah, am, Nat.reduceEqDiff, reduceCtorEq, Nat.reduceAdd, Nat.reduceLeDiff, Nat.reduceMul, Nat.reduceLT, if_true, if_false, true_and, and_true, and_self, Nat.reduceBEq, QOp.loads, boxO, bslO, buildO, cutL, fillV, putL, w4, v4]
  refine stepC.of (eqWorryS_ok _ _ _ _ _ Mk.slt Mw.slt (by omega) (by omega)) ?_
  rintro _ H14 ⟨eH14, rfl⟩
  have Mw := Mw.ext eH14
  have Mg := Mg.ext eH14
  have Mql := Mql.ext eH14
  have Mk := Mk.ext eH14
  have E14 := Ext.trans E13 eH14
  have zE14 := eH14.1
  simp (maxSteps := 4000000) (disch := omega) only [ah, am, Nat.reduceEqDiff, reduceCtorEq, Nat.reduceAdd, Nat.reduceLeDiff, Nat.reduceMul, Nat.reduceLT, if_true, if_false, true_and, and_true, and_self, Nat.reduceBEq, QOp.loads, boxO, bslO, buildO, cutL, fillV, putL, w4, v4, eq_self, decide_true]
  refine stepC.of (heldWorryS_ok _ _ _ 1 Mg.slt (by omega) (by omega)) ?_
  rintro _ Hx ⟨hx, rfl⟩; rw [hx]; clear hx Hx
  simp (maxSteps := 4000000) (disch := omega) only [ah, am, Nat.reduceEqDiff, reduceCtorEq, Nat.reduceAdd, Nat.reduceLeDiff, Nat.reduceMul, Nat.reduceLT, if_true, if_false, true_and, and_true, and_self, Nat.reduceBEq, QOp.loads, boxO, bslO, buildO, cutL, fillV, putL, w4, v4, hm, eq_self, decide_true]
end Go.Proofs.YtgjppbmbpjomgaaDoor
